import PyProof.Rows.All
import Wide.All
import OpenK.AllK
import Wide.FinOn
import HandS.ForMost
import HandS.ForExc
import HandS.Evl
import HandS.TupAny
import HandS.TupMul
import HandS.TryMany
import HandS.ExcField
import HandS.ExcInit
import HandS.Zip
import HandS.DictComp
import HandS.Defaults
import HandS.More
import HandS.SetKeys
import HandS.Deep
import HandS.Codes
import HandS.HeadHook2
import HandS.HeadHook4
import HandS.HeadEnd
import HandS.Head2
import KE.KIsAll
import KE.KEqSeq
import PyProof.StrLawsChain
import PyProof.StrLawsTight
import PyProof.StrLawsAffix
import HandS.IsInst
import KE.BitLaws
import HandS.ExcIs
import HandS.Strs
import PyProof.Rows.StrMeet
import KE.GoesEnum
import KE.GoesMore
import HandS.Walk
import HandS.Style
import HandS.ExcOwn
import PyProof.P3Eq
import HandS.SetFor
import PySem.Challenge.RW_sameanswers_k61_desks_want_and_hear
set_option Elab.async false
set_option linter.all false
set_option maxRecDepth 100000
set_option maxHeartbeats 4000000
namespace Sa
open PySem PySem.Spec PyProof.Rows L2

/-! ## operators whatever the operands are -/
section
variable {X : Cx}
def orR (r r' : R2) : R2 := fun x y H Q => r x y H Q ∨ r' x y H Q
def rAddS : R2 := fun x y H Q => ∃ i j, x = .str i ∧ y = .str j ∧ i.length + j.length ≤ sizeLine ∧ Q (.str (i ++ j)) H
def rAddU (K : PySem.W.Frag) : R2 := orR (rI0 fun i j => .int (i + j)) (orR rAddS (orR rCat (rCatA K)))
theorem op_addU {K : PySem.W.Frag} (hK : X.K = K := by rfl) : OpR X (binaryOp .Add) (rAddU K) := hK ▸ op_add.or (op_add_str.or (op_cat.or op_catA))
/-- a text n times -/
def rptS (z : Str) (n : Int) : Str := ⟨(List.replicate n.toNat z.cps.toList).flatten.toArray⟩
theorem foldl_cps (a : Array Nat) : ∀ (m : Nat) (b : Array Nat), (List.replicate m a).foldl (fun x y => x ++ y) b = (b.toList ++ (List.replicate m a.toList).flatten).toArray
  | 0, b => by simp
  | m + 1, b => by
    rw [List.replicate_succ, List.foldl_cons, foldl_cps a m (b ++ a), List.replicate_succ, List.flatten_cons, Array.toList_append, List.append_assoc]
def rMulS : R2 := fun x y H Q => ∃ (z : Str) (n : Int), x = .str z ∧ y = .int n ∧ -(2 ^ 63) ≤ n ∧ n < 2 ^ 63 ∧ z.length * n.toNat ≤ sizeLine ∧ Q (.str (rptS z n)) H
theorem rptS_len (z : Str) (n : Int) : (rptS z n).length = z.length * n.toNat := by
  show ((List.replicate n.toNat z.cps.toList).flatten.toArray).size = z.cps.size * n.toNat
  rw [List.size_toArray, List.length_flatten, List.map_replicate, List.sum_replicate_nat, Array.length_toList, Nat.mul_comm]
theorem rptS_one {z : Str} : rptS z 1 = z := by
  show Str.mk _ = z
  cases z
  simp [rptS]
theorem op_mulS : OpR X (binaryOp .Mult) rMulS := by
  intro pins s σ H x y v u Q I rx ry h
  obtain ⟨z, n, rfl, rfl, h1, h2, hl, q⟩ := h
  obtain ⟨t, rfl⟩ := rx
  obtain ⟨t', rfl⟩ := ry
  have fin : ∀ t tk, EP X pins σ Q (.str (rptS z n) t) { s with toks := tk } := fun t tk => ⟨.str (rptS z n), H, I.tok _, ⟨_, rfl⟩, q⟩
  have e63 : (2 : Int) ^ 63 = 9223372036854775808 := by decide
  rw [e63] at h1 h2
  refine PySem.P.mul_str (by rw [e63, decide_eq_false (by omega), decide_eq_false (by omega)]; rfl) (fun hn hz hgt => ?_) (fun _ _ => decide_eq_false (by omega)) ?_
  · rw [sizeLine_eq] at hl
    have hz1 : n ≠ 1 ∧ z.length ≠ 0 := by simpa using hz
    have e : ((z.length * n.toNat : Nat) : Int) = (z.length : Int) * n := by rw [Int.natCast_mul]; congr 1; omega
    have g : (z.length : Int) ≤ 9223372036854775807 / n := (Int.le_ediv_iff_mul_le (by omega)).mpr (by omega)
    rw [e63] at hgt
    have g2 : (9223372036854775808 - 1 : Int) / n = 9223372036854775807 / n := rfl
    omega
  · by_cases hn : n < 1
    · rw [if_pos hn]
      refine ⟨by decide, ?_⟩
      have e : rptS z n = Str.empty := by
        have : n.toNat = 0 := by omega
        unfold rptS
        rw [this]
        rfl
      rw [← e]
      exact fin _ _
    · rw [if_neg hn]
      by_cases h : (n == 1 || z.length == 0) = true
      · rw [if_pos h]
        have e : rptS z n = z := by
          rcases Bool.or_eq_true _ _ |>.mp h with h | h
          · rw [eq_of_beq h, rptS_one]
          · have hl0 : z.cps = #[] := Array.size_eq_zero_iff.mp (eq_of_beq h)
            have hz : z = ⟨#[]⟩ := by cases z; simp_all
            subst hz
            simp [rptS]
        have f := fin t s.toks
        rw [e] at f
        exact f
      · rw [if_neg h]
        have e : (⟨(List.replicate n.toNat z.cps).foldl (· ++ ·) #[]⟩ : Str) = rptS z n := by
          rw [foldl_cps]
          simp [rptS]
        rw [e]
        exact ⟨by rw [rptS_len]; exact hl, fin _ _⟩
def rMulU (K : PySem.W.Frag) : R2 := orR (rI CMul fun i j => .int (i * j)) (orR rRep (orR (rRepT K) rMulS))
theorem op_mulU {K : PySem.W.Frag} (hK : X.K = K := by rfl) : OpR X (binaryOp .Mult) (rMulU K) := hK ▸ op_mul.or (op_rep.or (op_repT.or op_mulS))
def rSubU : R2 := rI0 fun i j => .int (i - j)
theorem op_subU : OpR X (binaryOp .Sub) rSubU := op_sub
def rDivU : R2 := rI CDiv fun i j => .int (i / j)
theorem op_divU : OpR X (binaryOp .FloorDiv) rDivU := op_fdiv
def rModU : R2 := rI (fun _ j => 0 < j) fun i j => .int (i % j)
theorem op_modU : OpR X (binaryOp .Mod) rModU := op_mod
def rBandU : R2 := rI0 fun i j => .int (Builtin.bitAnd i j)
theorem op_bandU : OpR X (binaryOp .BitAnd) rBandU := op_and
def rOrdS (p : List Nat → List Nat → Bool) : R2 := fun x y H Q => ∃ i j, x = .str i ∧ y = .str j ∧ Q (.bl (p i.cps.toList j.cps.toList)) H
def rLtU : R2 := orR (rI0 fun i j => .bl (decide (i < j))) (rOrdS fun a b => decide (a < b))
def rLeU : R2 := orR (rI0 fun i j => .bl (decide (i ≤ j))) (rOrdS fun a b => !decide (b < a))
def rGtU : R2 := orR (rI0 fun i j => .bl (decide (j < i))) (rOrdS fun a b => decide (b < a))
def rGeU : R2 := orR (rI0 fun i j => .bl (decide (j ≤ i))) (rOrdS fun a b => !decide (a < b))
theorem op_ltU : OpR X (compareOp .Lt) rLtU := op_lt.or op_lt_str
theorem op_leU : OpR X (compareOp .LtE) rLeU := op_le.or op_le_str
theorem op_gtU : OpR X (compareOp .Gt) rGtU := op_gt.or op_gt_str
theorem op_geU : OpR X (compareOp .GtE) rGeU := op_ge.or op_ge_str
def rEqU (K : PySem.W.Frag) : R2 := orR rEq (rEqD K)
def rNeU (K : PySem.W.Frag) : R2 := orR rNe (rNeD K)
theorem op_eqU {K : PySem.W.Frag} {A : Around} (hu : A.units + 64 < cLine) (hA : X.A = A := by rfl) (hK : X.K = K := by rfl) : OpR X (compareOp .Eq) (rEqU K) := hK ▸ op_eq.or (op_eqD (by rw [hA]; exact hu))
theorem op_neU {K : PySem.W.Frag} {A : Around} (hu : A.units + 64 < cLine) (hA : X.A = A := by rfl) (hK : X.K = K := by rfl) : OpR X (compareOp .NotEq) (rNeU K) := hK ▸ op_ne.or (op_neD (by rw [hA]; exact hu))
def rIsU : R2 := fun x y H Q => y = .non ∧ Q (.bl (decide (x = .non))) H
def rIsNotU : R2 := fun x y H Q => y = .non ∧ Q (.bl (!decide (x = .non))) H
theorem op_isU : OpR X (compareOp .Is) rIsU := op_isN
theorem op_isNotU : OpR X (compareOp .IsNot) rIsNotU := op_notN
def rInC : R2 := fun x y H Q => ∃ (c : Nat) (z : Str), x = .str ⟨#[c]⟩ ∧ y = .str z ∧ Q (.bl (decide (c ∈ z.cps.toList))) H
def rInT : R2 := fun x y H Q => ∃ i j, x = .str i ∧ y = .str j ∧ Q (.bl (!(Builtin.Str.occurrences j i 0 j.length 1).isEmpty)) H
def rNotInC : R2 := fun x y H Q => ∃ (c : Nat) (z : Str), x = .str ⟨#[c]⟩ ∧ y = .str z ∧ Q (.bl (!decide (c ∈ z.cps.toList))) H
def rNotInT : R2 := fun x y H Q => ∃ i j, x = .str i ∧ y = .str j ∧ Q (.bl (!(!(Builtin.Str.occurrences j i 0 j.length 1).isEmpty))) H
def rInU (K : PySem.W.Frag) : R2 := orR rInC (orR rInT (rIn K false))
def rNotInU (K : PySem.W.Frag) : R2 := orR rNotInC (orR rNotInT (rIn K true))
theorem op_inU {K : PySem.W.Frag} (hK : X.K = K := by rfl) : OpR X (compareOp .In) (rInU K) := hK ▸ op_in_sign.or (op_in_str.or op_in_seq)
theorem op_notInU {K : PySem.W.Frag} (hK : X.K = K := by rfl) : OpR X (compareOp .NotIn) (rNotInU K) := hK ▸ op_notIn_sign.or (op_notin_str.or op_notIn_seq)
def rSlU (K : PySem.W.Frag) : V → Option Int → Option Int → Hp → VK → Prop := fun x lo hi H Q => rSlL K x lo hi H Q ∨ rSlS x lo hi H Q ∨ rSlA K x lo hi H Q
theorem ix_U {K : PySem.W.Frag} (hK : X.K = K := by rfl) : IxR X (rIx K) := hK ▸ ix_seq
theorem sl_U {K : PySem.W.Frag} (hK : X.K = K := by rfl) : SlR X (rSlU K) := hK ▸ L2.SlR.or sl_list (L2.SlR.or sl_str sl_tupA)
/-! any of whole numbers -/
def rAnyI (K : PySem.W.Frag) : List V → Hp → VK → Prop := fun vs H Q => ∃ (a : Addr) (ns : List Int), vs = [V.ref a] ∧ SqL K H a (ns.map V.int) ∧ Q (.bl (ns.any (· != 0))) H
theorem any_rangeI : ∀ ns : List Int, ((List.range ns.length).any fun i => ns.getD i 0 != 0) = ns.any (· != 0)
  | [] => rfl
  | n :: ns => by
    have ih := any_rangeI ns
    rw [List.length_cons, List.range_succ_eq_map, List.any_cons, List.any_map, List.any_cons, ← ih]
    rfl
theorem cr_anyI (hc : X.calm = true) : CallR X (.builtin "any") (rAnyI X.K) := by
  intro pins s σ H vs us Q I r h
  obtain ⟨a, ns, rfl, hs, q⟩ := h
  obtain ⟨its, rv, hl, _⟩ := I.list hs
  have hi := rv.ints
  have hlen : its.length = ns.length := by rw [← rv.length, List.length_map]
  rw [Vals.ref1 r]
  refine call_any_walk (iter_any hl.isList fun s₂ e2 st hne => ?_)
  cases e2
  refine ⟨_, _, _, _, _, _, fun i => ns.getD i 0 != 0, rfl, Walks.list (A := X.A.in1) (I.ok.hd hc) _ a hne its.toArray, st, fun i v s Q E hv hq => ?_, fun h' tk hk => ?_⟩
  · have hv' : its[i]? = some v := by simpa using hv
    obtain ⟨n, hn⟩ : ∃ n, ns[i]? = some n := by
      have hlt := (List.getElem?_eq_some_iff.mp hv').1
      exact ⟨ns[i]'(by omega), List.getElem?_eq_getElem (by omega)⟩
    obtain ⟨u, hu, ru⟩ := rv.get (i := i) (x := V.int n) (by rw [List.getElem?_map, hn]; rfl)
    rw [hv'] at hu
    cases hu
    obtain ⟨t, rfl⟩ := ru
    have e : ns.getD i 0 = n := by rw [List.getD_eq_getElem?_getD, hn]; rfl
    have hq' : Q (ns.getD i 0 != 0) s := hq
    rw [e] at hq'
    exact truthy_int hq'
  · refine ⟨.bl _, H, I.kept fun b o eo => hk b o (fun hmem => ?_) (Heap.get?_push_of_some _ eo), ?_, q⟩
    · rcases List.mem_cons.mp hmem with e1 | hmem
      · exact absurd (e1 ▸ Heap.lt_size eo) (Nat.lt_irrefl _)
      · cases hmem
    · show Value.bool _ = Value.bool _
      rw [List.size_toArray, hlen, any_rangeI]
def rAnyU (K : PySem.W.Frag) : List V → Hp → VK → Prop := fun vs H Q => rAny K vs H Q ∨ rAnyI K vs H Q
theorem CallR.or2 {f : Value} {r r' : List V → Hp → VK → Prop} (h : CallR X f r) (h' : CallR X f r') : CallR X f (fun vs H Q => r vs H Q ∨ r' vs H Q) := by
  intro pins s σ H vs us Q I rr q
  exact q.elim (fun q => h pins s σ H vs us Q I rr q) (fun q => h' pins s σ H vs us Q I rr q)
theorem cr_anyU {K : PySem.W.Frag} (hc : X.calm = true) (hK : X.K = K := by rfl) : CallR X (.builtin "any") (rAnyU K) := hK ▸ CallR.or2 (cr_any hc) (cr_anyI hc)
end
end Sa

namespace Sa
open PySem L2

/-! ## the text's facts -/
def dOf (x : Str) (st : Stmt) : He.DefD := ⟨(x, none), x, x, defArgs st, defBody st, defScope st, [], []⟩
/-- further facts of classes: an error class with an __init__ of its own, whose fields are read -/
inductive Fx where
  | oex (x : Str)
  | xf (x : Str)
  | cst (x : Str) (d : PyData)
  | cstA (p : PySem.W.Frag → Addr) (d : PyData)
  | exi (x : Str)
  | kit (x y : Str) (b : Bool)
/-! what is written in the top as data -/
mutual
def cstB (K : PySem.W.Frag) : PyData → Value → Bool
  | .none, v => decide (v = .none)
  | .bool b, v => decide (v = .bool b)
  | .int i, v => (match v with
    | .int j _ => decide (i = j)
    | _ => false)
  | .str x, v => (match v with
    | .str y _ => decide (x = y)
    | _ => false)
  | .list _, _ => false
  | .tuple ds, v => (match v with
    | .ref a => (match K.lookup a with
      | some ⟨.type t, _, .seq its _, _⟩ => decide (t = "tuple") && (decide (its.size ≤ sizeLine) && cstAll K ds its.toList)
      | _ => false)
    | _ => false)
  | .dict _, _ => false
def cstAll (K : PySem.W.Frag) : List PyData → List Value → Bool
  | [], [] => true
  | d :: ds, v :: vs => cstB K d v && cstAll K ds vs
  | [], _ :: _ => false
  | _ :: _, [] => false
end
mutual
theorem cstB_ok {K : PySem.W.Frag} : ∀ (d : PyData) (v : Value), cstB K d v = true → ∃ x, RelV x v ∧ ∀ H, Dp K H x d
  | .none, v, h => by
    unfold cstB at h
    cases of_decide_eq_true h
    exact ⟨.non, rfl, fun H => .non⟩
  | .bool b, v, h => by
    unfold cstB at h
    cases of_decide_eq_true h
    exact ⟨.bl b, rfl, fun H => .bl b⟩
  | .int i, v, h => by
    unfold cstB at h
    split at h
    · rename_i j t
      cases of_decide_eq_true h
      exact ⟨.int i, ⟨t, rfl⟩, fun H => .int i⟩
    · cases h
  | .str x, v, h => by
    unfold cstB at h
    split at h
    · rename_i y t
      cases of_decide_eq_true h
      exact ⟨.str x, ⟨t, rfl⟩, fun H => .str x⟩
    · cases h
  | .list _, v, h => by unfold cstB at h; cases h
  | .dict _, v, h => by unfold cstB at h; cases h
  | .tuple ds, v, h => by
    unfold cstB at h
    split at h
    · rename_i a
      split at h
      · rename_i t dd its n sl hk
        simp only [Bool.and_eq_true, decide_eq_true_eq] at h
        obtain ⟨rfl, hz, ha⟩ := h
        obtain ⟨xs, r, hx⟩ := cstAll_ok ds its.toList ha
        exact ⟨.ref a, rfl, fun H => .tup (.inr ⟨_, its, n, hk, rfl, rfl, hz, r⟩) (hx H)⟩
      · cases h
    · cases h
theorem cstAll_ok {K : PySem.W.Frag} : ∀ (ds : List PyData) (vs : List Value), cstAll K ds vs = true → ∃ xs, Vals xs vs ∧ ∀ H, DpAll K H xs ds
  | [], [], _ => ⟨[], .nil, fun H => .nil⟩
  | d :: ds, v :: vs, h => by
    unfold cstAll at h
    rw [Bool.and_eq_true] at h
    obtain ⟨x, r1, h1⟩ := cstB_ok d v h.1
    obtain ⟨xs, r2, h2⟩ := cstAll_ok ds vs h.2
    exact ⟨x :: xs, .cons r1 r2, fun H => .cons (h1 H) (h2 H)⟩
  | [], _ :: _, h => by unfold cstAll at h; cases h
  | _ :: _, [], h => by unfold cstAll at h; cases h
end
theorem cst_ref {K : PySem.W.Frag} {d : PyData} {a : Addr} (h : cstB K d (.ref a) = true) (H : Hp) : Dp K H (.ref a) d := by
  obtain ⟨x, r, hx⟩ := cstB_ok d _ h
  cases x <;> first | (cases r; done) | (obtain ⟨_, r⟩ := r; cases r; done) | (injection r with r; subst r; exact hx H)
def oexB (K : PySem.W.Frag) (C : Addr) : Bool :=
  (match K.lookup C with
  | some ⟨.type t, _, .cls cd, sl⟩ => (match cd.mro, sl.toList with
    | .ref D :: bm, [_, _, _, _, some (.builtin n), _] => decide (t = "type") && (decide (D = C) && (decide (n = "ValueError.__new__") && (!cd.hasDel && (cd.hasDict && PySem.HandSPX.refsVE bm))))
    | _, _ => false)
  | _ => false) && (decide (PySem.W.findIn K (.ref C) "__setattr__" = some (some (.builtin "object.__setattr__"))) && (decide (PySem.W.subIn K (.ref C) (.type "BaseException") = some true) &&
    (decide (PySem.W.typeIn K (.ref C) = some (.type "type")) && PySem.W.keepIn K (.ref C))))
theorem oexB_ok {K : PySem.W.Frag} {C : Addr} (h : oexB K C = true) : OexC K C := by
  unfold oexB at h
  rw [Bool.and_eq_true] at h
  obtain ⟨h1, h2⟩ := h
  simp only [Bool.and_eq_true, decide_eq_true_eq] at h2
  obtain ⟨h3, h4, h5, h6⟩ := h2
  refine ⟨?_, h3, h4, h5, h6⟩
  cases q : K.lookup C with
  | none => rw [q] at h1; cases h1
  | some o =>
    rw [q] at h1
    obtain ⟨oc, dd, dt, sl⟩ := o
    cases oc <;> try (cases h1; done)
    cases dt <;> try (cases h1; done)
    rename_i t cd
    obtain ⟨nm, bs, mro, ns, qn, hd, sn, sub, ab, col, dl⟩ := cd
    obtain ⟨l⟩ := sl
    dsimp only at h1
    split at h1
    · rename_i m1 l1 D bm k0 k1 k2 k3 n k5
      simp only [Bool.and_eq_true, decide_eq_true_eq, Bool.not_eq_true'] at h1
      obtain ⟨rfl, rfl, rfl, hdel, rfl, hr⟩ := h1
      subst hdel
      exact ⟨nm, qn, ns, bs, bm, sn, sub, ab, col, dd, k0, k1, k2, k3, k5, rfl, hr⟩
    · cases h1
/-- what isinstance asks of an error's class -/
def exiB (K : PySem.W.Frag) (D : Addr) : Bool :=
  decide (PySem.W.findIn K (.ref D) "__getattribute__" = some (some (.builtin "BaseException.__getattribute__"))) && (decide (PySem.W.findIn K (.ref D) "__getattr__" = some none) &&
  (decide (PySem.W.subIn K (.ref D) (.type "BaseException") = some true) && (PySem.W.hasDictIn K D && (decide (PySem.W.findIn K (.ref D) "__class__" = some (some (.builtin "object.__class__"))) &&
  (decide (PySem.W.specialIn K (.builtin "object.__class__") "__get__" = some (some (.builtin "getset_descriptor.__get__"))) && (decide (PySem.W.takesIn K (.builtin "object.__class__") = some true) && decide (PySem.W.mroIn K D (.type "object") = some true)))))))
def Fx.ok (K : PySem.W.Frag) : Fx → Bool
  | .oex x => oexB K (He.ga K x)
  | .xf x => xfB K (He.ga K x)
  | .cst x d => cstB K d (.ref (He.ga K x))
  | .cstA p d => cstB K d (.ref (p K))
  | .exi x => exiB K (He.ga K x)
  | .kit x y b => decide (PySem.W.kitOne K (.ref (He.ga K x)) (.ref (He.ga K y)) = some b)
def exs (fx : List Fx) (K : PySem.W.Frag) : Bool := fx.all fun f => f.ok K
def Tx (fa : List He.Fa) (fn : List He.DefD) (fx : List Fx) (K : PySem.W.Frag) (mg : Str → Option Value) : Prop := ∃ h : Heap, K.In h ∧ h.Ns mainGlobals mg ∧ He.SaysD fa fn K ∧ exs fx K = true
section
variable {fa : List He.Fa} {fn : List He.DefD} {fx : List Fx} {K : PySem.W.Frag} {mg : Str → Option Value}
theorem Tx.free (T : Tx fa fn fx K mg) (i : Nat) {x : Str} (h : fa[i]? = some (.free x) := by rfl) : mg x = none := by
  obtain ⟨hp, X, G, c, _⟩ := T
  exact He.free_ok X G (c.fact i h)
theorem Tx.glo (T : Tx fa fn fx K mg) (i : Nat) {x : Str} (h : fa[i]? = some (.glo x) := by rfl) : mg x = some (.ref (He.ga K x)) := by
  obtain ⟨hp, X, G, c, _⟩ := T
  exact He.glo_ok X G (c.fact i h)
theorem Tx.int (T : Tx fa fn fx K mg) (i : Nat) {x : Str} {n : Int} (h : fa[i]? = some (.int x n) := by rfl) : ∃ t, mg x = some (.int n t) := by
  obtain ⟨hp, X, G, c, _⟩ := T
  exact He.int_ok X G (c.fact i h)
theorem Tx.str (T : Tx fa fn fx K mg) (i : Nat) {x z : Str} (h : fa[i]? = some (.str x z) := by rfl) : ∃ t, mg x = some (.str z t) := by
  obtain ⟨hp, X, G, c, _⟩ := T
  exact He.str_ok X G (c.fact i h)
end
theorem Tx.fact {fa : List He.Fa} {fn : List He.DefD} {fx : List Fx} {K : PySem.W.Frag} {mg : Str → Option Value} (T : Tx fa fn fx K mg) (i : Nat) {f : He.Fa} (h : fa[i]? = some f := by rfl) : f.ok K = true := by
  obtain ⟨hp, X, G, c, _⟩ := T
  exact c.fact i h
theorem Tx.fx {fa : List He.Fa} {fn : List He.DefD} {fx : List Fx} {K : PySem.W.Frag} {mg : Str → Option Value} (T : Tx fa fn fx K mg) (i : Nat) {f : Fx} (h : fx[i]? = some f := by rfl) : f.ok K = true := by
  obtain ⟨hp, X, G, c, e⟩ := T
  exact List.all_eq_true.mp e f (List.mem_of_getElem? h)
/-- a def that stands under the module's name x and keeps sp -/
structure DefAt (P : Program) (w : World) (K : PySem.W.Frag) (mg : Str → Option Value) (base : Heap) (CX : CXT) (x : Str) (k : Nat) (ps : List Str) (sp : Sp) : Prop where
  gl : mg x = some (.ref (He.ga K x))
  kp : PySem.W.keepIn K (.ref (He.ga K x)) = true
  ok : ∃ fd, FnOk P w K mg base CX k (He.ga K x) fd ps sp ∧ Binds K fd ps []
/-- how a def without defaults binds its parameters -/
def BindN (x : Str) (st : Stmt) (ps : List Str) : Prop := ∀ (kV doc pm : Value) (an : Option Addr) (cdv ct : Value) (us : List Value), us.length = ps.length →
  bindArgs (PySem.W.fnOf x x (defArgs st) (defBody st) (defScope st) .none kV doc pm an cdv ct) ⟨us, []⟩ = pure (ps.zip us)
section
variable {fa : List He.Fa} {fn : List He.DefD} {fx : List Fx} {P : Program} {w : World} {K : PySem.W.Frag} {mg : Str → Option Value} {base : Heap}
/-- what a body owes -/
def Body (P : Program) (w : World) (K : PySem.W.Frag) (mg : Str → Option Value) (base : Heap) (x : Str) (st : Stmt) (N : List Str) (k : Nat) (sp : Sp) : Prop :=
  ∀ (cdv : Value) (A : Around) (outer : List Env) (s : Shared) (H : Hp) (vs : List V) (Q : VK) (E : XK), sp vs H Q E → let X : Cx := (cxOf CX0 P w K mg base N x (defScope st) (He.ga K x) cdv A outer s H E).nox
    Room k X.A → ∃ t, PSs X (defBody st) t ∧ t { nx := fun _ H' => Q .non H', rt := Q } (start N vs) H
theorem def_of (T : Tx fa fn fx K mg) (i j : Nat) {x : Str} {st : Stmt} {N ps : List Str} {k : Nat} {sp : Sp} (S : FnScope N ps (defScope st)) (B : BindN x st ps) (len : ∀ vs H Q E, sp vs H Q E → vs.length = ps.length)
    (body : Body P w K mg base x st N k sp) (hd : fn[i]? = some (dOf x st) := by rfl) (hg : fa[j]? = some (.glo x) := by rfl) : DefAt P w K mg base CX0 x (k + 1) ps sp := by
  have gl := T.glo j hg
  obtain ⟨hp, X, G, c, _⟩ := T
  obtain ⟨fd, F⟩ := c.def_ i hd
  refine ⟨gl, F.kp, fd, F.ok S len fun cdv A outer s H vs Q E hr h => ?_, F.bindsN B⟩
  obtain ⟨t, h1, h2⟩ := body cdv A outer s H vs Q E h hr
  exact ⟨t, h1.nox, h2⟩
end
/-- the law's own def, for the end -/
theorem law_of {fa : List He.Fa} {fn : List He.DefD} {P : Program} {w : World} {K : PySem.W.Frag} {mg : Str → Option Value} {h : Heap} {f : Addr} {N : List Str} {x : Str} {st : Stmt} {k : Nat} {sp : Sp} (KX : K.In h) (G : h.Ns mainGlobals mg) (c : He.SaysD fa fn K)
    (hf : mg "law" = some (.ref f)) (i j : Nat) (S : FnScope N [x] (defScope st)) (B : BindN "law" st [x]) (len : ∀ vs H Q E, sp vs H Q E → vs.length = 1) (body : ∀ base, Body P w K mg base "law" st N k sp)
    (hd : fn[i]? = some (dOf "law" st) := by rfl) (hg : fa[j]? = some (.glo "law") := by rfl) :
    ∃ fd : FuncData, (∀ (s : Shared) (v : Value), BindsTo s fd ⟨[v], []⟩ [(x, v)]) ∧ ∀ base : Heap, K.In base → base.Ns mainGlobals mg → FnOk P w K mg base CX0 (k + 1) f fd [x] sp := by
  obtain ⟨fd, F⟩ := c.def_ i hd
  have gl := He.glo_ok KX G (c.fact j hg)
  cases hf.symm.trans gl
  have b := F.bindsA (ps := [x]) B
  refine ⟨fd, fun s v => b s [v] rfl, fun base _ _ => F.ok S len fun cdv A outer s H vs Q E hr h => ?_⟩
  obtain ⟨t, h1, h2⟩ := body base cdv A outer s H vs Q E h hr
  exact ⟨t, h1.nox, h2⟩
theorem DefAt.up {P : Program} {w : World} {K : PySem.W.Frag} {mg : Str → Option Value} {base : Heap} {CX : CXT} {x : Str} {j k : Nat} {ps : List Str} {sp : Sp} (D : DefAt P w K mg base CX x j ps sp) (h : j ≤ k) : DefAt P w K mg base CX x k ps sp :=
  ⟨D.gl, D.kp, let ⟨fd, F, B⟩ := D.ok; ⟨fd, F.mono h, B⟩⟩
section
variable {X : Cx} {CX : CXT} {x : Str} {k j : Nat} {ps : List Str} {sp : Sp} {E : XK} {p pos : Pos} {e : Expr} {es : List Expr} {t : TA}
def tCallA (sp : Sp) (E : XK) (t : TA) : TE := fun σ H Q => t σ H fun vs H1 => sp vs H1 Q E
theorem pe_callA (D : DefAt X.prog X.w X.K X.mg X.base CX x j ps sp) (hr : Room k X.A) (hx : Passes CX X E) (ha : PA X (e :: es) t) (hjk : j ≤ k := by decide) (hg : Gl X x := by rfl)
    (hdb : (x == ("__debug__" : Str)) = false := by decide) (he : starEach (e :: es) X.env = (false, eval e X.env) :: starEach es X.env := by rfl) (hpl : (backTo pos (starEach es X.env)).any (·.1) = false := by rfl) :
    PE X (.Call (.Name x p) (e :: es) [] pos) (tCallA sp E t) := by
  obtain ⟨fd, F, B⟩ := D.ok
  have h := pe_call (F.mono hjk) hr hg D.gl D.kp B .nil hx ha hdb he hpl (p := p)
  have e : tCall sp [] E t = tCallA sp E t := by
    funext σ H Q
    unfold tCall tCallA
    simp only [List.append_nil]
  rw [← e]
  exact h
theorem pe_gInt {i : Int} (hm : ∃ t, X.mg x = some (.int i t)) (hg : Gl X x := by rfl) (hd : (x == ("__debug__" : Str)) = false := by decide) : PE X (.Name x pos) (tC (.int i)) :=
  let ⟨t, h⟩ := hm; pe_glob hg h ⟨t, rfl⟩ hd
theorem pe_gStr {z : Str} (hm : ∃ t, X.mg x = some (.str z t)) (hg : Gl X x := by rfl) (hd : (x == ("__debug__" : Str)) = false := by decide) : PE X (.Name x pos) (tC (.str z)) :=
  let ⟨t, h⟩ := hm; pe_glob hg h ⟨t, rfl⟩ hd
end

theorem pe_gCon {X : Cx} {x : Str} {pos : Pos} {a : Addr} (hm : X.mg x = some (.ref a)) (hg : Gl X x := by rfl) (hd : (x == ("__debug__" : Str)) = false := by decide) : PE X (.Name x pos) (tC (.ref a)) := pe_glob hg hm rfl hd
/-! ## readings, one step at a time -/
/-- a new object o at p: all else is as it was -/
structure New (H : Hp) (p : Addr) (o : HO) (H' : Hp) : Prop where
  fr : H p = none
  eq : H' = upd H p o
section
variable {K : PySem.W.Frag} {σ : St} {H : Hp} {D : Ends} {Q : VK} {i j : Int} {n : Nat} {v x y : V} {te ta tb tc : TE} {t u : TS} {g : TG} {tt tA tB1 : TT} {r r' : R2} {a b p : Addr} {xs ys : List V} {s z : Str}
theorem c_seq (h : t { D with nx := u D } σ H) : tSeq t u D σ H := h
theorem c_next (h : D.nx σ H) : tNext D σ H := h
theorem c_ret (h : te σ H D.rt) : tRet te D σ H := h
theorem c_retN (h : D.rt .non H) : tRetN D σ H := h
theorem c_asg (h : te σ H fun x H1 => g x σ H1 D.nx) : tAsg te g D σ H := h
theorem c_gName {R : St → Hp → Prop} (h : R (σ.set n (some v)) H) : gName n v σ H R := h
theorem c_drop (h : te σ H fun _ H1 => D.nx σ H1) : tDrop te D σ H := h
theorem c_ifs (h : tt σ H fun b H1 => if b = true then t D σ H1 else u D σ H1) : tIfS tt t u D σ H := h
theorem c_var (e : σ[n]? = some (some v)) (q : Q v H) : tVar n σ H Q := ⟨v, e, q⟩
theorem c_c (q : Q v H) : tC v σ H Q := q
theorem c_op (h : ta σ H fun x H1 => tb σ H1 fun y H2 => r x y H2 Q) : tOp r ta tb σ H Q := h
theorem c_chain (h : ta σ H fun x H1 => tb σ H1 fun y H2 => r x y H2 fun z H3 => ∃ k, z = .bl k ∧ (if k = true then tc σ H3 fun w' H4 => r' y w' H4 Q else Q (.bl false) H3)) : tChain r r' ta tb tc σ H Q := h
theorem c_test {R : Bool → Hp → Prop} (h : te σ H fun x H1 => ∃ k, x = .bl k ∧ R k H1) : tTest te σ H R := h
theorem c_tB {R : Bool → Hp → Prop} (h : te σ H fun x H1 => ∃ k, x = .bl k ∧ R k H1) : tB te σ H R := h
theorem c_not {R : Bool → Hp → Prop} (h : tt σ H fun c H1 => R (!c) H1) : tNot tt σ H R := h
theorem c_and {R : Bool → Hp → Prop} (h : tA σ H fun c H1 => if c = true then tB1 σ H1 R else R false H1) : tAnd tA tB1 σ H R := h
theorem c_or {R : Bool → Hp → Prop} (h : tA σ H fun c H1 => if c = true then R true H1 else tB1 σ H1 R) : tOr tA tB1 σ H R := h
theorem c_andV (h : ta σ H fun x H1 => ∃ c, x = .bl c ∧ if c = true then tb σ H1 Q else Q (.bl false) H1) : tAndV ta tb σ H Q := h
theorem c_orV (h : ta σ H fun x H1 => ∃ c, x = .bl c ∧ if c = true then Q (.bl true) H1 else tb σ H1 Q) : tOrV ta tb σ H Q := h
theorem c_notV (h : ta σ H fun x H1 => ∃ c, x = .bl c ∧ Q (.bl (!c)) H1) : tNotV ta σ H Q := h
theorem c_if (h : tt σ H fun c H1 => if c = true then ta σ H1 Q else tb σ H1 Q) : tIf tt ta tb σ H Q := h
theorem c_nil {R : List V → Hp → Prop} (h : R [] H) : tNil σ H R := h
theorem c_cons {tr : TA} {R : List V → Hp → Prop} (h : te σ H fun x H1 => tr σ H1 fun xs H2 => R (x :: xs) H2) : tCons te tr σ H R := h
theorem c_call {sp : Sp} {E : XK} {tr : TA} (h : tr σ H fun vs H1 => sp vs H1 Q E) : tCallA sp E tr σ H Q := h
theorem c_cb {rr : List V → Hp → VK → Prop} {tr : TA} (h : tr σ H fun vs H1 => rr vs H1 Q) : tCB rr tr σ H Q := h
def Ret (Q : VK) (v : V) (H : Hp) : Prop := Q v H
theorem c_nw {A : Prop} {o : HO} (hl : A) (h : ∀ p H', New H p o H' → Q (.ref p) H') : A ∧ ∀ p, H p = none → Ret Q (.ref p) (upd H p o) := ⟨hl, fun p hp => h p _ ⟨hp, rfl⟩⟩
theorem c_tup {tr : TA} (h : tr σ H fun xs H1 => xs.length ≤ sizeLine ∧ ∀ p, H1 p = none → Ret Q (.ref p) (upd H1 p (.tup xs))) : tTup tr σ H Q := h
theorem c_lst {tr : TA} (h : tr σ H fun xs H1 => xs.length ≤ sizeLine ∧ ∀ p, H1 p = none → Ret Q (.ref p) (upd H1 p (.lst xs))) : tLst tr σ H Q := h
theorem c_sl {rr : V → Option Int → Option Int → Hp → VK → Prop} {tl th : TO} (h : te σ H fun x H1 => tl σ H1 fun l H2 => th σ H2 fun u H3 => rr x l u H3 Q) : tSl rr te tl th σ H Q := h
theorem c_noPart {R : Option Int → Hp → Prop} (h : R none H) : tNoPart σ H R := h
theorem c_part {R : Option Int → Hp → Prop} (h : te σ H fun x H1 => ∃ i, x = .int i ∧ R (some i) H1) : tPart te σ H R := h
theorem c_bm {T : String} {rr : V → List V → Hp → VK → Prop} {tr : TA} (h : te σ H fun x H1 => tyV K T x H1 ∧ tr σ H1 fun xs H2 => rr x xs H2 Q) : tBM K T rr te tr σ H Q := h
theorem c_bm0 {T : String} {rr : V → List V → Hp → VK → Prop} (h : te σ H fun x H1 => tyV K T x H1 ∧ rr x [] H1 Q) : tBM0 K T rr te σ H Q := h
/-! answers of operators -/
theorem c_bl {b : Bool} {R : Bool → Prop} (h : R b) : ∃ k, V.bl b = V.bl k ∧ R k := ⟨b, rfl, h⟩
theorem c_int {R : Int → Prop} (h : R i) : ∃ k, V.int i = V.int k ∧ R k := ⟨i, rfl, h⟩
theorem c_addI (q : Q (.int (i + j)) H) : rAddU K (.int i) (.int j) H Q := .inl ⟨i, j, rfl, rfl, q⟩
theorem c_addS (hl : s.length + z.length ≤ sizeLine) (q : Q (.str (s ++ z)) H) : rAddU K (.str s) (.str z) H Q := .inr (.inl ⟨s, z, rfl, rfl, hl, q⟩)
theorem c_addL (ha : H a = some (.lst xs)) (hb : H b = some (.lst ys)) (hl : xs.length + ys.length ≤ sizeLine) (q : ∀ p H', New H p (.lst (xs ++ ys)) H' → Q (.ref p) H') : rAddU K (.ref a) (.ref b) H Q :=
  .inr (.inr (.inl ⟨a, b, xs, ys, rfl, rfl, ha, hb, hl, fun p hp => q p _ ⟨hp, rfl⟩⟩))
theorem c_subI (q : Q (.int (i - j)) H) : rSubU (.int i) (.int j) H Q := ⟨i, j, rfl, rfl, q⟩
theorem c_mulI (hc : (-(2 ^ 64) < i ∧ i < 2 ^ 64) ∨ (-(2 ^ 64) < j ∧ j < 2 ^ 64)) (q : Q (.int (i * j)) H) : rMulU K (.int i) (.int j) H Q := .inl ⟨i, j, rfl, rfl, hc, q⟩
theorem c_mulL (ha : H a = some (.lst xs)) (h0 : -(2 ^ 63) ≤ j) (h1 : j < 2 ^ 63) (hl : xs.length * j.toNat ≤ sizeLine) (q : ∀ p H', New H p (.lst (List.replicate j.toNat xs).flatten) H' → Q (.ref p) H') : rMulU K (.ref a) (.int j) H Q :=
  .inr (.inl ⟨a, j, xs, rfl, rfl, ha, h0, h1, hl, fun p hp => q p _ ⟨hp, rfl⟩⟩)
theorem c_mulT (ha : SqT K H a xs) (hne : xs ≠ []) (h0 : 2 ≤ j) (h1 : j ≤ 1000) (hl : xs.length ≤ 1000) (q : ∀ p H', New H p (.tup (List.replicate j.toNat xs).flatten) H' → Q (.ref p) H') : rMulU K (.ref a) (.int j) H Q :=
  .inr (.inr (.inl ⟨a, j, xs, rfl, rfl, ha, hne, h0, h1, hl, fun p hp => q p _ ⟨hp, rfl⟩⟩))
theorem c_mulS (h0 : -9223372036854775808 ≤ j) (h1 : j < 9223372036854775808) (hl : z.length * j.toNat ≤ sizeLine) (q : Q (.str (rptS z j)) H) : rMulU K (.str z) (.int j) H Q :=
  .inr (.inr (.inr ⟨z, j, rfl, rfl, by simpa using h0, by simpa using h1, hl, q⟩))
theorem c_divI (hc : 0 < j ∧ j < 1073741824) (q : Q (.int (i / j)) H) : rDivU (.int i) (.int j) H Q := ⟨i, j, rfl, rfl, hc, q⟩
theorem c_modI (hc : 0 < j) (q : Q (.int (i % j)) H) : rModU (.int i) (.int j) H Q := ⟨i, j, rfl, rfl, hc, q⟩
theorem c_bandI (q : Q (.int (Builtin.bitAnd i j)) H) : rBandU (.int i) (.int j) H Q := ⟨i, j, rfl, rfl, q⟩
theorem c_ltI (q : Q (.bl (decide (i < j))) H) : rLtU (.int i) (.int j) H Q := .inl ⟨i, j, rfl, rfl, q⟩
theorem c_leI (q : Q (.bl (decide (i ≤ j))) H) : rLeU (.int i) (.int j) H Q := .inl ⟨i, j, rfl, rfl, q⟩
theorem c_gtI (q : Q (.bl (decide (j < i))) H) : rGtU (.int i) (.int j) H Q := .inl ⟨i, j, rfl, rfl, q⟩
theorem c_geI (q : Q (.bl (decide (j ≤ i))) H) : rGeU (.int i) (.int j) H Q := .inl ⟨i, j, rfl, rfl, q⟩
theorem dI : decide (V.int i = V.int j) = decide (i = j) := by rw [dec_int]; exact Bool.beq_eq_decide_eq _ _
theorem dS : decide (V.str s = V.str z) = decide (s = z) := by rw [dec_str]; exact Bool.beq_eq_decide_eq _ _
theorem c_eqI (q : Q (.bl (decide (i = j))) H) : rEqU K (.int i) (.int j) H Q := .inl ⟨rfl, by rw [dI]; exact q⟩
theorem c_neI (q : Q (.bl (!decide (i = j))) H) : rNeU K (.int i) (.int j) H Q := .inl ⟨rfl, by rw [dI]; exact q⟩
theorem c_eqS (q : Q (.bl (decide (s = z))) H) : rEqU K (.str s) (.str z) H Q := .inl ⟨rfl, by rw [dS]; exact q⟩
theorem c_neS (q : Q (.bl (!decide (s = z))) H) : rNeU K (.str s) (.str z) H Q := .inl ⟨rfl, by rw [dS]; exact q⟩
theorem c_eqB {b c : Bool} (q : Q (.bl (b == c)) H) : rEqU K (.bl b) (.bl c) H Q := .inl ⟨rfl, by rw [dec_bl]; exact q⟩
theorem c_neB {b c : Bool} (q : Q (.bl (b != c)) H) : rNeU K (.bl b) (.bl c) H Q := .inl ⟨rfl, by rw [dec_bl]; exact q⟩
theorem c_eqD {d e : PyData} (hx : Dp K H x d) (hy : Dp K H y e) (sd : SeqAt.shaped d = true) (se : SeqAt.shaped e = true) (q : Q (.bl (PyData.eqv d e)) H) : rEqU K x y H Q := .inr ⟨d, e, hx, hy, sd, se, q⟩
theorem c_neD {d e : PyData} (hx : Dp K H x d) (hy : Dp K H y e) (sd : SeqAt.shaped d = true) (se : SeqAt.shaped e = true) (q : Q (.bl (!PyData.eqv d e)) H) : rNeU K x y H Q := .inr ⟨d, e, hx, hy, sd, se, q⟩
theorem c_isN (q : Q (.bl (decide (x = .non))) H) : rIsU x .non H Q := ⟨rfl, q⟩
theorem c_notN (q : Q (.bl (!decide (x = .non))) H) : rIsNotU x .non H Q := ⟨rfl, q⟩
theorem c_inC {c : Nat} (q : Q (.bl (decide (c ∈ z.cps.toList))) H) : rInU K (.str ⟨#[c]⟩) (.str z) H Q := .inl ⟨c, z, rfl, rfl, q⟩
theorem c_notInC {c : Nat} (q : Q (.bl (!decide (c ∈ z.cps.toList))) H) : rNotInU K (.str ⟨#[c]⟩) (.str z) H Q := .inl ⟨c, z, rfl, rfl, q⟩
theorem c_ixL (h : SqL K H a xs) (e : atI xs i = some v) (q : Q v H) : rIx K (.ref a) (.int i) H Q := .inl ⟨a, xs, i, v, rfl, rfl, h, e, q⟩
theorem c_ixT (h : SqT K H a xs) (e : atI xs i = some v) (q : Q v H) : rIx K (.ref a) (.int i) H Q := .inr (.inl ⟨a, xs, i, v, rfl, rfl, h, e, q⟩)
theorem c_ixS {c : Nat} (h : z.length ≤ sizeLine) (e : atI z.cps.toList i = some c) (q : Q (.str ⟨#[c]⟩) H) : rIx K (.str z) (.int i) H Q := .inr (.inr ⟨z, i, c, rfl, rfl, h, e, q⟩)
theorem c_slL {lo hi : Option Int} (h : SqL K H a xs) (q : ∀ p H', New H p (.lst (cutV xs lo hi)) H' → Q (.ref p) H') : rSlU K (.ref a) lo hi H Q := .inl ⟨a, xs, rfl, h, fun p hp => q p _ ⟨hp, rfl⟩⟩
theorem c_slS {lo hi : Option Int} (h : z.length ≤ sizeLine) (q : Q (.str (cutS z lo hi)) H) : rSlU K (.str z) lo hi H Q := .inr (.inl ⟨z, rfl, h, q⟩)
theorem c_append {l : Addr} (h : H l = some (.lst xs)) (hl : xs.length < sizeLine) (q : Q .non (upd H l (.lst (xs ++ [y])))) : rAppend (.ref l) [y] H Q := ⟨l, xs, y, rfl, rfl, h, hl, q⟩
theorem c_tyL (h : SqL K H a xs) : tyV K "list" (.ref a) H := Or.inl ⟨rfl, _, h⟩
theorem c_tyA {B : Prop} (h : SqL K H a xs) (q : B) : tyV K "list" (.ref a) H ∧ B := ⟨c_tyL h, q⟩
theorem c_setL {l : Addr} {k : Nat} {R : Hp → Prop} (h : H l = some (.lst xs)) (e : ixN xs.length i = some k) (q : R (upd H l (.lst (xs.set k v)))) : rSetL (.ref l) (.int i) v H R := ⟨l, xs, i, k, rfl, rfl, h, e, q⟩
theorem c_gSub {to ti : TE} {ts : TSet} {R : St → Hp → Prop} (h : to σ H fun o H1 => ti σ H1 fun i H2 => ts o i v H2 fun H3 => R σ H3) : gSub to ti ts v σ H R := h
theorem lt_one {c d : Nat} : decide ((⟨#[c]⟩ : Str).cps.toList < (⟨#[d]⟩ : Str).cps.toList) = decide (c < d) := by
  show decide ([c] < [d]) = _
  congr 1
  simp [List.cons_lt_cons_iff]
theorem q_of {b c : Bool} (e : b = c) (q : Q (.bl c) H) : Q (.bl b) H := e ▸ q
theorem ge_one {c d : Nat} : (!decide ((⟨#[d]⟩ : Str).cps.toList < (⟨#[c]⟩ : Str).cps.toList)) = decide (c ≤ d) := by rw [lt_one]; by_cases h : c ≤ d <;> simp [h] <;> omega
theorem c_leC {c d : Nat} (q : Q (.bl (decide (c ≤ d))) H) : rLeU (.str ⟨#[c]⟩) (.str ⟨#[d]⟩) H Q := .inr ⟨_, _, rfl, rfl, q_of ge_one q⟩
theorem c_ltC {c d : Nat} (q : Q (.bl (decide (c < d))) H) : rLtU (.str ⟨#[c]⟩) (.str ⟨#[d]⟩) H Q := .inr ⟨_, _, rfl, rfl, q_of lt_one q⟩
theorem c_gtC {c d : Nat} (q : Q (.bl (decide (d < c))) H) : rGtU (.str ⟨#[c]⟩) (.str ⟨#[d]⟩) H Q := .inr ⟨_, _, rfl, rfl, q_of lt_one q⟩
theorem c_geC {c d : Nat} (q : Q (.bl (decide (d ≤ c))) H) : rGeU (.str ⟨#[c]⟩) (.str ⟨#[d]⟩) H Q := .inr ⟨_, _, rfl, rfl, q_of ge_one q⟩
/-! tests of values -/
theorem c_truB {b : Bool} {R : Bool → Prop} (q : R b) : ∃ k, TruV K (.bl b) H k ∧ R k := ⟨b, rfl, q⟩
theorem c_truL {R : Bool → Prop} (h : SqL K H a xs) (q : R (!xs.isEmpty)) : ∃ k, TruV K (.ref a) H k ∧ R k := ⟨_, .inl ⟨xs, h, rfl⟩, q⟩
theorem c_truS {R : Bool → Prop} (h : s.length ≤ sizeLine) (q : R ((s.length : Int) != 0)) : ∃ k, TruV K (.str s) H k ∧ R k := ⟨_, ⟨h, rfl⟩, q⟩
/-! conditions -/
theorem c_ite {c : Prop} [Decidable c] {A B : Prop} (h1 : c → A) (h2 : ¬ c → B) : if decide c = true then A else B := by
  by_cases h : c
  · rw [decide_eq_true h, if_pos rfl]; exact h1 h
  · rw [decide_eq_false h, if_neg Bool.false_ne_true]; exact h2 h
theorem c_iteN {c : Prop} [Decidable c] {A B : Prop} (h1 : ¬ c → A) (h2 : c → B) : if (!decide c) = true then A else B := by
  by_cases h : c
  · rw [decide_eq_true h, Bool.not_true, if_neg Bool.false_ne_true]; exact h2 h
  · rw [decide_eq_false h, Bool.not_false, if_pos rfl]; exact h1 h
theorem c_iteT {b : Bool} {A B : Prop} (hb : b = true) (h : A) : if b = true then A else B := by rw [if_pos hb]; exact h
theorem c_iteF {b : Bool} {A B : Prop} (hb : b = false) (h : B) : if b = true then A else B := by rw [hb, if_neg Bool.false_ne_true]; exact h
theorem c_it1 {A B : Prop} (h : A) : if true = true then A else B := c_iteT rfl h
theorem c_it2 {A B : Prop} (h : B) : if false = true then A else B := c_iteF rfl h
theorem c_it3 {A B : Prop} (h : A) : if (!false) = true then A else B := c_iteT rfl h
theorem c_it4 {A B : Prop} (h : B) : if (!true) = true then A else B := c_iteF rfl h
theorem c_iteB {b : Bool} {A B : Prop} (h1 : b = true → A) (h2 : b = false → B) : if b = true then A else B := by
  cases b with
  | true => exact c_iteT rfl (h1 rfl)
  | false => exact c_iteF rfl (h2 rfl)
theorem c_iteNB {b : Bool} {A B : Prop} (h1 : b = false → A) (h2 : b = true → B) : if (!b) = true then A else B := by
  cases b with
  | true => exact c_iteF rfl (h2 rfl)
  | false => exact c_iteT rfl (h1 rfl)
end
end Sa

namespace Sa
open PySem L2

/-! ## built-ins by names of their readings -/
section
variable {X : Cx} {K : PySem.W.Frag} {H : Hp} {Q : VK} {i j : Int} {a : Addr} {xs : List V} {s z : Str}
def rLenU (K : PySem.W.Frag) : List V → Hp → VK → Prop := fun xs H Q => ∃ x n, xs = [x] ∧ LenV K x H n ∧ Q (.int n) H
theorem cr_len {K : PySem.W.Frag} (hK : X.K = K := by rfl) : CallR X (.builtin "len") (rLenU K) := hK ▸ call_len
theorem c_lenL (h : SqL K H a xs) (q : Q (.int xs.length) H) : rLenU K [.ref a] H Q := ⟨_, _, rfl, .inl ⟨xs, h, rfl⟩, q⟩
theorem c_lenT (h : SqT K H a xs) (q : Q (.int xs.length) H) : rLenU K [.ref a] H Q := ⟨_, _, rfl, .inr ⟨xs, h, rfl⟩, q⟩
theorem c_lenS (h : s.length ≤ sizeLine) (q : Q (.int s.length) H) : rLenU K [.str s] H Q := ⟨_, _, rfl, ⟨h, rfl⟩, q⟩
def rIntU : List V → Hp → VK → Prop := fun xs H Q => (∃ i, xs = [.int i] ∧ Q (.int i) H) ∨ ∃ k, xs = [.bl k] ∧ Q (.int (if k then 1 else 0)) H
theorem cr_int : CallR X (.type "int") rIntU := call_int1
theorem c_intI (q : Q (.int i) H) : rIntU [.int i] H Q := .inl ⟨i, rfl, q⟩
def rOrdU : List V → Hp → VK → Prop := fun xs H Q => ∃ x, xs = [.str x] ∧ x.length = 1 ∧ Q (.int (x.cps.getD 0 0 : Nat)) H
theorem cr_ord : CallR X (.builtin "ord") rOrdU := call_ord
theorem c_ord {c : Nat} (q : Q (.int c) H) : rOrdU [.str ⟨#[c]⟩] H Q := ⟨_, rfl, rfl, q⟩
def rMax2U : List V → Hp → VK → Prop := fun xs H Q => ∃ i j, xs = [.int i, .int j] ∧ Q (.int (if j > i then j else i)) H
def rMin2U : List V → Hp → VK → Prop := fun xs H Q => ∃ i j, xs = [.int i, .int j] ∧ Q (.int (if j < i then j else i)) H
theorem cr_max2 (hc : X.calm = true) : CallR X (.builtin "max") rMax2U := call_max2 hc
theorem cr_min2 (hc : X.calm = true) : CallR X (.builtin "min") rMin2U := call_min2 hc
theorem c_max2 (q : Q (.int (max i j)) H) : rMax2U [.int i, .int j] H Q := ⟨i, j, rfl, by
  have e : (if j > i then j else i) = max i j := by split <;> omega
  rw [e]; exact q⟩
theorem c_min2 (q : Q (.int (min i j)) H) : rMin2U [.int i, .int j] H Q := ⟨i, j, rfl, by
  have e : (if j < i then j else i) = min i j := by split <;> omega
  rw [e]; exact q⟩
def rListU (K : PySem.W.Frag) : List V → Hp → VK → Prop := fun xs H Q => ∃ p ys, xs = [.ref p] ∧ (SqL K H p ys ∨ SqT K H p ys) ∧ ∀ l, H l = none → Q (.ref l) (upd H l (.lst ys))
theorem cr_list {K : PySem.W.Frag} (hK : X.K = K := by rfl) : CallR X (.type "list") (rListU K) := hK ▸ call_list_of
theorem c_listL (h : SqL K H a xs) (q : ∀ l H', New H l (.lst xs) H' → Q (.ref l) H') : rListU K [.ref a] H Q := ⟨a, xs, rfl, .inl h, fun p hp => q p _ ⟨hp, rfl⟩⟩
theorem c_listT (h : SqT K H a xs) (q : ∀ l H', New H l (.lst xs) H' → Q (.ref l) H') : rListU K [.ref a] H Q := ⟨a, xs, rfl, .inr h, fun p hp => q p _ ⟨hp, rfl⟩⟩
def rTupU (K : PySem.W.Frag) : List V → Hp → VK → Prop := fun xs H Q => ∃ p ys, xs = [.ref p] ∧ ((SqL K H p ys ∧ ∀ l, H l = none → Q (.ref l) (upd H l (.tup ys))) ∨ (SqT K H p ys ∧ Q (.ref p) H))
theorem cr_tuple {K : PySem.W.Frag} (hK : X.K = K := by rfl) : CallR X (.type "tuple") (rTupU K) := hK ▸ call_tuple_of
theorem c_tupleL (h : SqL K H a xs) (q : ∀ l H', New H l (.tup xs) H' → Q (.ref l) H') : rTupU K [.ref a] H Q := ⟨a, xs, rfl, .inl ⟨h, fun p hp => q p _ ⟨hp, rfl⟩⟩⟩
theorem c_tupleT (h : SqT K H a xs) (q : Q (.ref a) H) : rTupU K [.ref a] H Q := ⟨a, xs, rfl, .inr ⟨h, q⟩⟩
theorem c_anyI {ns : List Int} (h : SqL K H a (ns.map V.int)) (q : Q (.bl (ns.any (· != 0))) H) : rAnyU K [.ref a] H Q := .inr ⟨a, ns, rfl, h, q⟩
theorem c_anyB {bs : List Bool} (h : SqL K H a (bs.map V.bl)) (q : Q (.bl (bs.any id)) H) : rAnyU K [.ref a] H Q := .inl ⟨a, bs, rfl, h, q⟩
def rAllU (K : PySem.W.Frag) : List V → Hp → VK → Prop := rAll K
theorem cr_allU {K : PySem.W.Frag} (hc : X.calm = true) (hK : X.K = K := by rfl) : CallR X (.builtin "all") (rAllU K) := hK ▸ cr_all hc
theorem c_allB {bs : List Bool} (h : SqL K H a (bs.map V.bl)) (q : Q (.bl (bs.all id)) H) : rAllU K [.ref a] H Q := ⟨a, bs, rfl, h, q⟩
end
section
variable {X : Cx} {K : PySem.W.Frag} {σ : St} {H : Hp} {Q : VK} {a : Addr} {s z : Str} {ys : List Str} {to te : TE} {o e : Expr}
/-- a text's method of one argument -/
def tM1U (r : V → List V → Hp → VK → Prop) (to te : TE) : TE := fun σ H Q => to σ H fun x H1 => (∃ a, x = .str a) ∧ te σ H1 fun y H2 => r x [y] H2 Q
theorem c_m1 {r : V → List V → Hp → VK → Prop} (h : to σ H fun x H1 => (∃ a, x = .str a) ∧ te σ H1 fun y H2 => r x [y] H2 Q) : tM1 r to te σ H Q := h
theorem c_isStr {A : Prop} (h : A) : (∃ b, V.str s = V.str b) ∧ A := ⟨⟨s, rfl⟩, h⟩
def rJoin (K : PySem.W.Frag) : V → List V → Hp → VK → Prop := fun x xs H Q => ∃ a p, ∃ ys : List Str, x = .str a ∧ xs = [.ref p] ∧ (SqL K H p (ys.map V.str) ∨ SqT K H p (ys.map V.str)) ∧
  (ys.map (·.length)).sum + ys.length * a.length ≤ 16777216 ∧ Q (.str (Txt.join a ys)) H
theorem pe_joinU {K : PySem.W.Frag} {apos pos : Pos} (ho : PE X o to) (he : PE X e te) (hK : X.K = K := by rfl) (hs : starEach [e] X.env = [(false, eval e X.env)] := by rfl) (hbase : attributeBase o "join" X.env (eval o X.env) = eval o X.env := by rfl) (hline : (apos.endLine == pos.line) = true := by rfl) :
    PE X (.Call (.Attribute o "join" apos) [e] [] pos) (tM1 (rJoin K) to te) := hK ▸ pe_join ho he hs hbase hline
theorem c_join (h : SqL K H a (ys.map V.str)) (hl : (ys.map (·.length)).sum + ys.length * s.length ≤ 16777216) (q : Q (.str (Txt.join s ys)) H) : rJoin K (.str s) [.ref a] H Q := ⟨s, a, ys, rfl, rfl, .inl h, hl, q⟩
end

/-! ## rules that name the written part -/
section
variable {X : Cx} {K : PySem.W.Frag} {e o : Expr} {es : List Expr} {te to ta : TE} {tr : TA} {tg : Expr} {x : Str}
theorem pt_tru {a : Expr} (ha : PE X a ta) (hK : X.K = K := by rfl) (he : ∀ whole, isTrue a X.env whole = (do let v ← whole; standAt a.pos; holding [v] (truthy v)) := by intro _; rfl) :
    PT X a (fun σ H Q => ta σ H fun x H' => ∃ k, TruV K x H' k ∧ Q k H') := hK ▸ pt_truth ha he
theorem pi_listU (hl : PE X e te) (hK : X.K = K := by rfl) : PI X tg e (iList K te) := hK ▸ pi_list hl
theorem pi_tupU (hl : PE X e te) (hK : X.K = K := by rfl) : PI X tg e (iTup K te) := hK ▸ pi_tup hl
theorem pg_tupU {pos : Pos} {k n : Nat} {t : TGs} (hc : X.calm = true) (h : PGs X es t) (hK : X.K = K := by rfl) (hn : (assignEach es X.env).length = n := by rfl) (hst : (assignEach es X.env).findIdx? (·.1) = none := by rfl) : PG X (.Tuple es k pos) (gTup K n t) := hK ▸ pg_tup hc h hn hst
theorem pg_lstU {pos : Pos} {k n : Nat} {t : TGs} (hc : X.calm = true) (h : PGs X es t) (hK : X.K = K := by rfl) (hn : (assignEach es X.env).length = n := by rfl) (hst : (assignEach es X.env).findIdx? (·.1) = none := by rfl) : PG X (.Tuple es k pos) (gLst K n t) := hK ▸ pg_lst hc h hn hst
theorem pe_appendU {apos cpos : Pos} (ho : PE X o to) (he : PE X e te) (hK : X.K = K := by rfl) (hbase : attributeBase o "append" X.env (eval o X.env) = eval o X.env := by rfl)
    (hfew : ((backTo cpos (starEach [e] X.env)).all (fun x => !x.1) && (backToKw cpos (keywordEach [] X.env)).all (fun x => x.1.isSome)
      && decide (([e] : List Expr).length + ([] : List Keyword).length + (if ([] : List Keyword).isEmpty then 0 else 1) < 30)) = true := by rfl)
    (hline : (apos.endLine == cpos.line) = true := by rfl) (hs : starEach [e] X.env = (false, eval e X.env) :: starEach [] X.env := by rfl) (hplain : (backTo cpos (starEach [] X.env)).any (·.1) = false := by rfl) :
    PE X (.Call (.Attribute o "append" apos) [e] [] cpos) (tBM K "list" rAppend to (tCons te tNil)) :=
  hK ▸ pe_bm PySem.F.plainAttrs_list PySem.F.slot_list_append PySem.F.type_list_append mt_append ho (pa_cons he pa_nil hs) hbase hfew hline hs hplain
theorem pe_extendU {apos cpos : Pos} (ho : PE X o to) (he : PE X e te) (hK : X.K = K := by rfl) (hbase : attributeBase o "extend" X.env (eval o X.env) = eval o X.env := by rfl)
    (hfew : ((backTo cpos (starEach [e] X.env)).all (fun x => !x.1) && (backToKw cpos (keywordEach [] X.env)).all (fun x => x.1.isSome)
      && decide (([e] : List Expr).length + ([] : List Keyword).length + (if ([] : List Keyword).isEmpty then 0 else 1) < 30)) = true := by rfl)
    (hline : (apos.endLine == cpos.line) = true := by rfl) (hs : starEach [e] X.env = (false, eval e X.env) :: starEach [] X.env := by rfl) (hplain : (backTo cpos (starEach [] X.env)).any (·.1) = false := by rfl) :
    PE X (.Call (.Attribute o "extend" apos) [e] [] cpos) (tBM K "list" rExtend to (tCons te tNil)) :=
  hK ▸ pe_bm PySem.F.plainAttrs_list PySem.F.slot_list_extend PySem.F.type_list_extend mt_extend ho (pa_cons he pa_nil hs) hbase hfew hline hs hplain
end

/-! ## what is kept of a heap -/
/-- all that was tracked is kept, but for the objects at ms -/
def Kp (ms : List Addr) (H H' : Hp) : Prop := ∀ a o, a ∉ ms → H a = some o → H' a = some o
section
variable {K : PySem.W.Frag} {H H1 H2 : Hp} {a b p : Addr} {o u : HO} {ms ns : List Addr} {xs : List V}
theorem Kp.refl : Kp ms H H := fun _ _ _ h => h
theorem Kp.trans (e : Kp ms H H1) (f : Kp ms H1 H2) : Kp ms H H2 := fun a o n h => f a o n (e a o n h)
theorem Kp.mono (e : Kp [] H H1) : Kp ms H H1 := fun a o _ h => e a o (by simp) h
theorem Kp.new (hp : H p = none) : Kp ms H (upd H p o) := fun a u _ h => by rw [upd_ne (ne_of_none h hp)]; exact h
theorem Kp.mut (hp : p ∈ ms) : Kp ms H (upd H p o) := fun a u n h => by rw [upd_ne (fun e : a = p => n (by rw [e]; exact hp))]; exact h
theorem Kp.at0 (e : Kp [] H H1) (h : H a = some o) : H1 a = some o := e a o (by simp) h
theorem Kp.at1 (e : Kp [b] H H1) (n : a ≠ b) (h : H a = some o) : H1 a = some o := e a o (by simpa using n) h
/-- an object that H did not know may change -/
theorem Kp.fresh_mut (e : Kp ms H H1) (hp : H p = none) : Kp ms H (upd H1 p o) := fun a u n h => by rw [upd_ne (ne_of_none h hp)]; exact e a u n h
theorem Kp.drop_fresh (e : Kp (p :: ms) H H1) (hp : H p = none) : Kp ms H H1 := fun a u n h => e a u (by simp only [List.mem_cons, not_or]; exact ⟨ne_of_none h hp, n⟩) h
theorem upd_new (hp : H p = none) (h : H a = some o) : upd H p u a = some o := by rw [upd_ne (ne_of_none h hp)]; exact h
theorem upd_other (n : a ≠ p) (h : H a = some o) : upd H p u a = some o := by rw [upd_ne n]; exact h
theorem upd_free (n : a ≠ p) (h : H a = none) : upd H p u a = none := by rw [upd_ne n]; exact h
theorem free0 (e : Kp [] H H1) (h : H1 a = none) : H a = none := by
  cases q : H a with
  | none => rfl
  | some o => rw [e.at0 q] at h; cases h
theorem free1 (e : Kp [b] H H1) (n : a ≠ b) (h : H1 a = none) : H a = none := by
  cases q : H a with
  | none => rfl
  | some o => rw [e.at1 n q] at h; cases h
theorem free_upd (h : upd H p u a = none) : H a = none := by
  by_cases e : a = p
  · subst e; rw [upd_same] at h; cases h
  · rw [upd_ne e] at h; exact h
theorem rd_at (e : ∀ o, H a = some o → H1 a = some o) (h : Rd H a u) : Rd H1 a u := by
  rcases h with h | ⟨o, h⟩
  · exact .inl (e _ h)
  · exact .inr ⟨o, e _ h⟩
theorem SqL.at (e : ∀ o, H a = some o → H1 a = some o) (h : SqL K H a xs) : SqL K H1 a xs := h.elim (fun h => .inl (rd_at e h)) .inr
theorem SqT.at (e : ∀ o, H a = some o → H1 a = some o) (h : SqT K H a xs) : SqT K H1 a xs := h.elim (fun h => .inl (rd_at e h)) .inr
theorem SqL.kp (e : Kp [] H H1) (h : SqL K H a xs) : SqL K H1 a xs := SqL.at (fun _ => e.at0) h
theorem SqT.kp (e : Kp [] H H1) (h : SqT K H a xs) : SqT K H1 a xs := SqT.at (fun _ => e.at0) h
theorem SqL.kp1 (e : Kp [b] H H1) (n : a ≠ b) (h : SqL K H a xs) : SqL K H1 a xs := SqL.at (fun _ => e.at1 n) h
theorem SqT.kp1 (e : Kp [b] H H1) (n : a ≠ b) (h : SqT K H a xs) : SqT K H1 a xs := SqT.at (fun _ => e.at1 n) h
theorem SqL.new (hp : H p = none) (h : SqL K H a xs) : SqL K (upd H p u) a xs := SqL.at (fun _ => upd_new hp) h
theorem SqT.new (hp : H p = none) (h : SqT K H a xs) : SqT K (upd H p u) a xs := SqT.at (fun _ => upd_new hp) h
theorem SqL.other (n : a ≠ p) (h : SqL K H a xs) : SqL K (upd H p u) a xs := SqL.at (fun _ => upd_other n) h
theorem SqT.other (n : a ≠ p) (h : SqT K H a xs) : SqT K (upd H p u) a xs := SqT.at (fun _ => upd_other n) h
theorem New.kp (N : New H p o H1) : Kp ms H H1 := by rw [N.eq]; exact Kp.new N.fr
theorem New.at_ (N : New H p o H1) : H1 p = some o := by rw [N.eq]; exact upd_same
theorem New.keep (N : New H p o H1) (h : H a = some u) : H1 a = some u := by rw [N.eq]; exact upd_new N.fr h
theorem New.free (N : New H p o H1) (h : H1 a = none) : H a = none := by rw [N.eq] at h; exact free_upd h
theorem New.ne (N : New H p o H1) (h : H a = some u) : p ≠ a := (ne_of_none h N.fr).symm
theorem New.sqL (N : New H p o H1) (h : SqL K H a xs) : SqL K H1 a xs := SqL.kp N.kp h
theorem New.sqT (N : New H p o H1) (h : SqT K H a xs) : SqT K H1 a xs := SqT.kp N.kp h
theorem ne_of2 (h : H a = some o) (h' : H b = none) : a ≠ b := ne_of_none h h'
end

/-! ## items -/
theorem atI_at {xs : List V} {i : Int} (h0 : 0 ≤ i) (h1 : i < xs.length) : atI xs i = some (xs.getD i.toNat .non) := by
  have e : i = ((i.toNat : Nat) : Int) := by omega
  have h : xs[i.toNat]? = some (xs.getD i.toNat .non) := by
    rw [List.getD_eq_getElem?_getD, List.getElem?_eq_getElem (by omega)]
    rfl
  exact e ▸ atI_nat h
theorem atI_ints {ns : List Int} {i : Int} (h0 : 0 ≤ i) (h1 : i < ns.length) : atI (ns.map V.int) i = some (.int (ns.getD i.toNat 0)) := by
  rw [atI_at h0 (by rw [List.length_map]; exact h1)]
  congr 1
  rw [List.getD_eq_getElem?_getD, List.getD_eq_getElem?_getD, List.getElem?_map, List.getElem?_eq_getElem (by omega)]
  rfl
theorem atI_strs {ns : List Str} {i : Int} (h0 : 0 ≤ i) (h1 : i < ns.length) : atI (ns.map V.str) i = some (.str (ns.getD i.toNat Str.empty)) := by
  rw [atI_at h0 (by rw [List.length_map]; exact h1)]
  congr 1
  rw [List.getD_eq_getElem?_getD, List.getD_eq_getElem?_getD, List.getElem?_map, List.getElem?_eq_getElem (by omega)]
  rfl
theorem atI_codes {z : Str} {i : Int} (h0 : 0 ≤ i) (h1 : i < z.length) : atI z.cps.toList i = some (z.cps.getD i.toNat 0) := by
  have e : i = ((i.toNat : Nat) : Int) := by omega
  have hl : i.toNat < z.cps.size := by have : z.length = z.cps.size := rfl; omega
  unfold atI
  have q : ixN z.cps.toList.length i = some i.toNat := by
    unfold ixN
    rw [if_pos h0, if_pos (by rw [Array.length_toList]; omega)]
  rw [q]
  show z.cps.toList[i.toNat]? = _
  rw [Array.getElem?_toList, Array.getElem?_eq_getElem hl, Array.getD, dif_pos hl]
  rfl

/-! ## the law's box: its digits at d, its place -/
structure Bx (H : Hp) (b d : Addr) : Prop where
  ex : ∃ (at_ : Int) (ds : List Int), H b = some (.lst [.ref d, .int at_]) ∧ H d = some (.lst (ds.map V.int)) ∧ 0 ≤ at_
section
variable {H H1 : Hp} {b d p : Addr} {o : HO}
theorem Bx.ne (h : Bx H b d) : d ≠ b := by
  obtain ⟨at_, ds, h1, h2, _⟩ := h.ex
  intro e
  subst e
  rw [h1] at h2
  cases ds with
  | nil => cases h2
  | cons n r => simp at h2
theorem Bx.kp0 (h : Bx H b d) (e : Kp [] H H1) : Bx H1 b d := by
  obtain ⟨at_, ds, h1, h2, h3⟩ := h.ex
  exact ⟨at_, ds, e.at0 h1, e.at0 h2, h3⟩
theorem Bx.new (h : Bx H b d) (hp : H p = none) : Bx (upd H p o) b d := h.kp0 (Kp.new hp)
theorem Bx.other (h : Bx H b d) (n1 : p ≠ b) (n2 : p ≠ d) : Bx (upd H p o) b d := by
  obtain ⟨at_, ds, h1, h2, h3⟩ := h.ex
  exact ⟨at_, ds, upd_other (Ne.symm n1) h1, upd_other (Ne.symm n2) h2, h3⟩
theorem Bx.nw (h : Bx H b d) (N : New H p o H1) : Bx H1 b d := by rw [N.eq]; exact h.new N.fr
theorem Bx.ne_new (h : Bx H b d) (hp : H p = none) : p ≠ b ∧ p ≠ d := by
  obtain ⟨at_, ds, h1, h2, h3⟩ := h.ex
  exact ⟨fun e => ne_of_none h1 hp e.symm, fun e => ne_of_none h2 hp e.symm⟩
end
end Sa

namespace Sa
open PySem L2

/-! ## loops -/
section
variable {K : PySem.W.Frag} {σ : St} {H : Hp} {D : Ends} {wi : TI} {g : TG} {tb : TS} {ta : TA} {tl te : TE} {tt : TT} {R : It → Hp → Prop} {a : Addr} {xs : List V} {lo hi : Int} {n : Nat} {Q : VK} {vs : List Nat} {z : Str}
def ForJ (J : It) (g : TG) (tb : TS) (D : Ends) (σ : St) (H1 : Hp) : Prop := ∃ W : Nat → Nat → St → Hp → Prop, (∃ m, W 0 m σ H1) ∧ ∀ i m σ H, W i m σ H →
  (J.stop i H ∧ D.nx σ H) ∨ (J.go i H ∧ ∃ N : St → Hp → Prop, (∀ σ' H', N σ' H' → ∃ m', m' < m ∧ W (i + 1) m' σ' H') ∧ ∀ x H', J.yld i H x H' → g x σ H' fun σ2 H2 => tb { D with nx := N, ct := N, bk := D.nx } σ2 H2)
def LcJ (J : It) (g : TG) (tt : TT) (te : TE) (vs : List Nat) (σ : St) (H1 : Hp) (Q : VK) : Prop := ∀ D, H1 D = none → ∃ W : Nat → Nat → Hp → Prop, (∃ m, W 0 m (upd H1 D (.lst []))) ∧ ∀ i m H, W i m H →
  (J.stop i H ∧ Q (.ref D) H) ∨ (J.go i H ∧ ∃ Nx : Hp → Prop, (∀ H', Nx H' → ∃ m', m' < m ∧ W (i + 1) m' H') ∧ ∀ x H', J.yld i H x H' → g x (wipe σ vs) H' fun σ2 H2 => wipe σ2 vs = wipe σ vs ∧ tt σ2 H2 fun b H3 =>
    if b = true then te σ2 H3 fun y H4 => ∃ acc, H4 D = some (.lst acc) ∧ acc.length < sizeLine ∧ Nx (upd H4 D (.lst (acc ++ [y]))) else Nx H3)
theorem c_for (h : wi σ H fun J H1 => ForJ J g tb D σ H1) : tFor wi g tb D σ H := h
theorem c_lc (h : wi σ H fun J H1 => LcJ J g tt te vs σ H1 Q) : tLc wi g tt te vs σ H Q := h
theorem c_rng1 (h : ta σ H fun vs H1 => ∃ j : Int, vs = [.int j] ∧ -(2 ^ 62) ≤ j ∧ j < 2 ^ 62 ∧ R (Itr 0 j.toNat) H1) : iRng1 ta σ H R := h
theorem c_rng2 (h : ta σ H fun vs H1 => ∃ i j : Int, vs = [.int i, .int j] ∧ (-(2 ^ 62) ≤ i ∧ i < 2 ^ 62 ∧ -(2 ^ 62) ≤ j ∧ j < 2 ^ 62) ∧ R (Itr i (j - i).toNat) H1) : iRng2 ta σ H R := h
theorem c_r1F (h1 : -4611686018427387904 ≤ hi ∧ hi < 4611686018427387904) (h : ForJ (Itr 0 hi.toNat) g tb D σ H) : ∃ j : Int, [V.int hi] = [.int j] ∧ -(2 ^ 62) ≤ j ∧ j < 2 ^ 62 ∧ ForJ (Itr 0 j.toNat) g tb D σ H := ⟨hi, rfl, by omega, by omega, h⟩
theorem c_r2F (h1 : -4611686018427387904 ≤ hi ∧ hi < 4611686018427387904 ∧ -4611686018427387904 ≤ lo ∧ lo < 4611686018427387904) (h : ForJ (Itr lo (hi - lo).toNat) g tb D σ H) : ∃ i j : Int, [V.int lo, V.int hi] = [.int i, .int j] ∧ (-(2 ^ 62) ≤ i ∧ i < 2 ^ 62 ∧ -(2 ^ 62) ≤ j ∧ j < 2 ^ 62) ∧ ForJ (Itr i (j - i).toNat) g tb D σ H :=
  ⟨lo, hi, rfl, by omega, h⟩
theorem c_itLF (h : SqL K H a xs) (q : ForJ (Itl K a) g tb D σ H) : ∃ b, V.ref a = .ref b ∧ (∃ xs, SqL K H b xs) ∧ ForJ (Itl K b) g tb D σ H := ⟨a, rfl, ⟨xs, h⟩, q⟩
theorem c_itTF (h : SqT K H a xs) (q : ForJ (Itt K a) g tb D σ H) : ∃ b, V.ref a = .ref b ∧ (∃ xs, SqT K H b xs) ∧ ForJ (Itt K b) g tb D σ H := ⟨a, rfl, ⟨xs, h⟩, q⟩
theorem c_itSF (q : ForJ (Its z) g tb D σ H) : ∃ x, V.str z = .str x ∧ ForJ (Its x) g tb D σ H := ⟨z, rfl, q⟩
theorem c_r1C (h1 : -4611686018427387904 ≤ hi ∧ hi < 4611686018427387904) (h : LcJ (Itr 0 hi.toNat) g tt te vs σ H Q) : ∃ j : Int, [V.int hi] = [.int j] ∧ -(2 ^ 62) ≤ j ∧ j < 2 ^ 62 ∧ LcJ (Itr 0 j.toNat) g tt te vs σ H Q := ⟨hi, rfl, by omega, by omega, h⟩
theorem c_r2C (h1 : -4611686018427387904 ≤ hi ∧ hi < 4611686018427387904 ∧ -4611686018427387904 ≤ lo ∧ lo < 4611686018427387904) (h : LcJ (Itr lo (hi - lo).toNat) g tt te vs σ H Q) : ∃ i j : Int, [V.int lo, V.int hi] = [.int i, .int j] ∧ (-(2 ^ 62) ≤ i ∧ i < 2 ^ 62 ∧ -(2 ^ 62) ≤ j ∧ j < 2 ^ 62) ∧ LcJ (Itr i (j - i).toNat) g tt te vs σ H Q :=
  ⟨lo, hi, rfl, by omega, h⟩
theorem c_itLC (h : SqL K H a xs) (q : LcJ (Itl K a) g tt te vs σ H Q) : ∃ b, V.ref a = .ref b ∧ (∃ xs, SqL K H b xs) ∧ LcJ (Itl K b) g tt te vs σ H Q := ⟨a, rfl, ⟨xs, h⟩, q⟩
theorem c_itTC (h : SqT K H a xs) (q : LcJ (Itt K a) g tt te vs σ H Q) : ∃ b, V.ref a = .ref b ∧ (∃ xs, SqT K H b xs) ∧ LcJ (Itt K b) g tt te vs σ H Q := ⟨a, rfl, ⟨xs, h⟩, q⟩
theorem c_itSC (q : LcJ (Its z) g tt te vs σ H Q) : ∃ x, V.str z = .str x ∧ LcJ (Its x) g tt te vs σ H Q := ⟨z, rfl, q⟩
theorem c_iList (h : tl σ H fun x H1 => ∃ a, x = .ref a ∧ (∃ xs, SqL K H1 a xs) ∧ R (Itl K a) H1) : iList K tl σ H R := h
theorem c_iTup (h : tl σ H fun x H1 => ∃ a, x = .ref a ∧ (∃ xs, SqT K H1 a xs) ∧ R (Itt K a) H1) : iTup K tl σ H R := h
theorem c_iStr (h : tl σ H fun v H1 => ∃ x, v = .str x ∧ R (Its x) H1) : iStr tl σ H R := h
/-- for .. in range: the word Pv by the turn -/
theorem forR (Pv : Nat → St → Hp → Prop) (h0 : Pv 0 σ H) (hs : ∀ i σ H, i < n → Pv i σ H → g (.int (lo + i)) σ H fun σ2 H2 => tb { D with nx := Pv (i + 1), ct := Pv (i + 1), bk := D.nx } σ2 H2) (hd : ∀ σ H, Pv n σ H → D.nx σ H) : ForJ (Itr lo n) g tb D σ H := for_range Pv h0 hs hd
theorem forL (xs : List V) (Pv : Nat → St → Hp → Prop) (h0 : Pv 0 σ H) (hl : ∀ i σ H, i ≤ xs.length → Pv i σ H → SqL K H a xs)
    (hs : ∀ i x σ H, xs[i]? = some x → Pv i σ H → g x σ H fun σ2 H2 => tb { D with nx := Pv (i + 1), ct := Pv (i + 1), bk := D.nx } σ2 H2) (hd : ∀ σ H, Pv xs.length σ H → D.nx σ H) : ForJ (Itl K a) g tb D σ H := for_list Pv h0 hl hs hd
theorem forT (xs : List V) (Pv : Nat → St → Hp → Prop) (h0 : Pv 0 σ H) (hl : ∀ i σ H, i ≤ xs.length → Pv i σ H → SqT K H a xs)
    (hs : ∀ i x σ H, xs[i]? = some x → Pv i σ H → g x σ H fun σ2 H2 => tb { D with nx := Pv (i + 1), ct := Pv (i + 1), bk := D.nx } σ2 H2) (hd : ∀ σ H, Pv xs.length σ H → D.nx σ H) : ForJ (Itt K a) g tb D σ H := for_tup Pv h0 hl hs hd
theorem forS (Pv : Nat → St → Hp → Prop) (h0 : Pv 0 σ H)
    (hs : ∀ (i : Nat) (c : Nat) σ H, z.cps.toList[i]? = some c → Pv i σ H → g (.str ⟨#[c]⟩) σ H fun σ2 H2 => tb { D with nx := Pv (i + 1), ct := Pv (i + 1), bk := D.nx } σ2 H2) (hd : ∀ σ H, Pv z.cps.toList.length σ H → D.nx σ H) : ForJ (Its z) g tb D σ H := by
  refine ⟨fun i m σ H => m = z.cps.size - i ∧ i ≤ z.cps.size ∧ Pv i σ H, ⟨_, rfl, Nat.zero_le _, h0⟩, ?_⟩
  rintro i m σ H ⟨rfl, hi, p⟩
  by_cases hlt : i < z.cps.size
  · refine .inr ⟨hlt, Pv (i + 1), fun σ' H' p' => ⟨_, by omega, rfl, hlt, p'⟩, fun x H' y => ?_⟩
    obtain ⟨e, c, hc, e2⟩ := y
    subst e e2
    exact hs i c σ _ (by rw [Array.getElem?_toList]; exact hc) p
  · have e : i = z.cps.toList.length := by rw [Array.length_toList]; omega
    subst e
    exact .inl ⟨by rw [Array.length_toList] at hlt; exact Nat.le_of_not_lt hlt, hd σ H p⟩

/-! comprehensions: the word Pv by the new list's place, the turn, what the list holds, the heap -/
def LcN (Pv : Addr → Nat → List V → Hp → Prop) (Dl : Addr) (i : Nat) (H : Hp) : Prop := ∃ acc, H Dl = some (.lst acc) ∧ acc.length ≤ i ∧ Pv Dl i acc H
abbrev LcT (g : TG) (tt : TT) (te : TE) (vs : List Nat) (σ : St) (Pv : Addr → Nat → List V → Hp → Prop) (Dl : Addr) (i : Nat) (x : V) (H' : Hp) : Prop :=
  g x (wipe σ vs) H' fun σ2 H2 => wipe σ2 vs = wipe σ vs ∧ tt σ2 H2 fun b H3 =>
    if b = true then te σ2 H3 fun y H4 => ∃ acc, H4 Dl = some (.lst acc) ∧ acc.length < sizeLine ∧ LcN Pv Dl (i + 1) (upd H4 Dl (.lst (acc ++ [y]))) else LcN Pv Dl (i + 1) H3
theorem lc_push {Pv : Addr → Nat → List V → Hp → Prop} {Dl : Addr} {i : Nat} {H4 : Hp} {acc : List V} {y : V} (h : H4 Dl = some (.lst acc)) (hl : acc.length ≤ i) (hi : i < 16777216) (p : Pv Dl (i + 1) (acc ++ [y]) (upd H4 Dl (.lst (acc ++ [y])))) :
    ∃ acc, H4 Dl = some (.lst acc) ∧ acc.length < sizeLine ∧ LcN Pv Dl (i + 1) (upd H4 Dl (.lst (acc ++ [y]))) :=
  ⟨acc, h, by rw [sizeLine_eq]; omega, acc ++ [y], upd_same, by rw [List.length_append, List.length_singleton]; omega, p⟩
theorem lc_skip {Pv : Addr → Nat → List V → Hp → Prop} {Dl : Addr} {i : Nat} {H3 : Hp} {acc : List V} (h : H3 Dl = some (.lst acc)) (hl : acc.length ≤ i) (p : Pv Dl (i + 1) acc H3) : LcN Pv Dl (i + 1) H3 := ⟨acc, h, by omega, p⟩
theorem lcR (Pv : Addr → Nat → List V → Hp → Prop) (h0 : ∀ Dl, H Dl = none → Pv Dl 0 [] (upd H Dl (.lst [])))
    (hs : ∀ Dl i acc H', H Dl = none → i < n → H' Dl = some (.lst acc) → acc.length ≤ i → Pv Dl i acc H' → LcT g tt te vs σ Pv Dl i (.int (lo + i)) H')
    (hd : ∀ Dl acc H', H Dl = none → H' Dl = some (.lst acc) → acc.length ≤ n → Pv Dl n acc H' → Q (.ref Dl) H') : LcJ (Itr lo n) g tt te vs σ H Q := fun Dl hD =>
  lc_range (LcN Pv Dl) ⟨[], upd_same, Nat.zero_le _, h0 Dl hD⟩ (fun i H' hi ⟨acc, h1, h2, h3⟩ => hs Dl i acc H' hD hi h1 h2 h3) fun H' ⟨acc, h1, h2, h3⟩ => hd Dl acc H' hD h1 h2 h3
theorem lcL (xs : List V) (Pv : Addr → Nat → List V → Hp → Prop) (h0 : ∀ Dl, H Dl = none → Pv Dl 0 [] (upd H Dl (.lst []))) (hl : ∀ Dl i acc H', H Dl = none → Pv Dl i acc H' → SqL K H' a xs)
    (hs : ∀ Dl i x acc H', H Dl = none → xs[i]? = some x → H' Dl = some (.lst acc) → acc.length ≤ i → Pv Dl i acc H' → LcT g tt te vs σ Pv Dl i x H')
    (hd : ∀ Dl acc H', H Dl = none → H' Dl = some (.lst acc) → acc.length ≤ xs.length → Pv Dl xs.length acc H' → Q (.ref Dl) H') : LcJ (Itl K a) g tt te vs σ H Q := fun Dl hD =>
  lc_list (xs := xs) (LcN Pv Dl) ⟨[], upd_same, Nat.zero_le _, h0 Dl hD⟩ (fun i H' _ ⟨acc, _, _, h3⟩ => hl Dl i acc H' hD h3) (fun i x H' hi ⟨acc, h1, h2, h3⟩ => hs Dl i x acc H' hD hi h1 h2 h3) fun H' ⟨acc, h1, h2, h3⟩ => hd Dl acc H' hD h1 h2 h3
theorem lcT (xs : List V) (Pv : Addr → Nat → List V → Hp → Prop) (h0 : ∀ Dl, H Dl = none → Pv Dl 0 [] (upd H Dl (.lst []))) (hl : ∀ Dl i acc H', H Dl = none → Pv Dl i acc H' → SqT K H' a xs)
    (hs : ∀ Dl i x acc H', H Dl = none → xs[i]? = some x → H' Dl = some (.lst acc) → acc.length ≤ i → Pv Dl i acc H' → LcT g tt te vs σ Pv Dl i x H')
    (hd : ∀ Dl acc H', H Dl = none → H' Dl = some (.lst acc) → acc.length ≤ xs.length → Pv Dl xs.length acc H' → Q (.ref Dl) H') : LcJ (Itt K a) g tt te vs σ H Q := fun Dl hD =>
  lc_tup (xs := xs) (LcN Pv Dl) ⟨[], upd_same, Nat.zero_le _, h0 Dl hD⟩ (fun i H' _ ⟨acc, _, _, h3⟩ => hl Dl i acc H' hD h3) (fun i x H' hi ⟨acc, h1, h2, h3⟩ => hs Dl i x acc H' hD hi h1 h2 h3) fun H' ⟨acc, h1, h2, h3⟩ => hd Dl acc H' hD h1 h2 h3
theorem c_unL {K : PySem.W.Frag} {ys : List V} {gs : TGs} {R : St → Hp → Prop} (h : SqL K H a ys) (hl : ys.length = n) (q : gs ys σ H R) : gLst K n gs (.ref a) σ H R := ⟨a, ys, rfl, h, hl, q⟩
theorem c_unT {K : PySem.W.Frag} {ys : List V} {gs : TGs} {R : St → Hp → Prop} (h : SqT K H a ys) (hl : ys.length = n) (q : gs ys σ H R) : gTup K n gs (.ref a) σ H R := ⟨a, ys, rfl, h, hl, q⟩
theorem c_gCons {v : V} {r : List V} {gs : TGs} {R : St → Hp → Prop} (q : g v σ H fun σ' H' => gs r σ' H' R) : gCons g gs (v :: r) σ H R := ⟨v, r, rfl, q⟩
theorem c_gNil {R : St → Hp → Prop} (q : R σ H) : gNil [] σ H R := ⟨rfl, q⟩
theorem c_cut {t u : TS} (Mid : St → Hp → Prop) (h1 : t { D with nx := Mid } σ H) (h2 : ∀ σ' H', Mid σ' H' → u D σ' H') : Evl.tCut t u D σ H := ⟨Mid, h1, h2⟩
theorem c_yes {R : Bool → Hp → Prop} (h : R true H) : tYes σ H R := h
end
end Sa

namespace Sa
open PySem L2

/-! ## texts by their codes -/
def txt (cs : List Nat) : Str := ⟨cs.toArray⟩
theorem txt_len (cs : List Nat) : (txt cs).length = cs.length := by show cs.toArray.size = _; simp
theorem txt_cps (cs : List Nat) : (txt cs).cps.toList = cs := by show cs.toArray.toList = _; simp
theorem txt_of (s : Str) : s = txt s.cps.toList := by cases s; simp [txt]
theorem txt_app (cs ds : List Nat) : txt cs ++ txt ds = txt (cs ++ ds) := by
  show Str.append _ _ = _
  simp [Str.append, txt]
theorem txt_inj {cs ds : List Nat} : txt cs = txt ds ↔ cs = ds := by
  constructor
  · intro h
    have e := congrArg (fun s : Str => s.cps.toList) h
    simpa [txt] using e
  · intro h; rw [h]
theorem txt_one (c : Nat) : (⟨#[c]⟩ : Str) = txt [c] := rfl
theorem cutS_txt (cs : List Nat) (lo hi : Option Int) : cutS (txt cs) lo hi = txt ((cs.drop (HT.sIx cs.length 0 lo)).take (HT.sIx cs.length cs.length hi - HT.sIx cs.length 0 lo)) := by
  unfold cutS
  rw [txt_len, txt_cps]
  rfl
theorem join_ones : ∀ cs : List Nat, Str.join (txt []) (cs.map fun c => txt [c]) = txt cs
  | [] => rfl
  | [c] => rfl
  | c :: d :: r => by
    have ih := join_ones (d :: r)
    show txt [c] ++ txt [] ++ Str.join (txt []) ((d :: r).map fun c => txt [c]) = txt (c :: d :: r)
    rw [ih, txt_app, txt_app]
    rfl
theorem tjoin (s : Str) (ys : List Str) : Txt.join s ys = Str.join s ys := StrLaws.glued_eq_join s ys
theorem tjoin_ones (cs : List Nat) : Txt.join (txt []) (cs.map fun c => txt [c]) = txt cs := by rw [tjoin, join_ones]
theorem sum_ones (cs : List Nat) : (((cs.map fun c => txt [c])).map (·.length)).sum = cs.length := by
  induction cs with
  | nil => rfl
  | cons c r ih =>
    simp only [List.map_cons, List.sum_cons, ih, List.length_cons, txt_len]
    simp
    omega
/-! ## slices -/
def cutL {α : Type} (xs : List α) (lo hi : Option Int) : List α := (xs.drop (HT.sIx xs.length 0 lo)).take (HT.sIx xs.length xs.length hi - HT.sIx xs.length 0 lo)
theorem cutV_eq (xs : List V) (lo hi : Option Int) : cutV xs lo hi = cutL xs lo hi := rfl
theorem cutL_map {α β : Type} (f : α → β) (xs : List α) (lo hi : Option Int) : cutL (xs.map f) lo hi = (cutL xs lo hi).map f := by
  unfold cutL
  rw [List.length_map, List.map_take, List.map_drop]
theorem cutV_ints (ns : List Int) (lo hi : Option Int) : cutV (ns.map V.int) lo hi = (cutL ns lo hi).map V.int := by rw [cutV_eq, cutL_map]
theorem sIx_of {n d : Nat} {i : Int} (h : 0 ≤ i) : HT.sIx n d (some i) = min i.toNat n := by
  obtain ⟨k, rfl⟩ := Int.eq_ofNat_of_zero_le h
  exact HT.sIx_nat n d k
theorem cutL_lt {α : Type} {xs : List α} {i j : Int} (h0 : 0 ≤ i) (h1 : i ≤ j) (h2 : j ≤ xs.length) : cutL xs (some i) (some j) = (xs.drop i.toNat).take (j.toNat - i.toNat) := by
  unfold cutL
  rw [sIx_of h0, sIx_of (by omega), Nat.min_eq_left (by omega), Nat.min_eq_left (by omega)]
theorem cutL_to {α : Type} {xs : List α} {j : Int} (h1 : 0 ≤ j) (h2 : j ≤ xs.length) : cutL xs none (some j) = xs.take j.toNat := by
  unfold cutL
  rw [sIx_of h1, Nat.min_eq_left (by omega)]
  simp [HT.sIx]
theorem cutL_from {α : Type} {xs : List α} {i : Int} (h0 : 0 ≤ i) (h1 : i ≤ xs.length) : cutL xs (some i) none = xs.drop i.toNat := by
  unfold cutL
  rw [sIx_of h0, Nat.min_eq_left (by omega)]
  show (xs.drop i.toNat).take (xs.length - i.toNat) = _
  rw [List.take_of_length_le (by rw [List.length_drop]; omega)]
/-! ## lists of whole numbers compared -/
section
variable {K : PySem.W.Frag} {H : Hp} {Q : VK} {a b : Addr} {ns ms : List Int}
theorem dpAll_ints : ∀ ns : List Int, DpAll K H (ns.map V.int) (ns.map PyData.int)
  | [] => .nil
  | n :: r => .cons (.int n) (dpAll_ints r)
theorem dp_ints (h : SqL K H a (ns.map V.int)) : Dp K H (.ref a) (.list (ns.map PyData.int)) := .lst h (dpAll_ints ns)
theorem eqvAll_ints : ∀ ns ms : List Int, PyData.eqvAll (ns.map PyData.int) (ms.map PyData.int) = decide (ns = ms)
  | [], [] => by simp [PyData.eqvAll]
  | [], _ :: _ => by simp [PyData.eqvAll]
  | _ :: _, [] => by simp [PyData.eqvAll]
  | a :: r, b :: t => by
    simp only [List.map_cons, PyData.eqvAll, PyData.eqv, eqvAll_ints r t]
    by_cases h : a = b <;> by_cases h' : r = t <;> simp [h, h']
theorem c_eqLI (ha : SqL K H a (ns.map V.int)) (hb : SqL K H b (ms.map V.int)) (q : Q (.bl (decide (ns = ms))) H) : rEqU K (.ref a) (.ref b) H Q :=
  c_eqD (dp_ints ha) (dp_ints hb) (PySem.W.ke_shaped_ints ns) (PySem.W.ke_shaped_ints ms) (by rw [PyData.eqv, eqvAll_ints]; exact q)
theorem c_neLI (ha : SqL K H a (ns.map V.int)) (hb : SqL K H b (ms.map V.int)) (q : Q (.bl (!decide (ns = ms))) H) : rNeU K (.ref a) (.ref b) H Q :=
  c_neD (dp_ints ha) (dp_ints hb) (PySem.W.ke_shaped_ints ns) (PySem.W.ke_shaped_ints ms) (by rw [PyData.eqv, eqvAll_ints]; exact q)
end
theorem map_snocI (ds : List Int) (z : Int) : ds.map V.int ++ [V.int z] = (ds ++ [z]).map V.int := by rw [List.map_append]; rfl
theorem take_succ' {α : Type} {xs : List α} {i : Nat} {x : α} (h : xs[i]? = some x) : xs.take (i + 1) = xs.take i ++ [x] := by
  rw [List.take_succ, h]; rfl
end Sa

/-! Defs whose promise is kept where no repr is under way around them (the law's defs that call repr). -/
namespace Sa
open PySem PySem.Spec PyProof.Rows L2
structure FnG (P : Program) (w : World) (K : PySem.W.Frag) (mg : Str → Option Value) (base : Heap) (CX : CXT) (k : Nat) (f : Addr) (fd : FuncData) (ps : List Str) (sp : Sp) : Prop where
  len : ∀ vs H Q E, sp vs H Q E → vs.length = ps.length
  go : ∀ (A : Around) (fs : List Env) (s : Shared) (H : Hp) (args : Args) (us : List Value) (vs : List V) (Q : VK) (E : XK),
    A.guards = some [] ∧ Room k A ∧ Env0 P w K mg base A fs s H ∧ BindsTo s fd args (ps.zip us) ∧ Vals vs us ∧ sp vs H Q E → codeAny (model P w) A (.call (.ref f) args) (CR CX fs P w H s Q E) s
theorem FnG.mono {P : Program} {w : World} {K : PySem.W.Frag} {mg : Str → Option Value} {base : Heap} {CX : CXT} {j k : Nat} {f : Addr} {fd : FuncData} {ps : List Str} {sp : Sp} (F : FnG P w K mg base CX j f fd ps sp) (h : j ≤ k) : FnG P w K mg base CX k f fd ps sp :=
  ⟨F.len, fun A fs s H args us vs Q E z => F.go A fs s H args us vs Q E ⟨z.1, z.2.1.mono h, z.2.2⟩⟩
section
variable {P : Program} {w : World} {K : PySem.W.Frag} {mg : Str → Option Value} {base : Heap} {CX : CXT} {k : Nat} {f : Addr} {x : Str} {st : Stmt} {N ps : List Str} {sp : Sp}
/-- what such a body owes -/
def BodyG (P : Program) (w : World) (K : PySem.W.Frag) (mg : Str → Option Value) (base : Heap) (x : Str) (st : Stmt) (N : List Str) (k : Nat) (sp : Sp) : Prop :=
  ∀ (cdv : Value) (A : Around) (fs : List Env) (s : Shared) (H : Hp) (vs : List V) (Q : VK) (E : XK), sp vs H Q E → let X : Cx := (cxOf CX0 P w K mg base N x (defScope st) (He.ga K x) cdv A fs s H E).nox
    Room k X.A → X.A.guards = some [] → ∃ t, PSs X (defBody st) t ∧ t { nx := fun _ H' => Q .non H', rt := Q } (start N vs) H
theorem fnG_of {fd : FuncData} (F : FunD K x x (defArgs st) (defBody st) (defScope st) [] [] (He.ga K x) fd) (S : FnScope N ps (defScope st)) (len : ∀ vs H Q E, sp vs H Q E → vs.length = ps.length) (body : BodyG P w K mg base x st N k sp) :
    FnG P w K mg base CX0 (k + 1) (He.ga K x) fd ps sp := by
  obtain ⟨oc, od, dV, kV, doc, pm, an, cdv, ct, osl, rfl, lk, hcd, _, _⟩ := F.ex
  refine ⟨len, ?_⟩
  rintro A fs s H args us vs Q E ⟨hg, hr, e0, hb, rv, hsp⟩
  have hlen := len _ _ _ _ hsp
  have inK : K.In s.heap := e0.mod.kin.keeps (fun b o e => (e0.bs b o e).1)
  have noL : s.heap.NoLimit := e0.mod.nolimit.keeps (fun b o e => (e0.bs b o e).1)
  have loc : ∀ y ∈ ps.zip us, (defScope st).names.lookup y.1 = some .local ∨ ((defScope st).names.lookup y.1 = some .cell ∧ ((cellsFrom (s.heap.objs.size + 1) (defScope st).names []).lookup y.1).isSome = true) := by
    rintro ⟨n, v⟩ hy
    exact (S.par n (List.of_mem_zip hy).1).imp id (fun q => ⟨q, PySem.W.cellsFrom_some _ _ _ (.inl q)⟩)
  refine codeAny_call_function hr.depth (inK _ _ lk) rfl S.co S.gen rfl (PySem.W.codeRec_of inK hcd) (hb _ _ _ _ (wpAny_newFunctionEnv_cells S.kind loc (fun env he s1 ic => ?_)))
  cases he
  refine ⟨noL.keeps ic.toInCall.keep, codeAny_func ?_⟩
  obtain ⟨t, ht, hq⟩ := body cdv A fs s H vs Q E hsp (hr.deeper _) hg
  have I := inv_start (CX := CX0) (P := P) (w := w) (K := K) (mg := mg) (base := base) (E := E) S hr.hd e0 hlen rv ic
  refine wpAny_mono (ht.nox.run [] s1 (start N vs) H _ I hq) (fun fl s' hs => ?_) (fun e s' hs => hs)
  have fin : ∀ {σ' H' v u}, Inv (cxOf CX0 P w K mg base N x (defScope st) (He.ga K x) cdv A fs s H E) [] σ' H' s' → RelV v u → Q v H' → CE fs P w H s Q u s' := by
    intro σ' H' v u J rv q
    exact ⟨v, H', J.os, J.bare, J.base, J.hok, rv, q⟩
  cases fl with
  | ret u => obtain ⟨v, σ', H', J, rv, q⟩ := hs; exact fin J rv q
  | next => obtain ⟨σ', H', J, q⟩ := hs; exact fin (v := V.non) (u := Value.none) J rfl q
  | brk => obtain ⟨_, _, _, q⟩ := hs; exact q.elim
  | cont => obtain ⟨_, _, _, q⟩ := hs; exact q.elim
end
/-- a def under the module's name x that keeps sp where no repr is under way -/
structure DefG (P : Program) (w : World) (K : PySem.W.Frag) (mg : Str → Option Value) (base : Heap) (x : Str) (k : Nat) (ps : List Str) (sp : Sp) : Prop where
  gl : mg x = some (.ref (He.ga K x))
  kp : PySem.W.keepIn K (.ref (He.ga K x)) = true
  ok : ∃ fd, FnG P w K mg base CX0 k (He.ga K x) fd ps sp ∧ Binds K fd ps []
theorem defG_of {fa : List He.Fa} {fn : List He.DefD} {fx : List Fx} {P : Program} {w : World} {K : PySem.W.Frag} {mg : Str → Option Value} {base : Heap} (T : Tx fa fn fx K mg) (i j : Nat) {x : Str} {st : Stmt} {N ps : List Str} {k : Nat} {sp : Sp} (S : FnScope N ps (defScope st)) (B : BindN x st ps)
    (len : ∀ vs H Q E, sp vs H Q E → vs.length = ps.length) (body : BodyG P w K mg base x st N k sp) (hd : fn[i]? = some (dOf x st) := by rfl) (hg : fa[j]? = some (.glo x) := by rfl) : DefG P w K mg base x (k + 1) ps sp := by
  have gl := T.glo j hg
  obtain ⟨hp, X, G, c, _⟩ := T
  obtain ⟨fd, F⟩ := c.def_ i hd
  exact ⟨gl, F.kp, fd, fnG_of F S len body, F.bindsN B⟩
section
variable {X : Cx} {x : Str} {k j : Nat} {ps : List Str} {sp : Sp} {p pos : Pos} {e : Expr} {es : List Expr} {t : TA}
theorem pe_callG (D : DefG X.prog X.w X.K X.mg X.base x j ps sp) (hr : Room k X.A) (hgd : X.A.guards = some []) (ha : PA X (e :: es) t) (hjk : j ≤ k := by decide) (hg : Gl X x := by rfl)
    (hdb : (x == ("__debug__" : Str)) = false := by decide) (he : starEach (e :: es) X.env = (false, eval e X.env) :: starEach es X.env := by rfl) (hpl : (backTo pos (starEach es X.env)).any (·.1) = false := by rfl) :
    PE X (.Call (.Name x p) (e :: es) [] pos) (tCallA sp E0 t) := by
  obtain ⟨fd, F0, B⟩ := D.ok
  have F := F0.mono hjk
  refine ⟨fun pins s σ H Q I h => ?_⟩
  refine wpAny_Call_Name_kw (ld_glob I hg D.gl ?_ hdb)
  refine PySem.W.callWith_K (h₀ := X.base) I.ok.mod.kin D.kp (thn (ha.run pos pins s σ H _ I h) (fun us s1 z => ?_)) he hpl
  obtain ⟨vs, H1, I1, r, q⟩ := z
  refine ⟨I1.kIn, ?_⟩
  have n : (us ++ []).length = ps.length := by rw [List.append_nil, ← r.length]; exact F.len _ _ _ _ q
  have b := B s1 us I1.kIn n
  rw [List.append_nil] at b
  refine wpAny_call (codeAny_mono (F.go X.A X.stack s1 H1 ⟨us, []⟩ us vs Q E0 ⟨hgd, hr, I1.env0, b, r, q⟩) (fun r s' hq => ?_))
  cases r with
  | error e => exact False.elim hq
  | ok fl =>
    cases fl with
    | ret u => exact I1.after hq
    | next => exact False.elim hq
    | brk => exact False.elim hq
    | cont => exact False.elim hq
end
/-! ## repr of data -/
structure Nice (d : PyData) : Prop where
  lay : PyData.layable0 d = true
  shrt : PyData.intsShort 13 d = true
  show_ : PyData.showable d = true
theorem Nice.size {d : PyData} (h : Nice d) : d.shown.length ≤ sizeLine := by
  have z := shown_le13 h.lay h.shrt
  rw [sizeLine_eq]
  omega
theorem Nice.depth {d : PyData} (h : Nice d) : d.depth ≤ 64 := by
  have z := h.lay
  unfold PyData.layable0 at z
  simp only [Bool.and_eq_true, decide_eq_true_eq] at z
  exact z.1.2
def rReprD (K : PySem.W.Frag) : List V → Hp → VK → Prop := fun vs H Q => ∃ (x : V) (d : PyData), vs = [x] ∧ Dp K H x d ∧ Nice d ∧ Q (.str d.shown) H
theorem cr_reprD {X : Cx} {K : PySem.W.Frag} {A : Around} (hg : A.guards = some []) (hu : A.units + 100 < cLine) (hA : X.A = A := by rfl) (hK : X.K = K := by rfl) : CallR X (.builtin "repr") (rReprD K) := by
  subst hA hK
  intro pins s σ H vs us Q I r h
  obtain ⟨x, d, rfl, hd, nd, q⟩ := h
  obtain ⟨u, rfl, ru⟩ := vals1 r
  have hdp := nd.depth
  cases hd with
  | non => cases ru; exact PySem.P.repr_of_none ⟨.str _, H, I.tok _, ⟨_, rfl⟩, q⟩
  | bl b => cases ru; exact PySem.P.repr_of_bool ⟨.str _, H, I.tok _, ⟨_, rfl⟩, q⟩
  | int i => obtain ⟨t, rfl⟩ := ru; exact PySem.P.repr_of_int (of_decide_eq_true nd.show_) ⟨.str _, H, I.tok _, ⟨_, rfl⟩, q⟩
  | str z => obtain ⟨t, rfl⟩ := ru; exact PySem.P.repr_of_str ⟨.str _, H, I.tok _, ⟨_, rfl⟩, q⟩ nd.size
  | lst h1 h2 =>
    cases ru
    obtain ⟨as, hr⟩ := Dp.reads I _ _ _ (Dp.lst h1 h2) rfl
    exact repr_of_reads' hr nd.show_ (PyData.noDict_hsm (PyData.hasDict_of_layable nd.lay)) hg (by omega) (fun _ _ e => e) (fun h' u tk hk => ⟨.str _, H, I.kept hk, ⟨_, rfl⟩, q⟩) nd.size
  | tup h1 h2 =>
    cases ru
    obtain ⟨as, hr⟩ := Dp.reads I _ _ _ (Dp.tup h1 h2) rfl
    exact repr_of_reads' hr nd.show_ (PyData.noDict_hsm (PyData.hasDict_of_layable nd.lay)) hg (by omega) (fun _ _ e => e) (fun h' u tk hk => ⟨.str _, H, I.kept hk, ⟨_, rfl⟩, q⟩) nd.size
theorem c_repr {K : PySem.W.Frag} {H : Hp} {Q : VK} {x : V} {d : PyData} (h : Dp K H x d) (n : Nice d) (q : Q (.str d.shown) H) : rReprD K [x] H Q := ⟨x, d, rfl, h, n, q⟩

/-! ## the end of a law whose def is such -/
theorem run_end {P : Program} {w : World} {K : PySem.W.Frag} {mg mb : Str → Option Value} {k : Nat} {f a : Addr} {fd : FuncData} {x : Str} {sp : Sp} {s : Shared} {H : Hp}
    (KX : K.In s.heap) (hns : s.heap.Ns mainGlobals mg) (hb : s.heap.Ns builtinsNs mb) (hbb : ∀ x : Str, x ≠ "__name__" → mb x = bootBuiltins x) (hlim : s.heap.NoLimit) (hg : s.gens = #[]) (hr : Room k callerA)
    (F : ∀ base : Heap, K.In base → base.Ns mainGlobals mg → FnG P w K mg base CX0 k f fd [x] sp) (bind : BindsTo s fd ⟨[.ref a], []⟩ [(x, .ref a)]) (hsp : sp [.ref a] H (fun v _ => v = .bl true) fun _ _ _ => False)
    (only : Only H) (hok : HOk P w H s.heap) (one : ∀ b, H b ≠ none → b = a ∧ K.lookup a = none ∧ ∀ o, s.heap.get? a = some o → ∀ es ep, o.data ≠ .dict es ep) :
    codeAny (model P w) callerA (.call (.ref f) ⟨[.ref a], []⟩) (fun r s' => r = .ok (.ret (.bool true)) ∧ OldK s.heap s'.heap ∧ s'.os = s.os ∧ AllBare s'.gens) s := by
  have free : ∀ {b o es ep}, s.heap.get? b = some o → o.data = .dict es ep → H b = none := by
    intro b o es ep e d
    cases z : H b with
    | none => rfl
    | some u =>
      obtain ⟨e1, _, e3⟩ := one b (by rw [z]; intro q; cases q)
      subst e1
      exact absurd d (e3 o e es ep)
  have ns : ∀ {b m}, s.heap.Ns b m → (hidT s.heap H).Ns b m := by
    rintro b m ⟨o, es, ep, e, d, r⟩
    exact ⟨o, es, ep, hidT_get e (free e d), d, r⟩
  have KB : K.In (hidT s.heap H) := by
    intro b o e
    refine hidT_get (KX b o e) ?_
    cases z : H b with
    | none => rfl
    | some u =>
      obtain ⟨e1, e2, _⟩ := one b (by rw [z]; intro q; cases q)
      subst e1
      rw [e2] at e
      cases e
  have M : Mod K mg (hidT s.heap H) := ⟨KB, ns hns, ⟨mb, ns hb, hbb⟩, by obtain ⟨mc, h1, h2⟩ := hlim; exact ⟨mc, ns h1, h2⟩⟩
  have e0 : Env0 P w K mg (hidT s.heap H) callerA [] s H := ⟨rfl, M, fun b o e => of_hidT e, Nat.le_of_eq (hidT_size _ _), trivial, fun b hb => absurd hb (by simp [frs]), hok, .of_eq hg⟩
  refine codeAny_mono ((F _ KB (ns hns)).go callerA [] s H ⟨[.ref a], []⟩ [.ref a] [.ref a] _ _ ⟨rfl, hr, e0, bind, .cons rfl .nil, hsp⟩) (fun r s' z => ?_)
  cases r with
  | error e => exact False.elim z
  | ok fl =>
    cases fl with
    | next => exact False.elim z
    | brk => exact False.elim z
    | cont => exact False.elim z
    | ret u =>
      obtain ⟨v, H', os, bare, un, hok', rv, q⟩ := z
      cases (show v = .bl true from q)
      cases rv
      refine ⟨rfl, OldK.of_keep (fun b o e => ?_), os, bare⟩
      rcases only b with z | ⟨ob, xs, z⟩
      · exact un.keep b o e z (by simp [frs]) (by simp)
      · have e1 := (hok b _ z).1
        have e2 := (hok' b _ (un.frzs b ob _ z)).1
        rw [e] at e1
        cases e1
        exact e2
theorem law_end {l : PySem.W.OpenLaw} {n k : Nat} {q : Program} {loose : List Str} {XP : (Str → Option Value) → Heap → Prop} {YP : World → Heap → Prop} {d : DefRec} {x : Str}
    (hn : l.most = some n) (hn2 : n ≤ sizeLine) (hdf : d.params.defaults = []) (hr : Room k callerA)
    (F : ∀ (w : World) (mg : Str → Option Value) (fa : Addr) (h : Heap), YP w h → h.Ns mainGlobals mg → mg d.name = some (.ref fa) →
      ∃ (K : PySem.W.Frag) (fd : FuncData) (sp : Sp), K.In h ∧ (∀ (s : Shared) (u : Value), BindsTo s fd ⟨[u], []⟩ [(x, u)]) ∧
        (∀ (H : Hp) (a : Addr) (ns : List Int), SqL K H a (ns.map V.int) → sp [.ref a] H (fun v _ => v = .bl true) fun _ _ _ => False) ∧
        ∀ base : Heap, K.In base → base.Ns mainGlobals mg → FnG l.prog w K mg base CX0 k fa fd [x] sp) :
    PySem.W.WalkO q loose XP YP l.row.toRowW d [] (fun f vs => PySem.call f vs) := by
  refine Att.attach_call hn hdf (fun w s0 s mg mb fa o pm cd doc a vs ns G Y ho hd hcd hmg hobj hints hlen hg => ?_)
  obtain ⟨K, fd, sp, KX, bind, hsp, hF⟩ := F w mg fa _ Y G.T.g hmg
  have rv := vals_ints hints
  have len := hints.length
  have hz : ns.length ≤ sizeLine := Nat.le_trans hlen hn2
  cases hk : K.lookup a with
  | some ob =>
    have e := KX a ob hk
    rw [hobj] at e
    cases e
    exact run_end (H := fun _ => none) KX G.T.g G.T.b G.T.builtins G.T.nolimit hg hr hF (bind s _) (hsp _ a ns (.inr ⟨_, vs.toArray, _, hk, rfl, rfl, rfl, by rw [List.size_toArray, len]; exact hz, by simpa using rv⟩)) (fun _ => .inl rfl) (fun b u z => by cases z) (fun b z => absurd rfl z)
  | none =>
    have at_ : (fun b => if b = a then some (HO.frz { cls := .type "list", data := .seq vs.toArray } (.lst (ns.map V.int))) else none : Hp) a = some (HO.frz { cls := .type "list", data := .seq vs.toArray } (.lst (ns.map V.int))) := if_pos rfl
    refine run_end (H := fun b => if b = a then some (HO.frz { cls := .type "list", data := .seq vs.toArray } (.lst (ns.map V.int))) else none) KX G.T.g G.T.b G.T.builtins G.T.nolimit hg hr hF (bind s _) (hsp _ a ns (.inl (.inr ⟨_, at_⟩))) (fun b => ?_) (fun b u z => ?_) (fun b z => ?_)
    · by_cases h : b = a
      · exact .inr ⟨_, _, if_pos h⟩
      · exact .inl (if_neg h)
    · by_cases h : b = a
      · cases h
        cases (if_pos rfl).symm.trans z
        exact ⟨hobj, by rw [List.length_map]; exact hz, vs, _, rv, hobj⟩
      · cases (if_neg h).symm.trans z
    · by_cases h : b = a
      · refine ⟨h, hk, fun o2 e es ep dd => ?_⟩
        rw [hobj] at e
        cases e
        cases dd
      · exact absurd (if_neg h) z
/-- the law's own def, for this end -/
theorem lawG_of {fa : List He.Fa} {fn : List He.DefD} {P : Program} {w : World} {K : PySem.W.Frag} {mg : Str → Option Value} {h : Heap} {f : Addr} {N : List Str} {x : Str} {st : Stmt} {k : Nat} {sp : Sp} (KX : K.In h) (G : h.Ns mainGlobals mg) (c : He.SaysD fa fn K)
    (hf : mg "law" = some (.ref f)) (i j : Nat) (S : FnScope N [x] (defScope st)) (B : BindN "law" st [x]) (len : ∀ vs H Q E, sp vs H Q E → vs.length = 1) (body : ∀ base, BodyG P w K mg base "law" st N k sp)
    (hd : fn[i]? = some (dOf "law" st) := by rfl) (hg : fa[j]? = some (.glo "law") := by rfl) :
    ∃ fd : FuncData, (∀ (s : Shared) (v : Value), BindsTo s fd ⟨[v], []⟩ [(x, v)]) ∧ ∀ base : Heap, K.In base → base.Ns mainGlobals mg → FnG P w K mg base CX0 (k + 1) f fd [x] sp := by
  obtain ⟨fd, F⟩ := c.def_ i hd
  have gl := He.glo_ok KX G (c.fact j hg)
  cases hf.symm.trans gl
  have b := F.bindsA (ps := [x]) B
  exact ⟨fd, fun s v => b s [v] rfl, fun base _ _ => fnG_of F S len (body base)⟩
end Sa

/-! Texts: split, startswith, the tie. -/
namespace Sa
open PySem L2
section
variable {X : Cx} {K : PySem.W.Frag} {σ : St} {H : Hp} {Q : VK} {a : Addr} {s z : Str} {to te : TE} {o e : Expr}
/-- a text parted by another one -/
def rSplitU : V → List V → Hp → VK → Prop := fun x xs H Q => ∃ a b, x = .str a ∧ xs = [.str b] ∧ (b.length == 0) = false ∧ a.length + 2 ≤ sizeLine ∧ ∀ p, H p = none → Q (.ref p) (upd H p (.lst ((Txt.split a b).map V.str)))
theorem pe_splitU {apos pos : Pos} (ho : PE X o to) (he : PE X e te) (hs : starEach [e] X.env = [(false, eval e X.env)] := by rfl) (hbase : attributeBase o "split" X.env (eval o X.env) = eval o X.env := by rfl) (hline : (apos.endLine == pos.line) = true := by rfl) :
    PE X (.Call (.Attribute o "split" apos) [e] [] pos) (tM1 rSplitU to te) := pe_split ho he hs hbase hline
theorem c_split (h0 : (z.length == 0) = false) (hl : s.length + 2 ≤ sizeLine) (q : ∀ p H', New H p (.lst ((Txt.split s z).map V.str)) H' → Q (.ref p) H') : rSplitU (.str s) [.str z] H Q :=
  ⟨s, z, rfl, rfl, h0, hl, fun p hp => q p _ ⟨hp, rfl⟩⟩
def rStartsU : V → List V → Hp → VK → Prop := fun x xs H Q => ∃ a b, x = .str a ∧ xs = [.str b] ∧ Q (.bl (Txt.startswith a b)) H
theorem mt_startsU : MtR X "str.startswith" rStartsU := mt_startswith
theorem c_starts (q : Q (.bl (Txt.startswith s z)) H) : rStartsU (.str s) [.str z] H Q := ⟨s, z, rfl, rfl, q⟩
end
/-! ## the parts of a text -/
theorem join_len (y : Str) : ∀ ys : List Str, (ys.map (·.length)).sum + (ys.length - 1) * y.length = (Str.join y ys).length
  | [] => by show 0 + 0 * y.length = 0; omega
  | [x] => by show x.length + 0 + 0 * y.length = x.length; omega
  | x :: z :: r => by
    have ih := join_len y (z :: r)
    show _ = (x ++ y ++ Str.join y (z :: r)).length
    have l2 : ∀ a b : Str, (a ++ b).length = a.length + b.length := fun a b => by show (a.cps ++ b.cps).size = _; rw [Array.size_append]; rfl
    rw [l2, l2, ← ih]
    simp only [List.map_cons, List.sum_cons, List.length_cons, Nat.add_sub_cancel, Nat.add_mul, Nat.one_mul]
    omega
theorem split_len (x y : Str) : ((Txt.split x y).map (·.length)).sum + ((Txt.split x y).length - 1) * y.length = x.length := by
  rw [join_len, StrLaws.join_split]
theorem sum_mem {n : Nat} : ∀ {ns : List Nat}, n ∈ ns → n ≤ ns.sum
  | m :: r, h => by
    rw [List.sum_cons]
    rcases List.mem_cons.mp h with e | h
    · omega
    · have := sum_mem h
      omega
theorem split_part {x y z : Str} (h : z ∈ Txt.split x y) : z.length ≤ x.length := by
  have e := split_len x y
  have := sum_mem (List.mem_map_of_mem (f := fun s : Str => s.length) h)
  omega
theorem split_many {x : Str} (y : Str) (hy : 0 < y.length) : (Txt.split x y).length ≤ x.length + 1 := by
  have e := split_len x y
  have : (Txt.split x y).length - 1 ≤ ((Txt.split x y).length - 1) * y.length := Nat.le_mul_of_pos_right _ hy
  omega
theorem join_take (y : Str) (n : Nat) (ys : List Str) : (Str.join y (ys.take n)).length ≤ (Str.join y ys).length := by
  rw [← join_len, ← join_len]
  have h1 : ((ys.take n).map (·.length)).sum ≤ (ys.map (·.length)).sum := by
    conv => rhs; rw [← List.take_append_drop n ys, List.map_append, List.sum_append]
    omega
  have h2 : ((ys.take n).length - 1) * y.length ≤ (ys.length - 1) * y.length := Nat.mul_le_mul_right _ (by rw [List.length_take]; omega)
  omega
/-- text[:len(y)] is y just where text begins with it -/
theorem cut_starts (x y : Str) : decide (cutS x none (some (y.length : Int)) = y) = Txt.startswith x y := by
  rw [txt_of x, txt_of y, cutS_txt, txt_len]
  generalize x.cps.toList = xs
  generalize y.cps.toList = ys
  rw [sIx_of (by omega), Int.toNat_natCast]
  show decide (txt ((xs.drop (HT.sIx xs.length 0 none)).take (min ys.length xs.length - HT.sIx xs.length 0 none)) = txt ys) = _
  have e0 : HT.sIx xs.length 0 none = 0 := rfl
  rw [e0, List.drop_zero, Nat.sub_zero]
  unfold Txt.startswith
  rw [StrLaws.subAt_eq, txt_cps, txt_cps, txt_len, txt_len, List.drop_zero, Nat.zero_add]
  have e1 : xs.take (min ys.length xs.length) = xs.take ys.length := by
    by_cases h : ys.length ≤ xs.length
    · rw [Nat.min_eq_left h]
    · rw [Nat.min_eq_right (by omega), List.take_of_length_le (Nat.le_refl _), List.take_of_length_le (by omega)]
  rw [e1]
  by_cases h : xs.take ys.length = ys
  · have hl : ys.length ≤ xs.length := by have := congrArg List.length h; rw [List.length_take] at this; omega
    rw [h]
    simp [hl]
  · have hn : txt (xs.take ys.length) ≠ txt ys := fun e => h (txt_inj.mp e)
    simp [h, hn]
theorem getD_app_l {xs ys : List Int} {i : Nat} (h : i < xs.length) : (xs ++ ys).getD i 0 = xs.getD i 0 := by
  rw [List.getD_eq_getElem?_getD, List.getD_eq_getElem?_getD, List.getElem?_append_left h]
theorem getD_app_r {xs ys : List Int} {i : Nat} (h : xs.length ≤ i) : (xs ++ ys).getD i 0 = ys.getD (i - xs.length) 0 := by
  rw [List.getD_eq_getElem?_getD, List.getD_eq_getElem?_getD, List.getElem?_append_right h]
theorem getD_rep (n i : Nat) : (List.replicate n (0 : Int)).getD i 0 = 0 := by
  rw [List.getD_eq_getElem?_getD, List.getElem?_replicate]
  split <;> rfl
theorem str_app_len (a b : Str) : (a ++ b).length = a.length + b.length := by show (a.cps ++ b.cps).size = _; rw [Array.size_append]; rfl
theorem un100 {k : Nat} {A : Around} (r : Room k A) : A.units + 100 < cLine := by have := r.un; omega
/-! ## comprehensions whose parts only make things -/
section
variable {K : PySem.W.Frag} {σ : St} {H : Hp} {g : TG} {tt : TT} {te : TE} {a b d : Addr} {z : Str} {lo : Int} {n : Nat} {Q : VK} {vs : List Nat} {xs : List V}
theorem lcS (Pv : Addr → Nat → List V → Hp → Prop) (h0 : ∀ Dl, H Dl = none → Pv Dl 0 [] (upd H Dl (.lst [])))
    (hs : ∀ Dl i c acc H', H Dl = none → z.cps.toList[i]? = some c → H' Dl = some (.lst acc) → acc.length ≤ i → Pv Dl i acc H' → LcT g tt te vs σ Pv Dl i (.str ⟨#[c]⟩) H')
    (hd : ∀ Dl acc H', H Dl = none → H' Dl = some (.lst acc) → acc.length ≤ z.cps.toList.length → Pv Dl z.cps.toList.length acc H' → Q (.ref Dl) H') : LcJ (Its z) g tt te vs σ H Q := by
  intro Dl hD
  refine ⟨fun i m H' => m = z.cps.size - i ∧ i ≤ z.cps.size ∧ LcN Pv Dl i H', ⟨_, rfl, Nat.zero_le _, [], upd_same, Nat.zero_le _, h0 Dl hD⟩, ?_⟩
  rintro i m H1 ⟨rfl, hi, acc, h1, h2, h3⟩
  by_cases hlt : i < z.cps.size
  · refine .inr ⟨hlt, LcN Pv Dl (i + 1), fun H' p' => ⟨_, by omega, rfl, hlt, p'⟩, fun x H' y => ?_⟩
    obtain ⟨e, c, hc, e2⟩ := y
    subst e e2
    exact hs Dl i c acc _ hD (by rw [Array.getElem?_toList]; exact hc) h1 h2 h3
  · have e : i = z.cps.toList.length := by rw [Array.length_toList]; omega
    subst e
    exact .inl ⟨by rw [Array.length_toList] at hlt; exact Nat.le_of_not_lt hlt, hd Dl acc _ hD h1 h2 h3⟩
/-- the turn of such a comprehension -/
abbrev LcM (g : TG) (tt : TT) (te : TE) (vs : List Nat) (σ : St) (R : VK) (S : Hp → Prop) (x : V) (H' : Hp) : Prop :=
  g x (wipe σ vs) H' fun σ2 H2 => wipe σ2 vs = wipe σ vs ∧ tt σ2 H2 fun b H3 => if b = true then te σ2 H3 R else S H3
theorem lcS_map (f : Nat → V) (p : Nat → Bool) (hz : z.length ≤ 16777216)
    (hs : ∀ c H' R S, c ∈ z.cps.toList → Kp [] H H' → (p c = true → ∀ H4, Kp [] H' H4 → R (f c) H4) → (p c = false → ∀ H4, Kp [] H' H4 → S H4) → LcM g tt te vs σ R S (.str ⟨#[c]⟩) H')
    (hd : ∀ Dl H', H Dl = none → Kp [] H H' → H' Dl = some (.lst ((z.cps.toList.filter p).map f)) → Q (.ref Dl) H') : LcJ (Its z) g tt te vs σ H Q := by
  refine lcS (fun Dl i acc H' => Kp [] H H' ∧ acc = ((z.cps.toList.take i).filter p).map f) (fun Dl hD => ⟨Kp.new hD, rfl⟩) ?_ ?_
  · rintro Dl i c acc H' hD hc hacc hl ⟨e, rfl⟩
    have hi : i < z.cps.toList.length := (List.getElem?_eq_some_iff.mp hc).1
    have hz2 : z.cps.toList.length ≤ 16777216 := by rw [Array.length_toList]; exact hz
    refine hs c H' _ _ (List.mem_of_getElem? hc) e (fun hp H4 e4 => ?_) (fun hp H4 e4 => ?_)
    · exact lc_push (e4.at0 hacc) hl (by omega) ⟨(e.trans e4).fresh_mut hD, by rw [take_succ' hc, List.filter_append, List.map_append]; simp [hp]⟩
    · exact lc_skip (e4.at0 hacc) hl ⟨e.trans e4, by rw [take_succ' hc, List.filter_append, List.map_append]; simp [hp]⟩
  · rintro Dl acc H' hD hacc hl ⟨e, rfl⟩
    rw [List.take_length] at hacc
    exact hd Dl H' hD e hacc
theorem lcL_map {α : Type} {ys : List α} {u : α → V} (f : α → V) (p : α → Bool) (h : SqL K H a (ys.map u)) (hz : ys.length ≤ 16777216)
    (hs : ∀ y H' R S, y ∈ ys → Kp [] H H' → (p y = true → ∀ H4, Kp [] H' H4 → R (f y) H4) → (p y = false → ∀ H4, Kp [] H' H4 → S H4) → LcM g tt te vs σ R S (u y) H')
    (hd : ∀ Dl H', H Dl = none → Kp [] H H' → H' Dl = some (.lst ((ys.filter p).map f)) → Q (.ref Dl) H') : LcJ (Itl K a) g tt te vs σ H Q := by
  refine lcL (ys.map u) (fun Dl i acc H' => Kp [] H H' ∧ acc = ((ys.take i).filter p).map f) (fun Dl hD => ⟨Kp.new hD, rfl⟩) (fun Dl i acc H' hD e => SqL.kp e.1 h) ?_ ?_
  · rintro Dl i x acc H' hD hx hacc hl ⟨e, rfl⟩
    rw [List.getElem?_map] at hx
    obtain ⟨c, hc, rfl⟩ := Option.map_eq_some_iff.mp hx
    have hi : i < ys.length := (List.getElem?_eq_some_iff.mp hc).1
    refine hs c H' _ _ (List.mem_of_getElem? hc) e (fun hp H4 e4 => ?_) (fun hp H4 e4 => ?_)
    · exact lc_push (e4.at0 hacc) hl (by omega) ⟨(e.trans e4).fresh_mut hD, by rw [take_succ' hc, List.filter_append, List.map_append]; simp [hp]⟩
    · exact lc_skip (e4.at0 hacc) hl ⟨e.trans e4, by rw [take_succ' hc, List.filter_append, List.map_append]; simp [hp]⟩
  · rintro Dl acc H' hD hacc hl ⟨e, rfl⟩
    rw [List.length_map, List.take_length] at hacc
    exact hd Dl H' hD e hacc
theorem lcT_map {α : Type} {ys : List α} {u : α → V} (f : α → V) (p : α → Bool) (h : SqT K H a (ys.map u)) (hz : ys.length ≤ 16777216)
    (hs : ∀ y H' R S, y ∈ ys → Kp [] H H' → (p y = true → ∀ H4, Kp [] H' H4 → R (f y) H4) → (p y = false → ∀ H4, Kp [] H' H4 → S H4) → LcM g tt te vs σ R S (u y) H')
    (hd : ∀ Dl H', H Dl = none → Kp [] H H' → H' Dl = some (.lst ((ys.filter p).map f)) → Q (.ref Dl) H') : LcJ (Itt K a) g tt te vs σ H Q := by
  refine lcT (ys.map u) (fun Dl i acc H' => Kp [] H H' ∧ acc = ((ys.take i).filter p).map f) (fun Dl hD => ⟨Kp.new hD, rfl⟩) (fun Dl i acc H' hD e => SqT.kp e.1 h) ?_ ?_
  · rintro Dl i x acc H' hD hx hacc hl ⟨e, rfl⟩
    rw [List.getElem?_map] at hx
    obtain ⟨c, hc, rfl⟩ := Option.map_eq_some_iff.mp hx
    have hi : i < ys.length := (List.getElem?_eq_some_iff.mp hc).1
    refine hs c H' _ _ (List.mem_of_getElem? hc) e (fun hp H4 e4 => ?_) (fun hp H4 e4 => ?_)
    · exact lc_push (e4.at0 hacc) hl (by omega) ⟨(e.trans e4).fresh_mut hD, by rw [take_succ' hc, List.filter_append, List.map_append]; simp [hp]⟩
    · exact lc_skip (e4.at0 hacc) hl ⟨e.trans e4, by rw [take_succ' hc, List.filter_append, List.map_append]; simp [hp]⟩
  · rintro Dl acc H' hD hacc hl ⟨e, rfl⟩
    rw [List.length_map, List.take_length] at hacc
    exact hd Dl H' hD e hacc
/-- each turn draws -/
theorem lcR_draw {α : Type} (f : α → V) (Pa : α → Prop) (B : Bx H b d) (hz : n ≤ 16777216)
    (hs : ∀ i H' R S, i < n → Kp [b] H H' → Bx H' b d → (∀ x H4, Pa x → Kp [b] H' H4 → Bx H4 b d → R (f x) H4) → LcM g tt te vs σ R S (.int (lo + (i : Nat))) H')
    (hd : ∀ Dl H' (as : List α), H Dl = none → as.length = n → (∀ x ∈ as, Pa x) → Kp [b] H H' → Bx H' b d → H' Dl = some (.lst (as.map f)) → Q (.ref Dl) H') : LcJ (Itr lo n) g tt te vs σ H Q := by
  refine lcR (fun Dl i acc H' => Kp [b] H H' ∧ Bx H' b d ∧ ∃ as : List α, acc = as.map f ∧ as.length = i ∧ ∀ x ∈ as, Pa x) (fun Dl hD => ⟨Kp.new hD, B.new hD, [], rfl, rfl, by simp⟩) ?_ ?_
  · rintro Dl i acc H' hD hi hacc hl ⟨e, B1, as, rfl, hlen, hP⟩
    have nD := B.ne_new hD
    refine hs i H' _ _ hi e B1 (fun x H4 hx e4 B4 => ?_)
    refine lc_push (e4.at1 nD.1 hacc) hl (by omega) ⟨(e.trans e4).fresh_mut hD, B4.other nD.1 nD.2, as ++ [x], by rw [List.map_append]; rfl, by rw [List.length_append, hlen]; rfl, fun y hy => ?_⟩
    rcases List.mem_append.mp hy with h | h
    · exact hP y h
    · rw [List.mem_singleton.mp h]; exact hx
  · rintro Dl acc H' hD hacc hl ⟨e, B1, as, rfl, hlen, hP⟩
    exact hd Dl H' as hD hlen hP e B1 hacc
end
theorem Bx.pick {H H1 H2 : Hp} {b d p : Addr} {xs : List V} {K : PySem.W.Frag} (B : Bx H b d) (N : New H p (.lst xs) H1) (e : Kp [b] H1 H2) : SqL K H2 p xs := .of (e.at1 (B.ne_new N.fr).1 N.at_)
theorem c_pick {K : PySem.W.Frag} {H : Hp} {a : Addr} {i : Int} {Q : VK} {xs : List V} (h : SqL K H a xs) (h0 : 0 ≤ i) (h1 : i < xs.length) (q : ∀ v ∈ xs, Q v H) : rIx K (.ref a) (.int i) H Q :=
  c_ixL h (atI_at h0 h1) (q _ (by
    rw [List.getD_eq_getElem?_getD, List.getElem?_eq_getElem (by omega)]
    exact List.getElem_mem _))
theorem c_pickM {α : Type} {K : PySem.W.Frag} {H : Hp} {a : Addr} {i : Int} {Q : VK} {u : α → V} (ys : List α) (h : SqL K H a (ys.map u)) (h0 : 0 ≤ i) (h1 : i < ys.length) (q : ∀ y ∈ ys, Q (u y) H) : rIx K (.ref a) (.int i) H Q :=
  c_pick h h0 (by rw [List.length_map]; exact h1) (fun v hv => by obtain ⟨y, hy, rfl⟩ := List.mem_map.mp hv; exact q y hy)
/-! ## values compared, shown -/
section
variable {K : PySem.W.Frag} {H : Hp} {Q : VK} {a b : Addr} {ns ms : List Int}
theorem dp_intsT (h : SqT K H a (ns.map V.int)) : Dp K H (.ref a) (.tuple (ns.map PyData.int)) := .tup h (dpAll_ints ns)
end
end Sa

/-! Data: rows of texts compared; what is small enough to be shown. -/
namespace Sa
open PySem L2
section
variable {K : PySem.W.Frag} {H : Hp} {Q : VK} {a b : Addr} {ys zs : List Str}
/-- all codes are codes -/
def okS (z : Str) : Bool := PyData.strOk z
theorem dpAll_strs : ∀ ys : List Str, DpAll K H (ys.map V.str) (ys.map PyData.str)
  | [] => .nil
  | n :: r => .cons (.str n) (dpAll_strs r)
theorem dp_strs (h : SqL K H a (ys.map V.str)) : Dp K H (.ref a) (.list (ys.map PyData.str)) := .lst h (dpAll_strs ys)
theorem dp_strsT (h : SqT K H a (ys.map V.str)) : Dp K H (.ref a) (.tuple (ys.map PyData.str)) := .tup h (dpAll_strs ys)
theorem eqvAll_strs : ∀ ys zs : List Str, PyData.eqvAll (ys.map PyData.str) (zs.map PyData.str) = decide (ys = zs)
  | [], [] => by simp [PyData.eqvAll]
  | [], _ :: _ => by simp [PyData.eqvAll]
  | _ :: _, [] => by simp [PyData.eqvAll]
  | a :: r, b :: t => by
    simp only [List.map_cons, PyData.eqvAll, PyData.eqv, eqvAll_strs r t]
    by_cases h : a = b <;> by_cases h' : r = t <;> simp [h, h']
theorem layAll_strs : ∀ {ys : List Str}, (∀ y ∈ ys, okS y = true) → PyData.canLayAll0 (ys.map PyData.str) = true
  | [], _ => rfl
  | y :: r, h => by
    simp only [List.map_cons, PyData.canLayAll0, PyData.canLay0, Bool.and_eq_true]
    exact ⟨h y (List.mem_cons_self ..), layAll_strs fun z hz => h z (List.mem_cons_of_mem _ hz)⟩
theorem depthAll_strs : ∀ ys : List Str, PyData.depthAll (ys.map PyData.str) = 0
  | [] => rfl
  | y :: r => by simp [PyData.depthAll, PyData.depth, depthAll_strs r]
theorem shaped_strsL (h : ∀ y ∈ ys, okS y = true) : SeqAt.shaped (.list (ys.map PyData.str)) = true := by
  simp only [SeqAt.shaped, PyData.canLay0, PyData.depth, depthAll_strs, Bool.and_eq_true, decide_eq_true_eq]
  exact ⟨layAll_strs h, by omega⟩
theorem shaped_strsT (h : ∀ y ∈ ys, okS y = true) : SeqAt.shaped (.tuple (ys.map PyData.str)) = true := by
  simp only [SeqAt.shaped, PyData.canLay0, PyData.depth, depthAll_strs, Bool.and_eq_true, decide_eq_true_eq]
  exact ⟨layAll_strs h, by omega⟩
theorem c_eqLS (ha : SqL K H a (ys.map V.str)) (hb : SqL K H b (zs.map V.str)) (h1 : ∀ y ∈ ys, okS y = true) (h2 : ∀ y ∈ zs, okS y = true) (q : Q (.bl (decide (ys = zs))) H) : rEqU K (.ref a) (.ref b) H Q :=
  c_eqD (dp_strs ha) (dp_strs hb) (shaped_strsL h1) (shaped_strsL h2) (by rw [PyData.eqv, eqvAll_strs]; exact q)
theorem c_eqTS (ha : SqT K H a (ys.map V.str)) (hb : SqT K H b (zs.map V.str)) (h1 : ∀ y ∈ ys, okS y = true) (h2 : ∀ y ∈ zs, okS y = true) (q : Q (.bl (decide (ys = zs))) H) : rEqU K (.ref a) (.ref b) H Q :=
  c_eqD (dp_strsT ha) (dp_strsT hb) (shaped_strsT h1) (shaped_strsT h2) (by rw [PyData.eqv, eqvAll_strs]; exact q)
theorem c_neTS (ha : SqT K H a (ys.map V.str)) (hb : SqT K H b (zs.map V.str)) (h1 : ∀ y ∈ ys, okS y = true) (h2 : ∀ y ∈ zs, okS y = true) (q : Q (.bl (!decide (ys = zs))) H) : rNeU K (.ref a) (.ref b) H Q :=
  c_neD (dp_strsT ha) (dp_strsT hb) (shaped_strsT h1) (shaped_strsT h2) (by rw [PyData.eqv, eqvAll_strs]; exact q)
theorem c_neTI {ns ms : List Int} (ha : SqT K H a (ns.map V.int)) (hb : SqT K H b (ms.map V.int)) (s1 : SeqAt.shaped (.tuple (ns.map PyData.int)) = true) (s2 : SeqAt.shaped (.tuple (ms.map PyData.int)) = true) (q : Q (.bl (!decide (ns = ms))) H) : rNeU K (.ref a) (.ref b) H Q :=
  c_neD (dp_intsT ha) (dp_intsT hb) s1 s2 (by rw [PyData.eqv, eqvAll_ints]; exact q)
end
theorem c_eqSame {K : PySem.W.Frag} {H : Hp} {Q : VK} {x y : V} {d : PyData} (hx : Dp K H x d) (hy : Dp K H y d) (sd : SeqAt.shaped d = true) (q : Q (.bl true) H) : rEqU K x y H Q :=
  c_eqD hx hy sd sd (by rw [SeqAt.eqv_refl d (SeqAt.canLay_of_shaped sd)]; exact q)
theorem c_neSame {K : PySem.W.Frag} {H : Hp} {Q : VK} {x y : V} {d : PyData} (hx : Dp K H x d) (hy : Dp K H y d) (sd : SeqAt.shaped d = true) (q : Q (.bl false) H) : rNeU K x y H Q :=
  c_neD hx hy sd sd (by rw [SeqAt.eqv_refl d (SeqAt.canLay_of_shaped sd)]; exact q)
theorem rptS_txt (c : Nat) (n : Int) : rptS (txt [c]) n = txt (List.replicate n.toNat c) := by
  unfold rptS
  rw [txt_cps]
  show txt _ = _
  congr 1
  induction n.toNat with
  | zero => rfl
  | succ n ih => rw [List.replicate_succ, List.flatten_cons, ih, List.replicate_succ]; rfl
/-! what stands in the parts of a text -/
theorem cps_app (a b : Str) : (a ++ b).cps.toList = a.cps.toList ++ b.cps.toList := by show (a.cps ++ b.cps).toList = _; rw [Array.toList_append]
theorem join_mem {y z : Str} {c : Nat} : ∀ {ys : List Str}, z ∈ ys → c ∈ z.cps.toList → c ∈ (Str.join y ys).cps.toList
  | [x], h, hc => by rw [List.mem_singleton.mp h] at hc; exact hc
  | x :: u :: r, h, hc => by
    show c ∈ (x ++ y ++ Str.join y (u :: r)).cps.toList
    rw [cps_app, cps_app, List.mem_append, List.mem_append]
    rcases List.mem_cons.mp h with e | h
    · subst e; exact .inl (.inl hc)
    · exact .inr (join_mem h hc)
theorem split_mem {x y z : Str} {c : Nat} (h : z ∈ Txt.split x y) (hc : c ∈ z.cps.toList) : c ∈ x.cps.toList := by
  have := join_mem (y := y) h hc
  rw [StrLaws.join_split] at this
  exact this
theorem okS_iff {z : Str} : okS z = true ↔ ∀ c ∈ z.cps.toList, c < 1114112 := by
  unfold okS PyData.strOk
  rw [Array.all_eq_true_iff_forall_mem]
  simp [Array.mem_toList_iff]
theorem split_ok {x y z : Str} (hx : okS x = true) (h : z ∈ Txt.split x y) : okS z = true := okS_iff.mpr fun c hc => okS_iff.mp hx c (split_mem h hc)
theorem rptS_mem {z : Str} {n : Int} {c : Nat} (h : c ∈ (rptS z n).cps.toList) : c ∈ z.cps.toList := by
  unfold rptS at h
  simp only [List.mem_flatten] at h
  obtain ⟨l, hl, hc⟩ := h
  rw [(List.mem_replicate.mp hl).2] at hc
  exact hc
/-! shown -/
theorem nice_bl (b : Bool) : Nice (.bool b) := by cases b <;> exact ⟨by decide +kernel, by decide +kernel, by decide +kernel⟩
theorem nice_bl2 (b c : Bool) : Nice (.tuple [.bool b, .bool c]) := by cases b <;> cases c <;> exact ⟨by decide +kernel, by decide +kernel, by decide +kernel⟩
/-! the value of an and, of an or, whose second part is known -/
section
variable {σ : St} {H : Hp} {Q : VK} {te : TE}
theorem c_andE {c : Bool} (b : Bool) (h : ∀ R : VK, R (.bl b) H → te σ H R) (q : Q (.bl (c && b)) H) : if c = true then te σ H Q else Q (.bl false) H := by
  cases c with
  | true => rw [if_pos rfl]; exact h Q q
  | false => rw [if_neg Bool.false_ne_true]; exact q
theorem c_andK {c : Bool} (b : Bool) (h : ∀ R : VK, (∀ H', Kp [] H H' → R (.bl b) H') → te σ H R) (q : ∀ H', Kp [] H H' → Q (.bl (c && b)) H') : if c = true then te σ H Q else Q (.bl false) H := by
  cases c with
  | true => rw [if_pos rfl]; exact h Q q
  | false => rw [if_neg Bool.false_ne_true]; exact q H Kp.refl
theorem c_orE {c : Bool} (b : Bool) (h : ∀ R : VK, R (.bl b) H → te σ H R) (q : Q (.bl (c || b)) H) : if c = true then Q (.bl true) H else te σ H Q := by
  cases c with
  | true => rw [if_pos rfl]; exact q
  | false => rw [if_neg Bool.false_ne_true]; exact h Q q
theorem c_orK {c : Bool} (b : Bool) (h : ∀ R : VK, (∀ H', Kp [] H H' → R (.bl b) H') → te σ H R) (q : ∀ H', Kp [] H H' → Q (.bl (c || b)) H') : if c = true then Q (.bl true) H else te σ H Q := by
  cases c with
  | true => rw [if_pos rfl]; exact q H Kp.refl
  | false => rw [if_neg Bool.false_ne_true]; exact h Q q
end
theorem dp_bl2 {K : PySem.W.Frag} {H : Hp} {p : Addr} {b c : Bool} (h : H p = some (.tup [.bl b, .bl c])) : Dp K H (.ref p) (.tuple [.bool b, .bool c]) := .tup (SqT.of h) (.cons (.bl b) (.cons (.bl c) .nil))
theorem le_int {a b : Nat} : decide ((a : Int) ≤ (b : Int)) = decide (a ≤ b) := by congr 1; exact propext Int.ofNat_le
end Sa

/-! Defs that may raise an error of a class of the program; methods; an error class with one field. -/
namespace Sa
open PySem L2
section
variable {P : Program} {w : World} {K : PySem.W.Frag} {mg : Str → Option Value} {base : Heap}
theorem Tx.oex {fa : List He.Fa} {fn : List He.DefD} {fx : List Fx} (T : Tx fa fn fx K mg) (i : Nat) {x : Str} (h : fx[i]? = some (.oex x) := by rfl) : OexC K (He.ga K x) := oexB_ok (T.fx i h)
theorem Tx.xfc {fa : List He.Fa} {fn : List He.DefD} {fx : List Fx} (T : Tx fa fn fx K mg) (i : Nat) {x : Str} (h : fx[i]? = some (.xf x) := by rfl) : XfC K (He.ga K x) := xfB_ok (T.fx i h)
theorem Tx.cst {fa : List He.Fa} {fn : List He.DefD} {fx : List Fx} (T : Tx fa fn fx K mg) (i : Nat) {x : Str} {d : PyData} (h : fx[i]? = some (.cst x d) := by rfl) (H : Hp) : Dp K H (.ref (He.ga K x)) d := cst_ref (T.fx i h) H
/-- what the body of a def that may raise owes -/
def BodyX (P : Program) (w : World) (K : PySem.W.Frag) (mg : Str → Option Value) (base : Heap) (x : Str) (st : Stmt) (N : List Str) (k : Nat) (sp : Sp) : Prop :=
  ∀ (cdv : Value) (A : Around) (outer : List Env) (s : Shared) (H : Hp) (vs : List V) (Q : VK) (E : XK), sp vs H Q E → let X : Cx := cxOf (L2.CX P w) P w K mg base N x (defScope st) (He.ga K x) cdv A outer s H E
    Room k X.A → Takes X (fun cls d _ H => E cls d H) → ∃ t, PSs X (defBody st) t ∧ t { nx := fun _ H' => Q .non H', rt := Q } (start N vs) H
theorem def_ofX {fa : List He.Fa} {fn : List He.DefD} {fx : List Fx} (T : Tx fa fn fx K mg) (i j : Nat) {x : Str} {st : Stmt} {N ps : List Str} {k : Nat} {sp : Sp} (S : FnScope N ps (defScope st)) (B : BindN x st ps) (len : ∀ vs H Q E, sp vs H Q E → vs.length = ps.length)
    (body : BodyX P w K mg base x st N k sp) (hd : fn[i]? = some (dOf x st) := by rfl) (hg : fa[j]? = some (.glo x) := by rfl) : DefAt P w K mg base (L2.CX P w) x (k + 1) ps sp := by
  have gl := T.glo j hg
  obtain ⟨hp, X, G, c, _⟩ := T
  obtain ⟨fd, F⟩ := c.def_ i hd
  exact ⟨gl, F.kp, fd, F.ok S len fun cdv A outer s H vs Q E hr h => body cdv A outer s H vs Q E h hr (takes_of rfl rfl rfl rfl), F.bindsN B⟩
end
theorem passE0 {X : Cx} : Passes (L2.CX X.prog X.w) X E0 := fun pins σ H s e s' I h => by
  obtain ⟨_, _, _, _, _, _, _, _, _, _, _, _, z⟩ := h
  exact z.elim
theorem takes_never {X : Cx} : Takes X (fun _ _ _ _ => False) := fun u s' h => by
  obtain ⟨_, _, _, _, _, _, _, _, _, _, _, _, _, _, _, _, z⟩ := h
  exact z.elim
section
variable {X : Cx} {x : Str} {k j : Nat} {ps : List Str} {sp : Sp} {W : WX} {p pos : Pos} {e : Expr} {es : List Expr} {t : TA}
/-- a call of a def that may raise, where the error goes on -/
theorem pe_callX (D : DefAt X.prog X.w X.K X.mg X.base (L2.CX X.prog X.w) x j ps sp) (hr : Room k X.A) (tk : Takes X W) (ha : PA X (e :: es) t) (hjk : j ≤ k := by decide) (hg : Gl X x := by rfl)
    (hdb : (x == ("__debug__" : Str)) = false := by decide) (he : starEach (e :: es) X.env = (false, eval e X.env) :: starEach es X.env := by rfl) (hpl : (backTo pos (starEach es X.env)).any (·.1) = false := by rfl) :
    PE X (.Call (.Name x p) (e :: es) [] pos) (tCallS sp (WE W) t) := by
  obtain ⟨fd, F, B⟩ := D.ok
  exact pe_callS (F.mono hjk) hr hg D.gl D.kp B (fun σ => passAt tk σ) ha hdb he hpl
theorem names_glo {c : Addr} (h : X.mg x = some (.ref c)) (hg : Gl X x := by rfl) (hd : (x == ("__debug__" : Str)) = false := by decide) : Names X x (.ref c) := ⟨hg, hd, .inl h⟩
theorem c_callX {H : Hp} {σ : St} {Q : VK} {tr : TA} (h : tr σ H fun vs H1 => sp vs H1 Q (WE W σ)) : tCallS sp (WE W) tr σ H Q := h
end
/-! ## an error class whose __init__ keeps one field -/
def dOfM (C m q : Str) (st : Stmt) : He.DefD := ⟨(C, some m), m, q, defArgs st, defBody st, defScope st, [], []⟩
def BindM (m q : Str) (st : Stmt) (ps : List Str) : Prop := ∀ (kV doc pm : Value) (an : Option Addr) (cdv ct : Value) (us : List Value), us.length = ps.length →
  bindArgs (PySem.W.fnOf m q (defArgs st) (defBody st) (defScope st) .none kV doc pm an cdv ct) ⟨us, []⟩ = pure (ps.zip us)
/-- the statements of a class's body -/
def clsStmts : Stmt → List Stmt
  | .ClassDef (body := b) .. => b
  | _ => []
def subAt (st : Stmt) (i : Nat) : Stmt := (clsStmts st).getD i (.Pass ⟨0, 0, 0, 0⟩)
section
variable {P : Program} {w : World} {K : PySem.W.Frag} {mg : Str → Option Value} {base : Heap}
/-- a method of the class x that keeps sp -/
structure MethAt (P : Program) (w : World) (K : PySem.W.Frag) (mg : Str → Option Value) (base : Heap) (CX : CXT) (C m : Str) (k : Nat) (ps : List Str) (sp : Sp) : Prop where
  me : Meth K (He.ga K C) m (He.ma K (He.ga K C) m)
  ok : ∃ fd, FnOk P w K mg base CX k (He.ma K (He.ga K C) m) fd ps sp ∧ Binds K fd ps []
def BodyM (P : Program) (w : World) (K : PySem.W.Frag) (mg : Str → Option Value) (base : Heap) (C m q : Str) (st : Stmt) (N : List Str) (k : Nat) (sp : Sp) : Prop :=
  ∀ (cdv : Value) (A : Around) (outer : List Env) (s : Shared) (H : Hp) (vs : List V) (Q : VK) (E : XK), sp vs H Q E → let X : Cx := (cxOf CX0 P w K mg base N q (defScope st) (He.ma K (He.ga K C) m) cdv A outer s H E).nox
    Room k X.A → ∃ t, PSs X (defBody st) t ∧ t { nx := fun _ H' => Q .non H', rt := Q } (start N vs) H
def BodyMX (P : Program) (w : World) (K : PySem.W.Frag) (mg : Str → Option Value) (base : Heap) (C m q : Str) (st : Stmt) (N : List Str) (k : Nat) (sp : Sp) : Prop :=
  ∀ (cdv : Value) (A : Around) (outer : List Env) (s : Shared) (H : Hp) (vs : List V) (Q : VK) (E : XK), sp vs H Q E → let X : Cx := cxOf (L2.CX P w) P w K mg base N q (defScope st) (He.ma K (He.ga K C) m) cdv A outer s H E
    Room k X.A → Takes X (fun cls d _ H => E cls d H) → ∃ t, PSs X (defBody st) t ∧ t { nx := fun _ H' => Q .non H', rt := Q } (start N vs) H
theorem meth_of {fa : List He.Fa} {fn : List He.DefD} {fx : List Fx} (T : Tx fa fn fx K mg) (i j : Nat) {C m q : Str} {st : Stmt} {N ps : List Str} {k : Nat} {sp : Sp} (S : FnScope N ps (defScope st)) (B : BindM m q st ps) (len : ∀ vs H Q E, sp vs H Q E → vs.length = ps.length)
    (body : BodyM P w K mg base C m q st N k sp) (hd : fn[i]? = some (dOfM C m q st) := by rfl) (hg : fa[j]? = some (.meth C m) := by rfl) : MethAt P w K mg base CX0 C m (k + 1) ps sp := by
  have me := He.meth_ok (T.fact j hg)
  obtain ⟨hp, X, G, c, _⟩ := T
  obtain ⟨fd, F⟩ := c.def_ i hd
  refine ⟨me, fd, F.ok S len fun cdv A outer s H vs Q E hr h => ?_, F.bindsN B⟩
  obtain ⟨t, h1, h2⟩ := body cdv A outer s H vs Q E h hr
  exact ⟨t, h1.nox, h2⟩
theorem meth_ofX {fa : List He.Fa} {fn : List He.DefD} {fx : List Fx} (T : Tx fa fn fx K mg) (i j : Nat) {C m q : Str} {st : Stmt} {N ps : List Str} {k : Nat} {sp : Sp} (S : FnScope N ps (defScope st)) (B : BindM m q st ps) (len : ∀ vs H Q E, sp vs H Q E → vs.length = ps.length)
    (body : BodyMX P w K mg base C m q st N k sp) (hd : fn[i]? = some (dOfM C m q st) := by rfl) (hg : fa[j]? = some (.meth C m) := by rfl) : MethAt P w K mg base (L2.CX P w) C m (k + 1) ps sp := by
  have me := He.meth_ok (T.fact j hg)
  obtain ⟨hp, X, G, c, _⟩ := T
  obtain ⟨fd, F⟩ := c.def_ i hd
  exact ⟨me, fd, F.ok S len fun cdv A outer s H vs Q E hr h => body cdv A outer s H vs Q E h hr (takes_of rfl rfl rfl rfl), F.bindsN B⟩
end
/-- what __init__(self, name) keeps: the field f -/
def spInit (K : PySem.W.Frag) (C : Addr) (f : Str) : Sp := fun vs H Q _ => ∃ (a : Addr) (v : V), vs = [.ref a, v] ∧ H a = some (exo a C none) ∧ ∀ dx, H dx = none → dx ≠ a → Q .non (upd (upd H dx (exd dx [(f, v)])) a (exo a C (some dx)))
theorem c_ost {K : PySem.W.Frag} {f : Str} {to te : TE} {D : Ends} {σ : St} {H : Hp} (h : te σ H fun y H1 => to σ H1 fun x H2 => ∃ a C : Addr, x = .ref a ∧ OexC K C ∧ PySem.W.findIn K (.ref C) f = some none ∧
  ((H2 a = some (exo a C none) ∧ ∀ dx, H2 dx = none → dx ≠ a → D.nx σ (upd (upd H2 dx (exd dx [(f, y)])) a (exo a C (some dx)))) ∨
    ∃ (dx : Addr) (fs : List (Str × V)), H2 a = some (exo a C (some dx)) ∧ H2 dx = some (exd dx fs) ∧ fs.length ≤ 900 ∧ D.nx σ (upd H2 dx (exd dx ((f, y) :: fs))))) : tOst K f to te D σ H := h
/-- an error class x of one field f -/
structure ErrC (P : Program) (w : World) (K : PySem.W.Frag) (mg : Str → Option Value) (base : Heap) (x f : Str) : Prop where
  gl : mg x = some (.ref (He.ga K x))
  cls : OexC K (He.ga K x)
  xf : XfC K (He.ga K x)
  no : PySem.W.findIn K (.ref (He.ga K x)) f = some none
  ok : ∃ ps, MethAt P w K mg base CX0 x "__init__" 2 ps (spInit K (He.ga K x) f)
/-- x(v) is made: an error whose field f is v -/
def RaiseK (K : PySem.W.Frag) (x f : Str) (vs : List V) (H1 : Hp) (Q : XK) : Prop := vs.length ≤ 1000 ∧ ∀ a, H1 a = none → spInit K (He.ga K x) f (.ref a :: (vs ++ [])) (upd H1 a (exo a (He.ga K x) none))
  (fun v H2 => v = .non ∧ ∃ (d : Addr) (fs : List (Str × V)), H2 a = some (exo a (He.ga K x) (some d)) ∧ H2 d = some (exd d fs) ∧ H1 d = none ∧ Q (.ref (He.ga K x)) (some d) (upd (del H2 a) d (.xd fs))) (fun _ _ _ => False)
def tMkE (K : PySem.W.Frag) (x f : Str) (t : TA) : St → Hp → XK → Prop := fun σ H Q => t σ H fun vs H1 => RaiseK K x f vs H1 Q
def tRaiseE (K : PySem.W.Frag) (x f : Str) (W : WX) (t : TA) : TS := fun _ σ H => t σ H fun vs H1 => RaiseK K x f vs H1 fun cls d H' => W cls d σ H'
theorem c_err {K : PySem.W.Frag} {x f : Str} {v : V} {H1 : Hp} {Q : XK} (q : ∀ d H', New H1 d (.xd [(f, v)]) H' → Q (.ref (He.ga K x)) (some d) H') : RaiseK K x f [v] H1 Q := by
  refine ⟨by simp, fun a ha => ⟨a, v, rfl, upd_same, fun dx hdx hne => ⟨rfl, dx, [(f, v)], upd_same, ?_, ?_, ?_⟩⟩⟩
  · rw [upd_ne hne, upd_same]
  · rw [upd_ne hne] at hdx
    exact hdx
  · have hd1 : H1 dx = none := by rw [upd_ne hne] at hdx; exact hdx
    have e : upd (del (upd (upd (upd H1 a (exo a (He.ga K x) none)) dx (exd dx [(f, v)])) a (exo a (He.ga K x) (some dx))) a) dx (.xd [(f, v)]) = upd H1 dx (.xd [(f, v)]) := by
      funext b
      by_cases h1 : b = dx
      · rw [h1, upd_same, upd_same]
      · rw [upd_ne h1, upd_ne h1]
        by_cases h2 : b = a
        · rw [h2, del_same, ha]
        · rw [del_ne h2, upd_ne h2, upd_ne h1, upd_ne h2]
    rw [e]
    exact q dx _ ⟨hd1, rfl⟩
theorem c_raiseE {K : PySem.W.Frag} {x f : Str} {W : WX} {t : TA} {D : Ends} {σ : St} {H : Hp} (h : t σ H fun vs H1 => RaiseK K x f vs H1 fun cls d H' => W cls d σ H') : tRaiseE K x f W t D σ H := h
section
variable {X : Cx} {x f : Str} {k : Nat} {W : WX} {p pos pos2 : Pos} {e : Expr} {es : List Expr} {t : TA}
theorem pmk_err {K : PySem.W.Frag} (T : ErrC X.prog X.w X.K X.mg X.base x f) (hr : Room k X.A) (ha : PA X (e :: es) t) (hk : 3 ≤ k := by decide) (hK : X.K = K := by rfl) (hg : Gl X x := by rfl)
    (hdb : (x == ("__debug__" : Str)) = false := by decide) (he : starEach (e :: es) X.env = (false, eval e X.env) :: starEach es X.env := by rfl) (hpl : (backTo pos (starEach es X.env)).any (·.1) = false := by rfl) :
    PMk X (.Call (.Name x p) (e :: es) [] pos) (tMkE K x f t) := by
  subst hK
  obtain ⟨ps, M⟩ := T.ok
  obtain ⟨fd, F, B⟩ := M.ok
  have fnT : PySem.W.typeIn X.K (.ref (He.ma X.K (He.ga X.K x) "__init__")) = some (.type "function") := eq_of_beq M.me.fn
  exact pmk_oex (p := p) T.cls M.me.at_ fnT F (hr.mono hk) B .nil (fun _ _ _ _ _ _ _ h => h.elim) hg T.gl ha hdb he hpl
theorem ps_raiseE {K : PySem.W.Frag} (T : ErrC X.prog X.w X.K X.mg X.base x f) (hr : Room k X.A) (tk : Takes X W) (ha : PA X (e :: es) t) (hk : 3 ≤ k := by decide) (hK : X.K = K := by rfl) (hg : Gl X x := by rfl) (hc : X.calm = true := by rfl)
    (hdb : (x == ("__debug__" : Str)) = false := by decide) (he : starEach (e :: es) X.env = (false, eval e X.env) :: starEach es X.env := by rfl) (hpl : (backTo pos (starEach es X.env)).any (·.1) = false := by rfl) :
    PS X (.Raise (some (.Call (.Name x p) (e :: es) [] pos)) none pos2) (tRaiseE K x f W t) := ps_raise hc tk (pmk_err T hr ha hk hK hg hdb he hpl)
end
/-! ## try .. except x as n -/
section
variable {K : PySem.W.Frag} {i : Nat} {ts : Addr → Value → Option Addr → TS} {Wout : WX} {D : Ends} {σ : St} {H : Hp} {cls : Value} {d : Option Addr} {c : Value}
theorem c_caught (he : PySem.W.exmOne K cls c = some true) (h : ∀ a, H a = none → ts a cls d { nx := fun σ' H' => D.nx (σ'.set i none) H', rt := D.rt, bk := fun σ' H' => D.bk (σ'.set i none) H', ct := fun σ' H' => D.ct (σ'.set i none) H' } (σ.set i (some (.ref a))) H) :
    wAs K c i ts Wout D cls d σ H := ⟨true, he, fun _ => h, fun z => by cases z⟩
theorem c_xf {a C : Addr} {f : Str} {te : TE} {Q : VK} (h : te σ H fun x H1 => x = .ref a ∧ cls = .ref C ∧ ∃ (dd : Addr) (fs : List (Str × V)) (v : V), d = some dd ∧ H1 dd = some (.xd fs) ∧ fs.lookup f = some v ∧ Q v H1) : tXf a cls d C f te σ H Q := h
end
/-! ## isinstance -/
section
variable {K : PySem.W.Frag} {H : Hp} {Q : VK} {a : Addr} {xs : List V} {T : String}
theorem cr_isi {X : Cx} (hK : X.K = K := by rfl) : CallR X (.builtin "isinstance") (rIsi K) := hK ▸ call_isi
theorem c_isiL {b : Bool} (h : H a = some (.lst xs)) (hk : kitB "list" T = some b) (q : Q (.bl b) H) : rIsi K [.ref a, .ty T] H Q := ⟨_, _, _, _, b, rfl, .ty T, .base (.lst h), kit_ty hk, q⟩
theorem c_isiT {b : Bool} (h : H a = some (.tup xs)) (hk : kitB "tuple" T = some b) (q : Q (.bl b) H) : rIsi K [.ref a, .ty T] H Q := ⟨_, _, _, _, b, rfl, .ty T, .base (.tup h), kit_ty hk, q⟩
theorem c_isiN {b : Bool} (hk : kitB "NoneType" T = some b) (q : Q (.bl b) H) : rIsi K [.non, .ty T] H Q := ⟨_, _, _, _, b, rfl, .ty T, .base .non, kit_ty hk, q⟩
theorem c_isiS {s : Str} {b : Bool} (hk : kitB "str" T = some b) (q : Q (.bl b) H) : rIsi K [.str s, .ty T] H Q := ⟨_, _, _, _, b, rfl, .ty T, .base (.str s), kit_ty hk, q⟩
end
end Sa

/-! Comprehensions over any walk. -/
namespace Sa
open PySem L2
/-- a walk of n turns: while ok, its turn i gives x, by Y -/
structure Itn (J : It) (n : Nat) (ok : Hp → Prop) (Y : Nat → V → Hp → Hp → Prop) : Prop where
  go : ∀ i H, ok H → i < n → J.go i H
  stop : ∀ i H, ok H → n ≤ i → J.stop i H
  yld : ∀ i H x H', ok H → i < n → J.yld i H x H' → Y i x H H'
  kp : ∀ i x H H', Y i x H H' → Kp [] H H'
section
variable {K : PySem.W.Frag} {a : Addr} {α : Type} {ys : List α} {u : α → V} {lo c : Int} {n : Nat} {z : Str}
theorem itn_l : Itn (Itl K a) ys.length (fun H => SqL K H a (ys.map u)) (fun i x H H' => H' = H ∧ ∃ y, ys[i]? = some y ∧ x = u y) where
  go := fun i H ok hi => ⟨_, u (ys[i]), ok, by rw [List.getElem?_map, List.getElem?_eq_getElem hi]; rfl⟩
  stop := fun i H ok hi => ⟨_, ok, by rw [List.length_map]; exact hi⟩
  yld := fun i H x H' ok hi y => by
    obtain ⟨e, h⟩ := y
    have := h _ ok
    rw [List.getElem?_map] at this
    obtain ⟨y, h1, h2⟩ := Option.map_eq_some_iff.mp this
    exact ⟨e, y, h1, h2.symm⟩
  kp := fun i x H H' h => by rw [h.1]; exact Kp.refl
theorem itn_t : Itn (Itt K a) ys.length (fun H => SqT K H a (ys.map u)) (fun i x H H' => H' = H ∧ ∃ y, ys[i]? = some y ∧ x = u y) where
  go := fun i H ok hi => ⟨_, u (ys[i]), ok, by rw [List.getElem?_map, List.getElem?_eq_getElem hi]; rfl⟩
  stop := fun i H ok hi => ⟨_, ok, by rw [List.length_map]; exact hi⟩
  yld := fun i H x H' ok hi y => by
    obtain ⟨e, h⟩ := y
    have := h _ ok
    rw [List.getElem?_map] at this
    obtain ⟨y, h1, h2⟩ := Option.map_eq_some_iff.mp this
    exact ⟨e, y, h1, h2.symm⟩
  kp := fun i x H H' h => by rw [h.1]; exact Kp.refl
theorem itn_r : Itn (Itr lo n) n (fun _ => True) (fun i x H H' => H' = H ∧ x = .int (lo + (i : Nat))) where
  go := fun i H _ hi => hi
  stop := fun i H _ hi => hi
  yld := fun i H x H' _ hi y => y
  kp := fun i x H H' h => by rw [h.1]; exact Kp.refl
theorem itn_c : Itn (Itc lo c n) n (fun _ => True) (fun i x H H' => H' = H ∧ x = .int (lo + (i : Nat) * c)) where
  go := fun i H _ hi => hi
  stop := fun i H _ hi => hi
  yld := fun i H x H' _ hi y => y
  kp := fun i x H H' h => by rw [h.1]; exact Kp.refl
theorem itn_s : Itn (Its z) z.cps.toList.length (fun _ => True) (fun i x H H' => H' = H ∧ ∃ c, z.cps.toList[i]? = some c ∧ x = .str ⟨#[c]⟩) where
  go := fun i H _ hi => by rw [Array.length_toList] at hi; exact hi
  stop := fun i H _ hi => by rw [Array.length_toList] at hi; exact hi
  yld := fun i H x H' _ hi y => by
    obtain ⟨e, c, hc, h⟩ := y
    exact ⟨e, c, by rw [Array.getElem?_toList]; exact hc, h⟩
  kp := fun i x H H' h => by rw [h.1]; exact Kp.refl
theorem itn_e : Itn (Ite K a) ys.length (fun H => SqL K H a (ys.map u)) (fun i x H H' => ∃ T y, x = .ref T ∧ New H T (.tup [.int (i : Nat), u y]) H' ∧ ys[i]? = some y) where
  go := fun i H ok hi => ⟨_, u (ys[i]), ok, by rw [List.getElem?_map, List.getElem?_eq_getElem hi]; rfl⟩
  stop := fun i H ok hi => ⟨_, ok, by rw [List.length_map]; exact hi⟩
  yld := fun i H x H' ok hi y => by
    obtain ⟨T, x', h1, h2, h3, h4⟩ := y
    have := h4 _ ok
    rw [List.getElem?_map] at this
    obtain ⟨y, e1, e2⟩ := Option.map_eq_some_iff.mp this
    subst e2
    exact ⟨T, y, h1, ⟨h2, h3⟩, e1⟩
  kp := fun i x H H' h => by
    obtain ⟨T, y, _, N, _⟩ := h
    exact N.kp
end
section
variable {K : PySem.W.Frag} {σ : St} {H : Hp} {g : TG} {tt : TT} {te : TE} {tb : TS} {Dn : Ends} {n : Nat} {Q : VK} {vs : List Nat} {J : It} {ok : Hp → Prop} {Y : Nat → V → Hp → Hp → Prop}
theorem lcQ (I : Itn J n ok Y) (Pv : Addr → Nat → List V → Hp → Prop) (h0 : ∀ Dl, H Dl = none → Pv Dl 0 [] (upd H Dl (.lst []))) (hok : ∀ Dl i acc H', H Dl = none → Pv Dl i acc H' → ok H')
    (hs : ∀ Dl i x acc H' H'', H Dl = none → i < n → H' Dl = some (.lst acc) → acc.length ≤ i → Pv Dl i acc H' → Y i x H' H'' → LcT g tt te vs σ Pv Dl i x H'')
    (hd : ∀ Dl acc H', H Dl = none → H' Dl = some (.lst acc) → acc.length ≤ n → Pv Dl n acc H' → Q (.ref Dl) H') : LcJ J g tt te vs σ H Q := by
  intro Dl hD
  refine ⟨fun i m H' => m = n - i ∧ i ≤ n ∧ LcN Pv Dl i H', ⟨_, rfl, Nat.zero_le _, [], upd_same, Nat.zero_le _, h0 Dl hD⟩, ?_⟩
  rintro i m H1 ⟨rfl, hi, acc, h1, h2, h3⟩
  have o := hok Dl i acc H1 hD h3
  by_cases hlt : i < n
  · exact .inr ⟨I.go i H1 o hlt, LcN Pv Dl (i + 1), fun H' p' => ⟨_, by omega, rfl, hlt, p'⟩, fun x H' y => hs Dl i x acc H1 H' hD hlt h1 h2 h3 (I.yld i H1 x H' o hlt y)⟩
  · have e : i = n := by omega
    subst e
    exact .inl ⟨I.stop i H1 o (Nat.le_refl _), hd Dl acc H1 hD h1 h2 h3⟩
theorem forQ (I : Itn J n ok Y) (Pv : Nat → St → Hp → Prop) (h0 : Pv 0 σ H) (hok : ∀ i σ H', Pv i σ H' → ok H')
    (hs : ∀ i x σ H' H'', i < n → Pv i σ H' → Y i x H' H'' → g x σ H'' fun σ2 H2 => tb { Dn with nx := Pv (i + 1), ct := Pv (i + 1), bk := Dn.nx } σ2 H2) (hd : ∀ σ H', Pv n σ H' → Dn.nx σ H') : ForJ J g tb Dn σ H := by
  refine ⟨fun i m σ H => m = n - i ∧ i ≤ n ∧ Pv i σ H, ⟨_, rfl, Nat.zero_le _, h0⟩, ?_⟩
  rintro i m σ H ⟨rfl, hi, p⟩
  have o := hok i σ H p
  by_cases hlt : i < n
  · exact .inr ⟨I.go i H o hlt, Pv (i + 1), fun σ' H' p' => ⟨_, by omega, rfl, hlt, p'⟩, fun x H' y => hs i x σ H H' hlt p (I.yld i H x H' o hlt y)⟩
  · have e : i = n := by omega
    subst e
    exact .inl ⟨I.stop i H o (Nat.le_refl _), hd σ H p⟩
/-- each turn makes a value that is told by the turn's number -/
theorem lcQ_map (I : Itn J n ok Y) (f : Nat → V) (hz : n ≤ 16777216) (hok : ∀ H', Kp [] H H' → ok H')
    (hs : ∀ i x H' H'' R S, i < n → Kp [] H H' → Y i x H' H'' → (∀ H4, Kp [] H'' H4 → R (f i) H4) → LcM g tt te vs σ R S x H'')
    (hd : ∀ Dl H', H Dl = none → Kp [] H H' → H' Dl = some (.lst ((List.range n).map f)) → Q (.ref Dl) H') : LcJ J g tt te vs σ H Q := by
  refine lcQ I (fun Dl i acc H' => Kp [] H H' ∧ acc = (List.range i).map f) (fun Dl hD => ⟨Kp.new hD, rfl⟩) (fun Dl i acc H' hD e => hok H' e.1) ?_ ?_
  · rintro Dl i x acc H' H'' hD hi hacc hl ⟨e, rfl⟩ y
    have k := I.kp i x H' H'' y
    refine hs i x H' H'' _ _ hi e y fun H4 e4 => ?_
    exact lc_push (e4.at0 (k.at0 hacc)) hl (by omega) ⟨((e.trans k).trans e4).fresh_mut hD, by rw [List.range_succ, List.map_append]; rfl⟩
  · rintro Dl acc H' hD hacc hl ⟨e, rfl⟩
    exact hd Dl H' hD e hacc
/-- each turn makes a new object -/
theorem lcQ_new (I : Itn J n ok Y) (ob : Nat → HO) (hz : n ≤ 16777216) (hok : ∀ H', Kp [] H H' → ok H')
    (hs : ∀ i x H' H'' R S, i < n → Kp [] H H' → Y i x H' H'' → (∀ q H4, H'' q = none → Kp [] H'' H4 → H4 q = some (ob i) → R (.ref q) H4) → LcM g tt te vs σ R S x H'')
    (hd : ∀ Dl (qs : List Addr) H', H Dl = none → Kp [] H H' → H' Dl = some (.lst (qs.map V.ref)) → qs.length = n → (∀ k q, qs[k]? = some q → H q = none ∧ H' q = some (ob k)) → Q (.ref Dl) H') : LcJ J g tt te vs σ H Q := by
  refine lcQ I (fun Dl i acc H' => Kp [] H H' ∧ ∃ qs : List Addr, acc = qs.map V.ref ∧ qs.length = i ∧ ∀ k q, qs[k]? = some q → H q = none ∧ q ≠ Dl ∧ H' q = some (ob k)) (fun Dl hD => ⟨Kp.new hD, [], rfl, rfl, fun k q h => by simp at h⟩) (fun Dl i acc H' hD e => hok H' e.1) ?_ ?_
  · rintro Dl i x acc H' H'' hD hi hacc hl ⟨e, qs, rfl, hq, hqs⟩ y
    have k := I.kp i x H' H'' y
    refine hs i x H' H'' _ _ hi e y fun q H4 hn e4 h4 => ?_
    have nq : q ≠ Dl := (ne_of_none (k.at0 hacc) hn).symm
    refine lc_push (e4.at0 (k.at0 hacc)) hl (by omega) ⟨((e.trans k).trans e4).fresh_mut hD, qs ++ [q], by rw [List.map_append]; rfl, by rw [List.length_append, hq]; rfl, fun j w hw => ?_⟩
    by_cases hj : j < qs.length
    · rw [List.getElem?_append_left hj] at hw
      obtain ⟨a1, a2, a3⟩ := hqs j w hw
      exact ⟨a1, a2, upd_other a2 (e4.at0 (k.at0 a3))⟩
    · rw [List.getElem?_append_right (by omega)] at hw
      have hj2 : j - qs.length = 0 := by
        cases h : j - qs.length with
        | zero => rfl
        | succ m => rw [h] at hw; simp at hw
      rw [hj2] at hw
      simp only [List.getElem?_cons_zero, Option.some.injEq] at hw
      subst hw
      have ej : j = i := by omega
      subst ej
      exact ⟨free0 (e.trans k) hn, nq, upd_other nq h4⟩
  · rintro Dl acc H' hD hacc hl ⟨e, qs, rfl, hq, hqs⟩
    exact hd Dl qs H' hD e hacc hq fun k q h => ⟨(hqs k q h).1, (hqs k q h).2.2⟩
end
/-! ## range with a step; enumerate -/
section
variable {K : PySem.W.Frag} {σ : St} {H : Hp} {g : TG} {tt : TT} {te : TE} {tb : TS} {ta : TA} {D : Ends} {n : Nat} {Q : VK} {vs : List Nat} {R : It → Hp → Prop} {a : Addr} {xs : List V}
theorem rgC_up {len : Nat} {c : Int} (h0 : 0 < c) (h1 : c < 1000000) (h2 : len < 1000000000) : RgC 0 len c (((len : Int) + c - 1) / c).toNat := by
  have e : Builtin.Range.rangeSize 0 len c = ((len : Int) + c - 1) / c := by
    unfold Builtin.Range.rangeSize
    rw [if_pos h0]
    by_cases hl : (0 : Int) < len
    · rw [if_pos hl]
      have e2 : (len : Int) + c - 1 = (len - 0 - 1) + c * 1 := by omega
      rw [e2, Int.add_mul_ediv_left _ _ (by omega)]
    · rw [if_neg hl]
      exact (Int.ediv_eq_zero_of_lt (by omega) (by omega)).symm
  have hq0 : 0 ≤ ((len : Int) + c - 1) / c := Int.ediv_nonneg (by omega) (by omega)
  have hq1 : ((len : Int) + c - 1) / c ≤ (len : Int) + c - 1 := Int.ediv_le_self _ (by omega)
  refine ⟨by omega, by omega, ?_, by rw [e]; omega⟩
  unfold Builtin.Range.small
  rw [e]
  simp only [Builtin.Range.rangeFitsLong, Bool.and_eq_true, Bool.or_eq_true, decide_eq_true_eq, beq_iff_eq, if_pos h0]
  omega
theorem c_rng3 (h : ta σ H fun vs H1 => ∃ (i j c : Int) (n : Nat), vs = [.int i, .int j, .int c] ∧ RgC i j c n ∧ R (Itc i c n) H1) : iRng3 ta σ H R := h
theorem c_r3C {σ : St} {len : Nat} {c : Int} (h0 : 0 < c) (h1 : c < 1000000) (h2 : len < 1000000000) (h : LcJ (Itc 0 c (((len : Int) + c - 1) / c).toNat) g tt te vs σ H Q) :
    ∃ (i j c' : Int) (n : Nat), [V.int 0, V.int len, V.int c] = [.int i, .int j, .int c'] ∧ RgC i j c' n ∧ LcJ (Itc i c' n) g tt te vs σ H Q := ⟨0, len, c, _, rfl, rgC_up h0 h1 h2, h⟩
theorem c_r3F {σ : St} {len : Nat} {c : Int} (h0 : 0 < c) (h1 : c < 1000000) (h2 : len < 1000000000) (h : ForJ (Itc 0 c (((len : Int) + c - 1) / c).toNat) g tb D σ H) :
    ∃ (i j c' : Int) (n : Nat), [V.int 0, V.int len, V.int c] = [.int i, .int j, .int c'] ∧ RgC i j c' n ∧ ForJ (Itc i c' n) g tb D σ H := ⟨0, len, c, _, rfl, rgC_up h0 h1 h2, h⟩
theorem c_enum (h : ta σ H fun vs H1 => ∃ a xs, vs = [.ref a] ∧ SqL K H1 a xs ∧ R (Ite K a) H1) : iEnum K ta σ H R := h
theorem pi_enumU {X : Cx} {e : Expr} {p pos tpos : Pos} {elts : List Expr} {kk : Nat} (hg : Gl X "enumerate") (hm : X.mg "enumerate" = none) (ha : PA X [e] ta) (hK : X.K = K := by rfl) (hs : starEach [e] X.env = [(false, eval e X.env)] := by rfl) :
    PI X (.Tuple elts kk tpos) (.Call (.Name "enumerate" p) [e] [] pos) (iEnum K ta) := hK ▸ pi_enum hg hm ha hs
end
theorem bitAnd_255 {x : Int} (h : 0 ≤ x) : Builtin.bitAnd x 255 = x % 256 := PyProof.Rows.bitAnd_m8 x
end Sa

/-! Classes: fields, methods, new instances. -/
namespace Sa
open PySem L2
/-! ## fields -/
/-- x.f is v -/
def FldK (K : PySem.W.Frag) (f : Str) (x : V) (H : Hp) (Q : VK) : Prop := ∃ a C dx fs v, x = .ref a ∧ H a = some (.ins C dx fs) ∧ Cls K C ∧ NoAttr K C f ∧ fs.lookup f = some v ∧ Q v H
def tFldU (K : PySem.W.Frag) (ta : TE) (f : Str) : TE := fun σ H Q => ta σ H fun x H1 => FldK K f x H1 Q
/-- x.f = y -/
def SetFldK (K : PySem.W.Frag) (f : Str) (x y : V) (H : Hp) (R : Hp → Prop) : Prop := ∃ a C dx fs, x = .ref a ∧ H a = some (.ins C dx fs) ∧ Cls K C ∧ NoAttr K C f ∧ fs.length < 1000 ∧ R (upd H a (.ins C dx (putF f y fs)))
def sFldU (K : PySem.W.Frag) (ta tv : TE) (f : Str) : TS := fun D σ H => tv σ H fun y H1 => ta σ H1 fun x H2 => SetFldK K f x y H2 fun H3 => D.nx σ H3
section
variable {X : Cx} {K : PySem.W.Frag} {σ : St} {H : Hp} {Q : VK} {D : Ends} {o e value : Expr} {ta tv : TE} {f : Str} {pos pos' : Pos} {a C dx : Addr} {fs : List (Str × V)} {v : V} {R : Hp → Prop}
theorem pe_fldU (he : PE X e ta) (hK : X.K = K := by rfl) (hb : attributeBase e f X.env (eval e X.env) = eval e X.env := by rfl) : PE X (.Attribute e f pos) (tFldU K ta f) := by
  subst hK
  exact pe_fld he hb
theorem ps_fldU (ha : PE X o ta) (hv : PE X value tv) (hK : X.K = K := by rfl) (hs : swapsWith value (some (.Attribute o f pos')) pos.line X.env = pure false := by rfl) : PS X (.Assign [.Attribute o f pos'] value pos) (sFldU K ta tv f) := by
  subst hK
  exact ps_fld ha hv hs
theorem c_fld (h : ta σ H fun x H1 => FldK K f x H1 Q) : tFldU K ta f σ H Q := h
theorem c_fldAt (h : H a = some (.ins C dx fs)) (c : Cls K C) (n : NoAttr K C f) (l : fs.lookup f = some v) (q : Q v H) : FldK K f (.ref a) H Q := ⟨a, C, dx, fs, v, rfl, h, c, n, l, q⟩
theorem c_setF (h : tv σ H fun y H1 => ta σ H1 fun x H2 => SetFldK K f x y H2 fun H3 => D.nx σ H3) : sFldU K ta tv f D σ H := h
theorem c_setFAt (h : H a = some (.ins C dx fs)) (c : Cls K C) (n : NoAttr K C f) (l : fs.length < 1000) (q : R (upd H a (.ins C dx (putF f v fs)))) : SetFldK K f (.ref a) v H R := ⟨a, C, dx, fs, rfl, h, c, n, l, q⟩
end
/-! ## methods -/
/-- a class of the program whose instances are plain -/
structure ClsAt (K : PySem.W.Frag) (mg : Str → Option Value) (x : Str) : Prop where
  gl : mg x = some (.ref (He.ga K x))
  cls : Cls K (He.ga K x)
/-- the receiver of a method: an instance of the class -/
def RecvK (K : PySem.W.Frag) (C m : Str) (x : V) (H : Hp) (R : Hp → Prop) : Prop := ∃ a dx fs, x = .ref a ∧ H a = some (.ins (He.ga K C) dx fs) ∧ fs.lookup m = none ∧ R H
def tMethA (K : PySem.W.Frag) (C m : Str) (sp : Sp) (E : St → XK) (ta : TE) (t : TA) : TE := fun σ H Q => ta σ H fun x H1 => RecvK K C m x H1 fun H2 => t σ H2 fun vs H3 => sp (x :: vs) H3 Q (E σ)
section
variable {X : Cx} {CX : CXT} {K : PySem.W.Frag} {C m : Str} {k j : Nat} {ps : List Str} {sp : Sp} {E : St → XK} {W : WX} {apos pos : Pos} {o e : Expr} {es : List Expr} {ta : TE} {t : TA} {pl : Sem Bool}
theorem pe_methS1 (M : MethAt X.prog X.w X.K X.mg X.base CX C m j ps sp) (c : ClsAt X.K X.mg C) (hr : Room k X.A) (hx : ∀ σ, PassesAt CX X σ (E σ)) (ho : PE X o ta) (ha : PA X (e :: es) t) (hjk : j ≤ k := by decide) (hK : X.K = K := by rfl)
    (hst : starEach (e :: es) X.env = (false, eval e X.env) :: starEach es X.env := by rfl) (hpl : (backTo pos (starEach es X.env)).any (·.1) = false := by rfl)
    (ht : eval (.Call (.Attribute o m apos) (e :: es) [] pos) X.env = (do
      let ov ← eval o X.env
      standAt apos.atName
      let (f, first) ← holding [ov] (getMethod ov m pl)
      callWith pos f first (backTo pos (starEach (e :: es) X.env)) (backToKw pos (keywordEach [] X.env))) := by rfl) :
    PE X (.Call (.Attribute o m apos) (e :: es) [] pos) (tMethA K C m sp E ta t) := by
  subst hK
  obtain ⟨fd, F, B⟩ := M.ok
  refine ⟨fun pins s σ H Q I h => ?_⟩
  refine PySem.W.methodCall_KW (pl := pl) (thn (ho.run pins s σ H _ I h) fun u s1 ⟨x, H1, I1, rx, a, dx, fs, ex, ea, l, q⟩ => ?_) ht
  subst ex
  obtain rfl : u = Value.ref a := rx
  refine getmeth_ok I1 ea c.cls M.me l (PySem.W.callWith_K (first := [.ref a]) (h₀ := X.base) I.ok.mod.kin M.me.kp (thn (ha.run pos pins s1 σ H1 _ I1 q) fun us s2 ⟨vs, H2, I2, r, q2⟩ => ⟨I2.kIn, ?_⟩) hst hpl)
  exact run_fnS (us := .ref a :: us) (vs := .ref a :: vs) (F.mono hjk) hr B (hx σ) I2 (.cons rfl r) q2
theorem pe_methS0 (M : MethAt X.prog X.w X.K X.mg X.base CX C m j ps sp) (c : ClsAt X.K X.mg C) (hr : Room k X.A) (hx : ∀ σ, PassesAt CX X σ (E σ)) (ho : PE X o ta) (hjk : j ≤ k := by decide) (hK : X.K = K := by rfl)
    (ht : eval (.Call (.Attribute o m apos) [] [] pos) X.env = (do
      let ov ← eval o X.env
      standAt apos.atName
      let (f, first) ← holding [ov] (getMethod ov m pl)
      callWith pos f first (backTo pos (starEach [] X.env)) (backToKw pos (keywordEach [] X.env))) := by rfl) :
    PE X (.Call (.Attribute o m apos) [] [] pos) (tMethA K C m sp E ta tNil) := by
  subst hK
  obtain ⟨fd, F, B⟩ := M.ok
  refine ⟨fun pins s σ H Q I h => ?_⟩
  refine PySem.W.methodCall_KW (pl := pl) (thn (ho.run pins s σ H _ I h) fun u s1 ⟨x, H1, I1, rx, a, dx, fs, ex, ea, l, q⟩ => ?_) ht
  subst ex
  obtain rfl : u = Value.ref a := rx
  exact getmeth_ok I1 ea c.cls M.me l (PySem.W.callWith_K0 (first := [.ref a]) I1.kIn M.me.kp (run_fnS (us := [.ref a]) (vs := [.ref a]) (F.mono hjk) hr B (hx σ) I1 (.cons rfl .nil) q))
end
/-- where nothing is let out -/
theorem at0 {X : Cx} : ∀ σ : St, PassesAt CX0 X σ E0 := fun _ _ _ _ _ _ _ h => h.elim
theorem atE {X : Cx} : ∀ σ : St, PassesAt (L2.CX X.prog X.w) X σ E0 := fun σ pins H s e s' I h => by
  obtain ⟨_, _, _, _, _, _, _, _, _, _, _, _, z⟩ := h
  exact z.elim
theorem atW {X : Cx} {W : WX} (tk : Takes X W) : ∀ σ : St, PassesAt (L2.CX X.prog X.w) X σ (WE W σ) := fun σ => passAt tk σ
section
variable {K : PySem.W.Frag} {C m : Str} {σ : St} {H : Hp} {Q : VK} {sp : Sp} {E : St → XK} {ta : TE} {t : TA} {a dx : Addr} {fs : List (Str × V)} {R : Hp → Prop}
theorem c_meth (h : ta σ H fun x H1 => RecvK K C m x H1 fun H2 => t σ H2 fun vs H3 => sp (x :: vs) H3 Q (E σ)) : tMethA K C m sp E ta t σ H Q := h
theorem c_recv (h : H a = some (.ins (He.ga K C) dx fs)) (l : fs.lookup m = none) (q : R H) : RecvK K C m (.ref a) H R := ⟨a, dx, fs, rfl, h, l, q⟩
end
/-! ## new instances -/
def NewK (K : PySem.W.Frag) (C : Str) (sp : Sp) (vs : List V) (H1 : Hp) (Q : VK) (E : XK) : Prop := ∀ x dx, H1 x = none → H1 dx = none → dx ≠ x →
  sp (.ref x :: vs) (upd (upd H1 dx (.own x)) x (.ins (He.ga K C) dx [])) (fun v H2 => v = .non ∧ Q (.ref x) H2) E
def tNewA (K : PySem.W.Frag) (C : Str) (sp : Sp) (E : St → XK) (t : TA) : TE := fun σ H Q => t σ H fun vs H1 => NewK K C sp vs H1 Q (E σ)
theorem c_newA {K : PySem.W.Frag} {C : Str} {sp : Sp} {E : St → XK} {t : TA} {σ : St} {H : Hp} {Q : VK} (h : t σ H fun vs H1 => NewK K C sp vs H1 Q (E σ)) : tNewA K C sp E t σ H Q := h
section
variable {X : Cx} {CX : CXT} {K : PySem.W.Frag} {C : Str} {k j : Nat} {ps : List Str} {sp : Sp} {E : St → XK} {p pos : Pos} {e : Expr} {es : List Expr} {t : TA}
theorem pe_newS (M : MethAt X.prog X.w X.K X.mg X.base CX C "__init__" j ps sp) (mk : Mk X.K (He.ga X.K C) (He.ma X.K (He.ga X.K C) "__init__")) (c : ClsAt X.K X.mg C) (hr : Room (k + 1) X.A) (hx : ∀ σ, PassesAt CX X σ (E σ)) (ha : PA X (e :: es) t)
    (hjk : j ≤ k := by decide) (hK : X.K = K := by rfl) (hg : Gl X C := by rfl)
    (hdb : (C == ("__debug__" : Str)) = false := by decide) (he : starEach (e :: es) X.env = (false, eval e X.env) :: starEach es X.env := by rfl) (hpl : (backTo pos (starEach es X.env)).any (·.1) = false := by rfl) :
    PE X (.Call (.Name C p) (e :: es) [] pos) (tNewA K C sp E t) := by
  subst hK
  obtain ⟨fd, F0, B⟩ := M.ok
  have F := F0.mono hjk
  refine ⟨fun pins s σ H Q I h => ?_⟩
  refine wpAny_Call_Name_kw (ld_glob I hg c.gl ?_ hdb)
  refine PySem.W.callWith_K (h₀ := X.base) I.ok.mod.kin mk.kp (thn (ha.run pos pins s σ H _ I h) fun us s1 ⟨vs, H1, I1, r, q⟩ => ⟨I1.kIn, ?_⟩) he hpl
  have hq := q (s1.heap.objs.size + 1) s1.heap.objs.size (I1.hok.fresh (Nat.le_succ _)) (I1.hok.fresh (Nat.le_refl _)) (Nat.ne_of_lt (Nat.lt_succ_self _))
  have I2 := Inv.made (C := He.ga X.K C) I1
  have r2 : Vals (V.ref (s1.heap.objs.size + 1) :: vs) (Value.ref (s1.heap.objs.size + 1) :: us) := .cons rfl r
  have hl : ((Value.ref (s1.heap.objs.size + 1) :: us) ++ []).length = ps.length := by
    rw [List.append_nil, ← r2.length]
    exact F.len _ _ _ _ hq
  have b := B _ (Value.ref (s1.heap.objs.size + 1) :: us) I2.kIn hl
  rw [List.append_nil] at b
  refine wpAny_call (make_map (f := He.ma X.K (He.ga X.K C) "__init__") I1.kIn mk.makes mk.init (beq_iff_eq.mp mk.fn) (codeAny_mono (F.run _ X.stack _ _ ⟨Value.ref (s1.heap.objs.size + 1) :: us, []⟩ (Value.ref (s1.heap.objs.size + 1) :: us) _ _ (E σ)
    (hr.make (He.ga X.K C) us []) (I2.env0.make (He.ga X.K C) us []) b r2 hq) fun rr s' hq' => ?_))
  cases rr with
  | error er => exact hx σ pins _ _ er s' I2 hq'
  | ok fl =>
    cases fl with
    | ret u =>
      obtain ⟨v, H', I3, rv, ev, q3⟩ := I2.after hq'
      subst ev
      exact ⟨rv, ⟨V.ref (s1.heap.objs.size + 1), H', I3, rfl, q3⟩⟩
    | next => exact False.elim hq'
    | brk => exact False.elim hq'
    | cont => exact False.elim hq'
end
end Sa

/-! try with several except clauses, with and without names. -/
namespace Sa
open PySem PySem.Spec L2
/-- one clause: the class it names, the slot of its name (if it has one), its suite's reading -/
structure Cl where
  c : Value
  i : Option Nat
  ts : Addr → Value → Option Addr → TS
def setO : Option Nat → St → Option V → St
  | none, σ, _ => σ
  | some i, σ, v => σ.set i v
def endO (i : Option Nat) (D : Ends) : Ends := { nx := fun σ' H' => D.nx (setO i σ' none) H', rt := D.rt, bk := fun σ' H' => D.bk (setO i σ' none) H', ct := fun σ' H' => D.ct (setO i σ' none) H' }
/-- what the clauses wish of an error -/
def wCl (K : PySem.W.Frag) (Wout : WX) (D : Ends) : List Cl → WX
  | [] => Wout
  | q :: r => fun cls d σ H => ∃ b, PySem.W.exmOne K cls q.c = some b ∧ (b = true → ∀ a, H a = none → q.ts a cls d (endO q.i D) (setO q.i σ (some (.ref a))) H) ∧ (b = false → wCl K Wout D r cls d σ H)
inductive ClsOk (X : Cx) : List ExceptHandler → List Cl → Prop
  | nil : ClsOk X [] []
  | bare {x : Str} {c : Value} {ts : Addr → Value → Option Addr → TS} {b₀ : Stmt} {suite : List Stmt} {np pos' : Pos} {hds : List ExceptHandler} {l : List Cl} (hc : Names X x c)
      (hsu : ∀ (a : Addr) (oe : Obj) (cls : Value) (d : Option Addr) (pn : List (Addr × Obj)), Zc cls d oe → (∃ vs, oe.data = .fields vs) → PSs (X.suite a ((a, oe) :: pn)) (b₀ :: suite) (ts a cls d)) (r : ClsOk X hds l) :
      ClsOk X (.ExceptHandler (some (.Name x np)) none (b₀ :: suite) pos' :: hds) (⟨c, none, ts⟩ :: l)
  | named {x n : Str} {i : Nat} {c : Value} {ts : Addr → Value → Option Addr → TS} {b₀ : Stmt} {suite : List Stmt} {np pos' : Pos} {hds : List ExceptHandler} {l : List Cl} (hi : X.N[i]? = some n) (hln : X.env.kindOf n = some .local) (hc : Names X x c)
      (hsu : ∀ (a : Addr) (oe : Obj) (cls : Value) (d : Option Addr) (pn : List (Addr × Obj)), Zc cls d oe → (∃ vs, oe.data = .fields vs) → PSs (X.suite a ((a, oe) :: pn)) (b₀ :: suite) (ts a cls d)) (r : ClsOk X hds l) :
      ClsOk X (.ExceptHandler (some (.Name x np)) (some n) (b₀ :: suite) pos' :: hds) (⟨c, some i, ts⟩ :: l)
section
variable {X : Cx} {body : List Stmt} {h₀ : ExceptHandler} {hds : List ExceptHandler} {l : List Cl} {pos : Pos} {tb : WX → TS} {Wout : WX}
theorem ps_tryN (hs : X.stack = X.env :: X.outer) (hf : X.env.frame = some X.env.locals) (hN : X.N.Nodup) (tk : Takes X Wout)
    (hb : ∀ (W : WX) (pn : List (Addr × Obj)) (xe : Value → Shared → Prop), Takes (X.tr pn xe) W → PassesOwn (model X.prog X.w) X.A X.env xe → PSs (X.tr pn xe) body (tb W))
    (hh : ClsOk X (h₀ :: hds) l) : PS X (.Try body (h₀ :: hds) [] [] pos) (fun D σ H => tb (wCl X.K Wout D l) D σ H) := by
  constructor
  intro pins s σ H D I h
  have ok := I.ok
  have hfr : X.A.frames = some (X.env :: X.outer) := by rw [ok.frames, hs]
  refine wpAny_Try_except (wpAny_mono ((hb (wCl X.K Wout D l) (X.pn ++ pins) (fun e s₁ => wpAny (model X.prog X.w) X.A (noteFrame e X.env) (fun _ s₂ => wpAny (model X.prog X.w) X.A (setFlight e none) (fun _ s₃ =>
    wpAny (model X.prog X.w) X.A (handleBy e X.env (h₀ :: hds)) (SP X pins D) X.xe s₃) X.xe s₂) X.xe s₁) (fun u s' xx => ?_) PassesOwn.looking).run [] s σ H D (I.toTry _) h) (fun f s1 hsp => ?_) (fun e s1 he => he))
  · obtain ⟨a, B, sI, pins', σ', H', cls, d, rfl, J', nb, up, sky, na, os, ag, w⟩ := xx
    have J : Inv X pins σ' H' sI := J'.ofTry ok
    have sky' : Sky B (X.env :: X.outer) a (Zc cls d) X.env.locals s'.heap := by rw [← hs]; exact sky
    show wpAny (model X.prog X.w) X.A (noteFrame (.ref a) X.env) _ _ _
    refine Sky.land Zc.steady hfr hf sky' fun h3 fl3 up3 => ?_
    have J3 : Inv X pins σ' H' { s' with heap := h3 } := J.landed nb fl3.1 (up.trans up3) os ag
    obtain ⟨oe3, vs3, he3, hz3, hd3⟩ := fl3.there
    have nfr : a ∉ frs (X.env :: X.outer) := fun hm => by
      obtain ⟨_, o', e', hnf⟩ := fl3.2.2.1.mem hm
      rw [he3] at e'
      cases e'
      exact hnf _ hd3
    have nL : a ≠ X.env.locals := fun z => nfr (List.mem_filterMap.mpr ⟨X.env, List.mem_cons_self, by rw [hf, z]⟩)
    have nF : a ∉ X.fs := fun hm => by
      obtain ⟨e, he, q⟩ := List.mem_filterMap.mp hm
      exact nfr (List.mem_filterMap.mpr ⟨e, List.mem_cons_of_mem _ he, q⟩)
    have S3 := J3.suite he3 hd3 na nL nF
    have LT : PySem.W.Looks (model X.prog X.w) h3 (typeOf (.ref a)) cls := fun A Q E s k q => wpAny_typeOf_ref (k _ _ he3) (by rw [hz3.1]; exact q)
    have test : ∀ {x : Str} {c : Value} {np : Pos} {Q : Value → Shared → Prop} {E : Value → Shared → Prop}, Names X x c → Q c { s' with heap := h3 } → wpAny (model X.prog X.w) (X.A.mark (some (.ref a))) (eval (.Name x np) X.env) Q E { s' with heap := h3 } := by
      intro x c np Q E hc q
      obtain ⟨hg, hdbg, hm | ⟨hm, hv, hnn⟩⟩ := hc
      · exact ld_glob (X := X.suite a ((a, oe3) :: (X.pn ++ pins))) S3 hg hm q hdbg
      · exact ld_blt (X := X.suite a ((a, oe3) :: (X.pn ++ pins))) S3 hg hm hv q hnn hdbg
    suffices go : ∀ {hds' : List ExceptHandler} {l' : List Cl}, ClsOk X hds' l' → wCl X.K Wout D l' cls d σ' H' → wpAny (model X.prog X.w) X.A (handleBy (.ref a) X.env hds') (SP X pins D) X.xe { s' with heap := h3 } from go hh w
    intro hds' l' hk
    induction hk with
    | nil =>
      intro w
      refine wpAny_handleBy_nil ?_
      obtain ⟨k1, k2, k3, oe, vs, T, oT, ts', he, hz, hd, h1, hr⟩ := id fl3
      unfold PySem.passOn
      refine wpAny_bind (wpAny_field he hd h1 ?_)
      rw [if_neg (show ¬ ((Value.ref T == Value.none) = true) from by simp)]
      have fin : wpAny (model X.prog X.w) X.A (setFlight (.ref a) X.env.frame) (fun _ s4 => wpAny (model X.prog X.w) X.A (throw (.ref a) : Sem Flow) (SP X pins D) X.xe s4) X.xe { s' with heap := h3 } := by
        rw [hf]
        exact HandSPX.setFlight_upZ fl3 fun h4 hh4 up4 => wpAny_throw (tk _ _ ⟨a, B, sI, pins, σ', H', cls, d, rfl, J, nb, (up.trans up3).trans up4, .inr (.inr (by rw [hs]; exact hh4)), na, os, ag, w⟩)
      first
        | exact wpAny_bind (wpAny_pure (wpAny_bind fin))
        | exact wpAny_bind fin
    | @bare x c ts b₀ suite np pos' hds2 l2 hc hsu r ih =>
      intro w
      obtain ⟨b, hb1, hyes, hno⟩ := w
      refine wpAny_handleBy_cons (codeAny_handlers_test ?_) (by intro q; cases q)
      refine test hc ((PySem.W.exm_one (M := model X.prog X.w) (J3.kIn) LT hb1).here ?_)
      cases b with
      | true =>
        refine codeAny_handlers_suite (HandSPX.lands_againZ fl3 fun h4 fl4 up4 => ?_)
        have J4 : Inv X pins σ' H' { s' with heap := h4 } := J.landed nb fl4.1 ((up.trans up3).trans up4) os ag
        obtain ⟨oe4, vs4, he4, hz4, hd4⟩ := fl4.there
        refine wpAny_mono ((hsu a oe4 cls d (X.pn ++ pins) hz4 ⟨_, hd4⟩).run [] _ _ H' _ (J4.suite he4 hd4 na nL nF) (hyes rfl a na)) (fun f s6 hsp => ?_) (fun _ _ z => False.elim z)
        cases f with
        | next => obtain ⟨σ6, H6, S6, q6⟩ := hsp; exact ⟨_, _, S6.unsuite ok, q6⟩
        | brk => obtain ⟨σ6, H6, S6, q6⟩ := hsp; exact ⟨_, _, S6.unsuite ok, q6⟩
        | cont => obtain ⟨σ6, H6, S6, q6⟩ := hsp; exact ⟨_, _, S6.unsuite ok, q6⟩
        | ret u => obtain ⟨v6, σ6, H6, S6, r6, q6⟩ := hsp; exact ⟨_, _, _, S6.unsuite ok, r6, q6⟩
      | false =>
        show wpAny _ X.A (handleBy (.ref a) X.env hds2) _ _ _
        exact ih (hno rfl)
    | @named x n i c ts b₀ suite np pos' hds2 l2 hi hln hc hsu r ih =>
      intro w
      obtain ⟨b, hb1, hyes, hno⟩ := w
      refine wpAny_handleBy_cons (codeAny_handlers_test ?_) (by intro q; cases q)
      refine test hc ((PySem.W.exm_one (M := model X.prog X.w) (J3.kIn) LT hb1).here ?_)
      cases b with
      | true =>
        refine codeAny_handlers_suite_as (HandSPX.lands_againZ fl3 fun h4 fl4 up4 => ?_)
        have J4 : Inv X pins σ' H' { s' with heap := h4 } := J.landed nb fl4.1 ((up.trans up3).trans up4) os ag
        obtain ⟨oe4, vs4, he4, hz4, hd4⟩ := fl4.there
        have S4 := J4.suite he4 hd4 na nL nF
        refine store_ok (X := X.suite a ((a, oe4) :: (X.pn ++ pins))) (v := .ref a) S4 hN hi (show Loc X.env.scope n from .inl hln) rfl (fun s5 S5 => ?_) (.inr hln)
        refine wpAny_mono ((hsu a oe4 cls d (X.pn ++ pins) hz4 ⟨_, hd4⟩).run [] s5 _ H' _ S5 (hyes rfl a na)) (fun f s6 hsp => ?_) (fun _ _ z => False.elim z)
        have end_ : ∀ {σ6 : St} {H6 : Hp} {Q : Shared → Prop}, Inv (X.suite a ((a, oe4) :: (X.pn ++ pins))) [] σ6 H6 s6 → (∀ s7, Inv X pins (σ6.set i none) H6 s7 → Q s7) →
            wpAny (model X.prog X.w) X.A (do bindName X.env n .none; unbindBehindTheSuite X.env n pos') (fun _ s7 => Q s7) X.xe s6 := fun {σ6 H6 Q} S6 hq => gone_ok (S6.unsuite ok) hN hi hln hq
        cases f with
        | next => obtain ⟨σ6, H6, S6, q6⟩ := hsp; exact end_ S6 fun s7 J7 => ⟨_, _, J7, q6⟩
        | brk => obtain ⟨σ6, H6, S6, q6⟩ := hsp; exact end_ S6 fun s7 J7 => ⟨_, _, J7, q6⟩
        | cont => obtain ⟨σ6, H6, S6, q6⟩ := hsp; exact end_ S6 fun s7 J7 => ⟨_, _, J7, q6⟩
        | ret u => obtain ⟨v6, σ6, H6, S6, r6, q6⟩ := hsp; exact end_ S6 fun s7 J7 => ⟨_, _, _, J7, r6, q6⟩
      | false =>
        show wpAny _ X.A (handleBy (.ref a) X.env hds2) _ _ _
        exact ih (hno rfl)
  · cases f with
    | next => obtain ⟨σ', H', J', q⟩ := hsp; exact wpAny_execs_nil ⟨σ', H', J'.ofTry ok, q⟩
    | brk => obtain ⟨σ', H', J', q⟩ := hsp; exact ⟨σ', H', J'.ofTry ok, q⟩
    | cont => obtain ⟨σ', H', J', q⟩ := hsp; exact ⟨σ', H', J'.ofTry ok, q⟩
    | ret u => obtain ⟨v, σ', H', J', r, q⟩ := hsp; exact ⟨v, σ', H', J'.ofTry ok, r, q⟩
end
section
variable {K : PySem.W.Frag} {Wout : WX} {D : Ends} {σ : St} {H : Hp} {cls : Value} {d : Option Addr} {q : Cl} {r : List Cl}
theorem c_hit (he : PySem.W.exmOne K cls q.c = some true) (h : ∀ a, H a = none → q.ts a cls d (endO q.i D) (setO q.i σ (some (.ref a))) H) : wCl K Wout D (q :: r) cls d σ H := ⟨true, he, fun _ => h, fun z => by cases z⟩
theorem c_miss (he : PySem.W.exmOne K cls q.c = some false) (h : wCl K Wout D r cls d σ H) : wCl K Wout D (q :: r) cls d σ H := ⟨false, he, (fun z => nomatch z), fun _ => h⟩
end
end Sa

/-! len(set(texts)) (a rule of the library turned from whole numbers to texts). -/
namespace Sa
open PySem PySem.Spec
def stepT (σ : List Str) (v : Str) : List Str := if σ.any (· == v) then σ else σ ++ [v]
/-- each text once -/
def ded (xs : List Str) : List Str := xs.foldl stepT []
theorem stepT_any (σ : List Str) (v k : Str) : (stepT σ v).any (· == k) = (σ.any (· == k) || decide (k = v)) := by
  unfold stepT
  by_cases h : σ.any (· == v) = true
  · rw [if_pos h]
    by_cases e : k = v
    · subst e; rw [h]; simp
    · simp [e]
  · rw [if_neg h, List.any_append]
    by_cases e : k = v
    · subst e; simp
    · have hb : (v == k) = false := by simpa [beq_iff_eq] using (fun h' : v = k => e h'.symm)
      simp [hb, e]
theorem stepT_length (σ : List Str) (v : Str) : (stepT σ v).length = if σ.any (· == v) then σ.length else σ.length + 1 := by
  unfold stepT; split <;> simp
theorem ded_snoc (xs : List Str) (v : Str) : ded (xs ++ [v]) = stepT (ded xs) v := by unfold ded; rw [List.foldl_append]; rfl
theorem ded_take {xs : List Str} {i : Nat} (h : i < xs.length) : ded (xs.take (i + 1)) = stepT (ded (xs.take i)) (xs.getD i Str.empty) := by
  have e : xs[i]? = some (xs.getD i Str.empty) := by rw [List.getD_eq_getElem?_getD, List.getElem?_eq_getElem h]; rfl
  rw [take_succ' e, ded_snoc]
theorem ded_le (xs : List Str) : (ded xs).length ≤ xs.length := by
  suffices h : ∀ i, (ded (xs.take i)).length ≤ i by
    have := h xs.length
    rwa [List.take_length] at this
  intro i
  induction i with
  | zero => rw [List.take_zero]; exact Nat.le_refl _
  | succ i ih =>
    by_cases hi : i < xs.length
    · rw [ded_take hi, stepT_length]; split <;> omega
    · rw [List.take_of_length_le (by omega)] at ih ⊢
      omega
section
open PyProof.Rows
variable {prog : Program} {w : World} {A : Around} {R : Result → Shared → Prop} {I : Addr} {fp wr : List Addr} {G : Array GenState → Array GenState → Prop} {n : Nat} {P : Nat → Value → Prop} {St : Nat → Shared → Prop}
theorem set_loopT (W : WalksS prog w A.in1 I fp wr G n P St) (S : Addr) (hSf : S ∉ fp)
    (xs : List Str) (hval : ∀ i v, P i v → ∃ t, v = .str (xs.getD i Str.empty) t) (hsz : xs.length = n) (hb : n + 1 < scanBound) :
    ∀ (k i : Nat) (s : Shared), n - i = k → i ≤ n → St i s →
      s.heap.SetOf (strKind prog w) S (fun k' => (ded (xs.take i)).any (· == k')) (ded (xs.take i)).length →
      (∀ s', Moved (S :: wr) G s s' → s'.heap.SetOf (strKind prog w) S (fun k' => (ded (xs.take n)).any (· == k')) (ded (xs.take n)).length → R (.ok (.ret .none)) s') →
      codeAny (model prog w) A (.builtin "set.update.loop" ⟨[.ref S, .ref I], []⟩) R s := by
  have hSw : S ∉ wr := fun h => hSf (W.sub _ h)
  have hsub : ∀ b ∈ wr, b ∈ S :: wr := fun b hb => List.mem_cons_of_mem _ hb
  intro k
  induction k with
  | zero =>
    intro i s hk hi hst hS hR
    have hin : i = n := by omega
    subst hin
    refine codeAny_builtin PyProof.Rows.F.entry_set_update_loop ?_
    rw [Around.under_plainId PyProof.Rows.F.plain_set_update_loop _]
    show wpAny _ A.in1 (pyNext (.ref I) >>= _) _ _ s
    refine wpAny_bind (W.done s _ _ hst fun s' hm => ?_)
    show wpAny _ A.in1 (ret Value.none) _ _ s'
    exact wpAny_pure (hR s' (hm.mono hsub) (by
      obtain ⟨o, es, ep, t, ho, rest⟩ := hS
      exact ⟨o, es, ep, t, hm.heap S _ hSw ho, rest⟩))
  | succ k ih =>
    intro i s hk hi hst hS hR
    have hlt : i < n := by omega
    refine codeAny_builtin PyProof.Rows.F.entry_set_update_loop ?_
    rw [Around.under_plainId PyProof.Rows.F.plain_set_update_loop _]
    show wpAny _ A.in1 (pyNext (.ref I) >>= _) _ _ s
    refine wpAny_bind (W.item i s _ _ hlt hst fun v s' hP hst' hm => ?_)
    obtain ⟨t, rfl⟩ := hval i v hP
    have hS' : s'.heap.SetOf (strKind prog w) S (fun k' => (ded (xs.take i)).any (· == k')) (ded (xs.take i)).length := by
      obtain ⟨o, es, ep, tb, ho, rest⟩ := hS
      exact ⟨o, es, ep, tb, hm.heap S _ hSw ho, rest⟩
    show wpAny _ A.in1 (holding [Value.str (xs.getD i Str.empty) t] (setAdd S (.str (xs.getD i Str.empty) t)) >>= _) _ _ s'
    refine wpAny_bind (wpAny_holding ?_)
    unfold setAdd
    refine wpAny_holding ?_
    refine wpAny_bind ((strKind prog w).pyHash (k := xs.getD i Str.empty) (strKind_is _ _ _ _) ?_)
    have hroom : (ded (xs.take i)).length + 1 < scanBound := by have := ded_le (xs.take i); rw [List.length_take] at this; omega
    refine wpAny_setAddHashed_of (knd := strKind prog w) (s := { s' with toks := s'.toks + 1 }) (strKind_is _ _ _ _) rfl hS' hroom fun h' hsb hS2 => ?_

    have hSi : h'.SetOf (strKind prog w) S (fun k' => (ded (xs.take (i + 1))).any (· == k')) (ded (xs.take (i + 1))).length :=
      SetOf_congr hS2 (fun k' => by rw [ded_take (by omega), stepT_any]) (by rw [ded_take (by omega), stepT_length])
    refine wpAny_pure ⟨plainId_quiet PyProof.Rows.F.plain_set_update_loop _, ih (i + 1) _ (by omega) hlt (W.frame _ s' _ _ hst' (Nat.le_succ _) fun b hb o e => ?_) hSi fun s'' hm'' hS'' => ?_⟩
    · rw [hsb.2 b (fun h : b = S => hSf (by rw [← h]; exact hb))]; exact e
    · refine hR s'' (Moved.trans W.gtrans ((hm.mono hsub).then_heap (Nat.le_succ _) fun b o hb e => ?_) hm'') hS''
      rw [hsb.2 b (fun h : b = S => hb (by rw [h]; exact List.mem_cons_self))]; exact e
end
section
variable {prog : Program} {w : World} {A : Around} {E : Value → Shared → Prop} {s : Shared}
set_option maxRecDepth 100000 in
set_option maxHeartbeats 3200000 in
theorem call_set_texts {l : Addr} {items : Array Value} {xs : List Str} {Q : Value → Shared → Prop}
    (hh : A.handled = none) (hl : s.heap.IsList l items) (hi : PyProof.Rows.StrsAre items.toList xs) (hsz : xs.length = items.size) (hb : items.size + 1 < scanBound)
    (h : ∀ (h' : Heap) (tk : Nat), h'.SetOf (strKind prog w) s.heap.objs.size (fun k' => (ded (xs.take items.size)).any (· == k')) (ded (xs.take items.size)).length →
      (∀ b o, b < s.heap.objs.size → s.heap.get? b = some o → h'.get? b = some o) → Q (.ref s.heap.objs.size) { s with heap := h', toks := tk }) :
    wpAny (model prog w) A (call (.type "set") [.ref l]) Q E s := by
  obtain ⟨c, tl, hmro⟩ := F.called_set.mro
  have hmade := F.called_set.made
  have hsub := F.called_set.sub
  refine wpAny_call (codeAny_of_tree ?_)
  show wpAny _ _ (callAny (.type "set") _) _ _ _
  refine wpAny_pure ⟨Code.quiet_builtin _ (by decide +kernel), codeAny_builtin F.entry_type_call ?_⟩
  rw [Around.under_plain (weight_type_call_type "set" [.ref l] []) rfl]
  have h1 := F.called_set.notType
  have h2 := F.called_set.canCreate
  have hct := F.typeCall_set_1 (.ref l)
  repeat (any_goals (first | assumption | wp_step))

  refine codeAny_mono (code_set_new_1 (.ref l) (E := E) (Q₁ := fun obj s₁ => ∃ led : Bool, obj = .ref s.heap.objs.size ∧ s₁ = { s with heap := s.heap.push { cls := .type "set", dict := none, data := .set #[] 0 (.fresh 0 0 led) } }) fun led => ⟨led, rfl, rfl⟩) fun r s₁ hr => ?_
  cases r with
  | error e => exact hr
  | ok fl =>
    cases fl with
    | ret obj =>
      obtain ⟨led, rfl, rfl⟩ := hr
      have hS : (s.heap.push { cls := .type "set", dict := none, data := .set #[] 0 (.fresh 0 0 led) }).get? s.heap.objs.size = some { cls := .type "set", dict := none, data := .set #[] 0 (.fresh 0 0 led) } := Heap.get?_push_size _ rfl
      have hT : Shared.TypeIs { s with heap := s.heap.push { cls := .type "set", dict := none, data := .set #[] 0 (.fresh 0 0 led) } } (.ref s.heap.objs.size) "set" := ⟨_, hS, rfl⟩
      have hli := F.called_set.init.lookup
      have hbi := F.called_set.init.bind (.ref s.heap.objs.size)
      repeat (any_goals (first | assumption | wp_step))

      refine codeAny_mono (codeAny_call_builtin (R := wants (fun r s₂ => r = .none ∧ ∃ h' tk, s₂ = { s with heap := h', toks := tk } ∧
          h'.SetOf (strKind prog w) s.heap.objs.size (fun k' => (ded (xs.take items.size)).any (· == k')) (ded (xs.take items.size)).length ∧
          (∀ b o, b < s.heap.objs.size → s.heap.get? b = some o → h'.get? b = some o)) E) F.called_set.init.plain F.entry_set_init (check_set_init_1 hT ?_)) fun r₂ s₂ hr₂ => ?_
      · obtain ⟨ol, hol, hcl, nl, hdl⟩ := hl
        obtain ⟨ocls, odict, odata, oslots⟩ := ol
        simp only at hcl hdl
        subst hcl; subst hdl
        have hol' : (s.heap.push { cls := .type "set", dict := none, data := .set #[] 0 (.fresh 0 0 led) }).get? l = some { cls := .type "list", dict := odict, data := .seq items nl, slots := oslots } := Heap.get?_push_of_some _ hol
        have hsls := F.sub_list_set
        have hslf := F.sub_list_frozenset
        have hne : (Value.type "list" == Value.type "dict") = false := by decide
        have hl1 : (s.heap.push { cls := .type "set", dict := none, data := .set #[] 0 (.fresh 0 0 led) }).IsList l items := ⟨_, hol', rfl, nl, rfl⟩
        unfold Builtin.«set.__init__» noKeywords Builtin.Frozenset.updateFrom
        generalize hPI : pyIter = PI
        wp_walk
        subst hPI

        refine wpAny_pyIter_list hl1 ?_
        refine wpAny_bind (wpAny_runValue ?_)
        have hlS : l < s.heap.objs.size := Heap.lt_size hol
        have hh3 : A.in1.in1.in1.handled = none := by simp [hh]
        have hneI : l ≠ (s.heap.push { cls := .type "set", dict := none, data := .set #[] 0 (.fresh 0 0 led) }).objs.size := by
          rw [Heap.size_push]; exact Nat.ne_of_lt (Nat.lt_succ_of_lt hlS)
        have hSf : s.heap.objs.size ∉ [(s.heap.push { cls := .type "set", dict := none, data := .set #[] 0 (.fresh 0 0 led) }).objs.size, l] := by
          rw [Heap.size_push]; simp only [List.mem_cons, List.mem_singleton, List.not_mem_nil, or_false, not_or]
          exact ⟨Nat.ne_of_lt (Nat.lt_succ_self _), Nat.ne_of_gt hlS⟩
        have hval : ∀ (i : Nat) (v : Value), items[i]? = some v → ∃ t, v = .str (xs.getD i Str.empty) t := fun i v hv =>
          SS.strs_at hi i v (by rw [Array.getElem?_toList]; exact hv)
        refine set_loopT ((Walks.list hh3 _ l hneI items).toS) s.heap.objs.size
          hSf xs hval hsz hb (items.size - 0) 0 _ (by omega) (Nat.zero_le _)
          ⟨⟨_, Heap.get?_push_size _ rfl, rfl, rfl⟩, (hl1.push _)⟩ ?hS0 ?hR
        case hS0 =>
          have hget : ((s.heap.push { cls := .type "set", dict := none, data := .set #[] 0 (.fresh 0 0 led) }).push { cls := .type "list_iterator", data := .fields #[.ref l, .int 0 0] }).get? s.heap.objs.size
              = some { cls := .type "set", dict := none, data := .set #[] 0 (.fresh 0 0 led) } := Heap.get?_push_of_some _ hS
          exact PyProof.Rows.SetOf_congr ((PyProof.Rows.setObjOf_fresh (knd := strKind prog w) led).setOf hget (by unfold scanBound; omega)) (fun _ => by rw [List.take_zero]; rfl) (by rw [List.take_zero]; rfl)
        case hR =>
          intro s' hm hS'
          obtain ⟨h', g', d', tk', os'⟩ := s'
          have eg : g' = s.gens := hm.gens
          have ed : d' = s.drawn := hm.drawn
          have eo : os' = s.os := hm.os
          subst eg; subst ed; subst eo
          show wpAny _ _ _ _ _ _
          refine wpAny_pure ?_
          show wpAny _ _ (ret Value.none) _ _ _
          refine wpAny_pure ⟨rfl, h', tk', rfl, hS', fun b o hb e => ?_⟩
          have hb1 : b ≠ s.heap.objs.size := Nat.ne_of_lt hb
          have hb2 : b ≠ (s.heap.push { cls := .type "set", dict := none, data := .set #[] 0 (.fresh 0 0 led) }).objs.size := by
            rw [Heap.size_push]; exact Nat.ne_of_lt (Nat.lt_succ_of_lt hb)
          exact hm.heap b o (by simp only [List.mem_cons, List.mem_singleton, List.not_mem_nil, or_false, not_or]; exact ⟨hb1, hb2⟩) (Heap.get?_push_of_some _ (Heap.get?_push_of_some _ e))

      · cases r₂ with
        | error e => exact hr₂
        | ok fl₂ =>
          cases fl₂ with
          | ret r =>
            obtain ⟨rfl, h', tk, rfl, hS', hk'⟩ := hr₂
            repeat (any_goals (first | assumption | wp_step))
            exact h _ _ hS' hk'
          | _ => exact hr₂.elim
    | _ => exact hr.elim
end
end Sa

/-! len(set(texts)) as a reading; walks of lists or tuples; dicts of texts. -/
namespace Sa
open PySem L2
def tLenSetU (K : PySem.W.Frag) (ta : TE) : TE := fun σ H Q => ta σ H fun x H1 => ∃ (l : Addr) (xs : List Str), x = .ref l ∧ SqL K H1 l (xs.map V.str) ∧ xs.length ≤ 1000 ∧ Q (.int (ded xs).length) H1
theorem c_lenSet {K : PySem.W.Frag} {ta : TE} {σ : St} {H : Hp} {Q : VK} (h : ta σ H fun x H1 => ∃ (l : Addr) (xs : List Str), x = .ref l ∧ SqL K H1 l (xs.map V.str) ∧ xs.length ≤ 1000 ∧ Q (.int (ded xs).length) H1) : tLenSetU K ta σ H Q := h
theorem pe_lenSetU {X : Cx} {K : PySem.W.Frag} {a : Expr} {ta : TE} {p p2 q pos : Pos} (hc : X.calm = true) (hm : X.mg "len" = none) (hm2 : X.mg "set" = none) (ha : PE X a ta) (hK : X.K = K := by rfl) (hg : Gl X "len" := by rfl) (hg2 : Gl X "set" := by rfl)
    (na : starEach [a] X.env = (false, eval a X.env) :: starEach [] X.env := by rfl) : PE X (.Call (.Name "len" p) [.Call (.Name "set" p2) [a] [] q] [] pos) (tLenSetU K ta) := by
  subst hK
  constructor
  intro pins s σ H Q I h
  refine PyProof.Rows.Call_ (ld_blt I hg hm PySem.boot_len (PyProof.Rows.callWith_builtin1 (PyProof.Rows.args_cons ?_ rfl) rfl rfl))
  refine PyProof.Rows.Call_ (ld_blt I hg2 hm2 PySem.Pv.boot_set (PyProof.Rows.callWith_type1 (PyProof.Rows.args_cons (thn (ha.run pins s σ H _ I h) fun v s1 ⟨x, H1, I1, r1, q1⟩ => PyProof.Rows.args_nil ?_) na) na rfl))
  obtain ⟨l, xs, rfl, hq, h1, q1⟩ := q1
  cases r1
  obtain ⟨its, r, pl, hz⟩ := I1.list hq
  have hl : its.length = xs.length := by rw [← r.length, List.length_map]
  refine call_set_texts (xs := xs) (I1.ok.hd hc) pl.isList (by simpa using strsAre_of r) (by rw [List.size_toArray, hl]) (by rw [List.size_toArray, hl]; unfold scanBound; omega) fun h' tk hS hk => PyProof.Rows.args_nil ?_
  have hsz : its.toArray.size = xs.length := by rw [List.size_toArray, hl]
  rw [hsz, List.take_length] at hS
  obtain ⟨o, es, ep, t, ho, hex, hd, _, _, _, hf, hn⟩ := hS
  have I2 : Inv X pins σ H1 { s1 with heap := h', toks := tk } := I1.kept fun b o e => hk b o (Heap.lt_size e) e
  exact call_len_set ho hex hd hf (by rw [hn]; have := ded_le xs; omega) ⟨.int (ded xs).length, H1, I2.tok _, ⟨_, by rw [hn]⟩, q1⟩
/-! ## walks of a list or of a tuple -/
/-- whatever sequence it is -/
def Sq (K : PySem.W.Frag) (H : Hp) (a : Addr) (xs : List V) : Prop := SqL K H a xs ∨ SqT K H a xs
def iSeq (K : PySem.W.Frag) (te : TE) : TI := fun σ H R => te σ H fun x H1 => ∃ a, x = .ref a ∧ (((∃ xs, SqL K H1 a xs) ∧ R (Itl K a) H1) ∨ ((∃ xs, SqT K H1 a xs) ∧ R (Itt K a) H1))
theorem pi_seq {X : Cx} {K : PySem.W.Frag} {tg e : Expr} {te : TE} (he : PE X e te) (hK : X.K = K := by rfl) : PI X tg e (iSeq K te) := by
  subst hK
  constructor
  intro pins s σ H R I h
  refine thn (he.run pins s σ H _ I h) fun v s1 ⟨x, H1, I1, r1, a, ex, z⟩ => ?_
  subst ex
  cases r1
  have fp : ∀ b ∈ [s1.heap.objs.size], FpOk X pins H1 b := fun b hb => by
    rw [List.mem_singleton.mp hb]
    exact I1.fpOk (Nat.le_refl _) (I1.hok.fresh (Nat.le_refl _))
  rcases z with ⟨⟨xs, hq⟩, q⟩ | ⟨⟨xs, hq⟩, q⟩
  · obtain ⟨its, rv, p, hz⟩ := I1.list hq
    exact wpAny_pyIter_list p.isList ⟨_, [s1.heap.objs.size], _, _, H1, rfl, I1.kept (t' := s1.toks) fun b o e => Heap.get?_push_of_some _ e, turn_list a _, ⟨_, Heap.get?_push_size _ rfl, rfl, rfl⟩, fp, q⟩
  · obtain ⟨its, rv, p, hz⟩ := I1.tuple hq
    exact wpAny_pyIter_tuple (show s1.heap.IsTuple a its.toArray from p) ⟨_, [s1.heap.objs.size], _, _, H1, rfl, I1.kept (t' := s1.toks) fun b o e => Heap.get?_push_of_some _ e, turn_tuple a _, ⟨_, Heap.get?_push_size _ rfl, rfl, rfl⟩, fp, q⟩
section
variable {K : PySem.W.Frag} {σ : St} {H : Hp} {R : It → Hp → Prop} {te : TE} {a : Addr} {xs : List V} {g : TG} {tt : TT} {tb : TS} {D : Ends} {vs : List Nat} {Q : VK}
theorem c_iSeq (h : te σ H fun x H1 => ∃ a, x = .ref a ∧ (((∃ xs, SqL K H1 a xs) ∧ R (Itl K a) H1) ∨ ((∃ xs, SqT K H1 a xs) ∧ R (Itt K a) H1))) : iSeq K te σ H R := h
end
/-! ## dicts whose keys are texts -/
def rSortedDU : List V → Hp → VK → Prop := fun xs H Q => ∃ (a : Addr) (kvs : List (Key × V)) (ks : List Str), xs = [.ref a] ∧ Rd H a (.dK kvs) ∧ kvs.map (·.1) = ks.map Sum.inr ∧ ks.length < 64 ∧ ∀ ys p, ys.Perm ks → PyProof.Rows.sortedS ys = true → H p = none → Q (.ref p) (upd H p (.lst (ys.map V.str)))
theorem cr_sortedDU {X : Cx} (hc : X.calm = true) : CallR X (.builtin "sorted") rSortedDU := call_sortedD hc
theorem pe_dgetU {X : Cx} {o e : Expr} {apos cpos : Pos} {td ty : TE} (hu : X.A.units + 1 < cLine) (ho : PE X o td) (he : PE X e ty) (hb : attributeBase o "get" X.env (eval o X.env) = eval o X.env := by rfl)
    (hf : ((backTo cpos (starEach [e] X.env)).all (fun x => !x.1) && (backToKw cpos (keywordEach [] X.env)).all (fun x => x.1.isSome) && decide (([e] : List Expr).length + ([] : List Keyword).length + (if ([] : List Keyword).isEmpty then 0 else 1) < 30)) = true := by rfl)
    (hl : (apos.endLine == cpos.line) = true := by rfl) (ht : backTo cpos (starEach [e] X.env) = [(false, eval e X.env)] := by rfl) : PE X (.Call (.Attribute o "get" apos) [e] [] cpos) (tDGet1 td ty) := pe_dget1 hu ho he ⟨hb, hf, hl, ht⟩
theorem c_dget {td ty : TE} {σ : St} {H : Hp} {Q : VK} (h : td σ H fun x H1 => ty σ H1 fun y H2 => ∃ a v, x = .ref a ∧ DGet H2 a y (some v) ∧ Q v H2) : tDGet td ty σ H Q := h
/-- d[k], d.get(k) of a dict whose keys are texts -/
theorem c_dget1 {td ty : TE} {σ : St} {H : Hp} {Q : VK} (h : td σ H fun x H1 => ∃ a, x = .ref a ∧ IsD H1 a ∧ ty σ H1 fun y H2 => ∃ o, DGet H2 a y o ∧ Q (o.getD .non) H2) : tDGet1 td ty σ H Q := h
end Sa

/-! Texts in order; rows by their paths. -/
namespace Sa
open PySem L2
def leS (a b : Str) : Prop := ¬ (b.cps.toList < a.cps.toList)
instance (a b : Str) : Decidable (leS a b) := inferInstanceAs (Decidable (¬ _))
theorem leS_refl (a : Str) : leS a a := List.lt_irrefl _
theorem str_ext {a b : Str} (h : a.cps.toList = b.cps.toList) : a = b := by
  cases a; cases b
  congr 1
  exact Array.toList_inj.mp h
theorem leS_antisymm {a b : Str} (h1 : leS a b) (h2 : leS b a) : a = b := str_ext (List.le_antisymm (List.not_lt.mp h1) (List.not_lt.mp h2))
theorem leS_trans {a b c : Str} (h1 : leS a b) (h2 : leS b c) : leS a c := List.not_lt.mpr (List.le_trans (List.not_lt.mp h1) (List.not_lt.mp h2))
theorem leS_total (a b : Str) : leS a b ∨ leS b a := (List.le_total a.cps.toList b.cps.toList).imp List.not_lt.mpr List.not_lt.mpr
theorem leS_of_lt {a b : Str} (h : a.cps.toList < b.cps.toList) : leS a b := List.not_lt.mpr (List.le_of_lt h)
theorem rising_pair : ∀ (p : Str) (l : List Str), PyProof.Rows.risingS p l = true → (p :: l).Pairwise leS
  | p, [], _ => List.pairwise_singleton ..
  | p, x :: r, h => by
    unfold PyProof.Rows.risingS at h
    rw [Bool.and_eq_true, PyProof.Rows.ltCps_eq, Bool.not_eq_true', decide_eq_false_iff_not] at h
    have ih := rising_pair x r h.2
    refine List.pairwise_cons.mpr ⟨fun y hy => ?_, ih⟩
    rcases List.mem_cons.mp hy with e | hy
    · subst e; exact h.1
    · exact leS_trans h.1 ((List.pairwise_cons.mp ih).1 y hy)
theorem sorted_pair {l : List Str} (h : PyProof.Rows.sortedS l = true) : l.Pairwise leS := by
  cases l with
  | nil => exact .nil
  | cons x r => exact rising_pair x r h
theorem sorted_eq : ∀ {ys zs : List Str}, ys.Perm zs → ys.Pairwise leS → zs.Pairwise leS → ys = zs
  | [], zs, hp, _, _ => (List.Perm.nil_eq hp)
  | y :: r, [], hp, _, _ => by have := hp.length_eq; simp at this
  | y :: r, z :: t, hp, h1, h2 => by
    obtain ⟨a1, a2⟩ := List.pairwise_cons.mp h1
    obtain ⟨b1, b2⟩ := List.pairwise_cons.mp h2
    have e : y = z := by
      have m1 : y ∈ z :: t := hp.subset (List.mem_cons_self ..)
      have m2 : z ∈ y :: r := hp.symm.subset (List.mem_cons_self ..)
      rcases List.mem_cons.mp m1 with e | m1
      · exact e
      rcases List.mem_cons.mp m2 with e | m2
      · exact e.symm
      exact leS_antisymm (a1 z m2) (b1 y m1)
    subst e
    rw [sorted_eq (List.perm_cons y |>.mp hp) a2 b2]
section
variable {β : Type}
def insF (x : Str × β) : List (Str × β) → List (Str × β)
  | [] => [x]
  | y :: r => if x.1.cps.toList < y.1.cps.toList then x :: y :: r else y :: insF x r
def sortF (fs : List (Str × β)) : List (Str × β) := fs.foldr insF []
theorem insF_perm (x : Str × β) : ∀ fs : List (Str × β), (insF x fs).Perm (x :: fs)
  | [] => .refl _
  | y :: r => by
    unfold insF
    split
    · exact .refl _
    · exact ((insF_perm x r).cons y).trans (.swap ..)
theorem sortF_perm : ∀ fs : List (Str × β), (sortF fs).Perm fs
  | [] => .refl _
  | x :: r => (insF_perm x (sortF r)).trans ((sortF_perm r).cons x)
def Asc (fs : List (Str × β)) : Prop := (fs.map Prod.fst).Pairwise leS
theorem insF_asc (x : Str × β) : ∀ {fs : List (Str × β)}, Asc fs → Asc (insF x fs)
  | [], _ => List.pairwise_singleton ..
  | y :: r, h => by
    obtain ⟨h1, h2⟩ := List.pairwise_cons.mp (show (y.1 :: r.map Prod.fst).Pairwise leS from h)
    unfold insF
    split
    · rename_i hlt
      refine List.pairwise_cons.mpr ⟨fun z hz => ?_, h⟩
      rcases List.mem_cons.mp hz with e | hz
      · subst e; exact leS_of_lt hlt
      · exact leS_trans (leS_of_lt hlt) (h1 z hz)
    · rename_i hlt
      refine List.pairwise_cons.mpr ⟨fun z hz => ?_, insF_asc x (fs := r) h2⟩
      have : z ∈ (x :: r).map Prod.fst := ((insF_perm x r).map Prod.fst).subset hz
      rcases List.mem_cons.mp this with e | hz
      · subst e; exact hlt
      · exact h1 z hz
theorem sortF_asc : ∀ fs : List (Str × β), Asc (sortF fs)
  | [] => .nil
  | x :: r => insF_asc x (sortF_asc r)
/-- the keys of rows, sorted, are those of the sorted rows -/
theorem sorted_keys {fs : List (Str × β)} {ys : List Str} (h : ys.Perm (fs.map Prod.fst)) (hs : PyProof.Rows.sortedS ys = true) : ys = (sortF fs).map Prod.fst :=
  sorted_eq (h.trans ((sortF_perm fs).map Prod.fst).symm) (sorted_pair hs) (sortF_asc fs)
theorem sortF_len (fs : List (Str × β)) : (sortF fs).length = fs.length := (sortF_perm fs).length_eq
/-- rows with each path once -/
def Once (fs : List (Str × β)) : Prop := (fs.map Prod.fst).Nodup
theorem sortF_once {fs : List (Str × β)} (h : Once fs) : Once (sortF fs) := ((sortF_perm fs).map Prod.fst).symm.nodup h
theorem asc_perm_eq {fs gs : List (Str × β)} (hp : fs.Perm gs) (ho : Once fs) (h1 : Asc fs) (h2 : Asc gs) : fs = gs := by
  induction fs generalizing gs with
  | nil => exact List.Perm.nil_eq hp
  | cons x r ih =>
    cases gs with
    | nil => have := hp.length_eq; simp at this
    | cons y t =>
      have ek := sorted_eq (hp.map Prod.fst) h1 h2
      simp only [List.map_cons, List.cons.injEq] at ek
      have exy : x = y := by
        rcases List.mem_cons.mp (hp.subset (List.mem_cons_self ..)) with e | m
        · exact e
        · exfalso
          have hy : Once (y :: t) := (hp.map Prod.fst).nodup ho
          have : y.1 ∉ t.map Prod.fst := (List.nodup_cons.mp hy).1
          exact this (ek.1 ▸ List.mem_map_of_mem (f := Prod.fst) m)
      subst exy
      rw [ih ((List.perm_cons x).mp hp) (List.nodup_cons.mp ho).2 (List.pairwise_cons.mp h1).2 (List.pairwise_cons.mp h2).2]
theorem sortF_of_asc {fs : List (Str × β)} (ho : Once fs) (h : Asc fs) : sortF fs = fs := asc_perm_eq (sortF_perm fs) (sortF_once ho) (sortF_asc fs) h
theorem sortF_congr {fs gs : List (Str × β)} (hp : fs.Perm gs) (ho : Once fs) : sortF fs = sortF gs :=
  asc_perm_eq ((sortF_perm fs).trans (hp.trans (sortF_perm gs).symm)) (sortF_once ho) (sortF_asc _) (sortF_asc _)
/-- what stands at a path -/
def at? (fs : List (Str × β)) (p : Str) : Option β := (fs.find? fun f => decide (f.1 = p)).map Prod.snd
theorem at_some {fs : List (Str × β)} (ho : Once fs) {p : Str} {v : β} : at? fs p = some v ↔ (p, v) ∈ fs := by
  induction fs with
  | nil => simp [at?]
  | cons f r ih =>
    obtain ⟨h1, h2⟩ := List.nodup_cons.mp (show (f.1 :: r.map Prod.fst).Nodup from ho)
    have ih := ih h2
    unfold at? at ih ⊢
    rw [List.find?_cons]
    by_cases e : f.1 = p
    · rw [decide_eq_true e]
      constructor
      · intro h
        have h : f.2 = v := by simpa using h
        rw [← e, ← h]
        exact List.mem_cons_self ..
      · intro h
        rcases List.mem_cons.mp h with h | h
        · rw [← h]; rfl
        · exact absurd (List.mem_map_of_mem (f := Prod.fst) h) (by rw [← e]; exact h1)
    · rw [decide_eq_false e]
      rw [ih]
      constructor
      · exact List.mem_cons_of_mem _
      · intro h
        rcases List.mem_cons.mp h with h | h
        · exact absurd (by rw [← h]) e
        · exact h
theorem at_perm {fs gs : List (Str × β)} (ho : Once fs) (hp : fs.Perm gs) (p : Str) : at? fs p = at? gs p := by
  have hg : Once gs := (hp.map Prod.fst).nodup ho
  cases h : at? gs p with
  | none =>
    cases h2 : at? fs p with
    | none => rfl
    | some v => rw [(at_some hg).mpr (hp.subset ((at_some ho).mp h2))] at h; cases h
  | some v => exact (at_some ho).mpr (hp.symm.subset ((at_some hg).mp h))
end
end Sa

/-! Dict comprehensions; rows of files as they lie in the heap. -/
namespace Sa
open PySem L2
section
variable {K : PySem.W.Frag} {σ : St} {H : Hp} {wi : TI} {g : TG} {tt : TT} {tk tv : TE} {n : Nat} {Q : VK} {vs : List Nat} {J : It} {ok : Hp → Prop} {Y : Nat → V → Hp → Hp → Prop}
def DcJ (J : It) (g : TG) (tt : TT) (tk tv : TE) (vs : List Nat) (σ : St) (H1 : Hp) (Q : VK) : Prop := ∀ D, H1 D = none → ∃ W : Nat → Nat → Hp → Prop, (∃ m, W 0 m (upd H1 D (.dK []))) ∧ ∀ i m H, W i m H →
  (J.stop i H ∧ Q (.ref D) H) ∨ (J.go i H ∧ ∃ Nx : Hp → Prop, (∀ H', Nx H' → ∃ m', m' < m ∧ W (i + 1) m' H') ∧ ∀ x H', J.yld i H x H' → g x (wipe σ vs) H' fun σ2 H2 => wipe σ2 vs = wipe σ vs ∧ tt σ2 H2 fun b H3 =>
    if b = true then tk σ2 H3 fun y H4 => tv σ2 H4 fun z H5 => ∃ kvs k, y = kV k ∧ H5 D = some (.dK kvs) ∧ kvs.length < sizeLine ∧ Nx (upd H5 D (.dK (putK kvs k z))) else Nx H3)
theorem c_dc (h : wi σ H fun J H1 => DcJ J g tt tk tv vs σ H1 Q) : tDc wi g tt tk tv vs σ H Q := h
abbrev DcM (g : TG) (tt : TT) (tk tv : TE) (vs : List Nat) (σ : St) (R : V → V → Hp → Prop) (S : Hp → Prop) (x : V) (H' : Hp) : Prop :=
  g x (wipe σ vs) H' fun σ2 H2 => wipe σ2 vs = wipe σ vs ∧ tt σ2 H2 fun b H3 => if b = true then tk σ2 H3 fun y H4 => tv σ2 H4 fun z H5 => R y z H5 else S H3
/-- each turn puts a new text -/
theorem dcQ_map (I : Itn J n ok Y) (key : Nat → Str) (val : Nat → V) (hnd : ((List.range n).map key).Nodup) (hz : n ≤ 10000) (hok : ∀ H', Kp [] H H' → ok H')
    (hs : ∀ i x H' H'' R S, i < n → Kp [] H H' → Y i x H' H'' → (∀ H4, Kp [] H'' H4 → R (.str (key i)) (val i) H4) → DcM g tt tk tv vs σ R S x H'')
    (hd : ∀ D H', H D = none → Kp [] H H' → H' D = some (.dK ((List.range n).map fun i => (Sum.inr (key i), val i))) → Q (.ref D) H') : DcJ J g tt tk tv vs σ H Q := by
  intro D hD
  refine ⟨fun i m H' => m = n - i ∧ i ≤ n ∧ Kp [] H H' ∧ H' D = some (.dK ((List.range i).map fun i => (Sum.inr (key i), val i))), ⟨_, rfl, Nat.zero_le _, Kp.new hD, upd_same⟩, ?_⟩
  rintro i m H1 ⟨rfl, hi, e, h⟩
  have o := hok H1 e
  by_cases hlt : i < n
  · refine .inr ⟨I.go i H1 o hlt, fun H' => Kp [] H H' ∧ H' D = some (.dK ((List.range (i + 1)).map fun i => (Sum.inr (key i), val i))), fun H' p => ⟨_, by omega, rfl, hlt, p.1, p.2⟩, fun x H' y => ?_⟩
    have y' := I.yld i H1 x H' o hlt y
    have k := I.kp i x H1 H' y'
    refine hs i x H1 H' _ _ hlt e y' fun H4 e4 => ?_
    refine ⟨_, Sum.inr (key i), rfl, e4.at0 (k.at0 h), by rw [List.length_map, List.length_range, sizeLine_eq]; omega, ((e.trans k).trans e4).fresh_mut hD, ?_⟩
    rw [upd_same]
    congr 2
    unfold putK
    have hno : ((List.range i).map fun i => ((Sum.inr (key i) : Key), val i)).any (fun kv => decide (kv.1 = Sum.inr (key i))) = false := by
      rw [List.any_eq_false]
      intro kv hkv
      obtain ⟨j, hj, rfl⟩ := List.mem_map.mp hkv
      simp only [decide_eq_true_eq, Sum.inr.injEq]
      intro ej
      have hj : j < i := List.mem_range.mp hj
      have a1 : ((List.range n).map key)[j]? = some (key j) := by rw [List.getElem?_map, List.getElem?_range (by omega)]; rfl
      have a2 : ((List.range n).map key)[i]? = some (key i) := by rw [List.getElem?_map, List.getElem?_range (by omega)]; rfl
      have := (List.getElem?_inj (by rw [List.length_map, List.length_range]; omega) hnd).mp (a1.trans ((congrArg some ej).trans a2.symm))
      omega
    rw [hno, if_neg Bool.false_ne_true, List.range_succ, List.map_append]
    rfl
  · have ei : i = n := by omega
    subst ei
    exact .inl ⟨I.stop i H1 o (Nat.le_refl _), hd D H1 hD e h⟩
end
/-! ## walks of a sequence, whichever it is -/
section
variable {K : PySem.W.Frag} {σ : St} {H : Hp} {g : TG} {tt : TT} {te tk tv : TE} {tb : TS} {D : Ends} {Q : VK} {vs : List Nat} {a : Addr} {α : Type} {ys : List α} {u : α → V}
abbrev Yq (ys : List α) (u : α → V) : Nat → V → Hp → Hp → Prop := fun i x H H' => H' = H ∧ ∃ y, ys[i]? = some y ∧ x = u y
theorem seq_any {R : It → Hp → Prop} (h : Sq K H a (ys.map u)) (q : ∀ J ok, Itn J ys.length ok (Yq ys u) → (∀ H', Kp [] H H' → ok H') → R J H) :
    ∃ b, V.ref a = .ref b ∧ (((∃ xs, SqL K H b xs) ∧ R (Itl K b) H) ∨ ((∃ xs, SqT K H b xs) ∧ R (Itt K b) H)) := by
  rcases h with h | h
  · exact ⟨a, rfl, .inl ⟨⟨_, h⟩, q _ _ itn_l fun H' e => SqL.kp e h⟩⟩
  · exact ⟨a, rfl, .inr ⟨⟨_, h⟩, q _ _ itn_t fun H' e => SqT.kp e h⟩⟩
theorem c_seqC (h : Sq K H a (ys.map u)) (q : ∀ J ok, Itn J ys.length ok (Yq ys u) → (∀ H', Kp [] H H' → ok H') → LcJ J g tt te vs σ H Q) :
    ∃ b, V.ref a = .ref b ∧ (((∃ xs, SqL K H b xs) ∧ LcJ (Itl K b) g tt te vs σ H Q) ∨ ((∃ xs, SqT K H b xs) ∧ LcJ (Itt K b) g tt te vs σ H Q)) := seq_any (R := fun J H => LcJ J g tt te vs σ H Q) h q
theorem c_seqF (h : Sq K H a (ys.map u)) (q : ∀ J ok, Itn J ys.length ok (Yq ys u) → (∀ H', Kp [] H H' → ok H') → ForJ J g tb D σ H) :
    ∃ b, V.ref a = .ref b ∧ (((∃ xs, SqL K H b xs) ∧ ForJ (Itl K b) g tb D σ H) ∨ ((∃ xs, SqT K H b xs) ∧ ForJ (Itt K b) g tb D σ H)) := seq_any (R := fun J H => ForJ J g tb D σ H) h q
theorem c_seqD (h : Sq K H a (ys.map u)) (q : ∀ J ok, Itn J ys.length ok (Yq ys u) → (∀ H', Kp [] H H' → ok H') → DcJ J g tt tk tv vs σ H Q) :
    ∃ b, V.ref a = .ref b ∧ (((∃ xs, SqL K H b xs) ∧ DcJ (Itl K b) g tt tk tv vs σ H Q) ∨ ((∃ xs, SqT K H b xs) ∧ DcJ (Itt K b) g tt tk tv vs σ H Q)) := seq_any (R := fun J H => DcJ J g tt tk tv vs σ H Q) h q
end
theorem range_getD {α β : Type} (ys : List α) (d : α) (f : α → β) : (List.range ys.length).map (fun i => f (ys.getD i d)) = ys.map f := by
  apply List.ext_getElem?
  intro i
  rw [List.getElem?_map, List.getElem?_map]
  by_cases h : i < ys.length
  · rw [List.getElem?_range h, List.getElem?_eq_getElem h]
    simp [List.getD_eq_getElem?_getD, List.getElem?_eq_getElem h]
  · rw [List.getElem?_eq_none (by rw [List.length_range]; omega), List.getElem?_eq_none (by omega)]
    rfl
theorem getD_of {α : Type} {ys : List α} {i : Nat} {y d : α} (h : ys[i]? = some y) : ys.getD i d = y := by rw [List.getD_eq_getElem?_getD, h]; rfl
/-! ## rows of files -/
abbrev File := Str × List Str
/-- a row as it lies in the heap: its own place, its lines' place, what it says -/
abbrev RowA := Addr × Addr × File
structure RowOk (K : PySem.W.Frag) (H : Hp) (r : RowA) : Prop where
  row : SqT K H r.1 [.str r.2.2.1, .ref r.2.1]
  lines : SqT K H r.2.1 (r.2.2.2.map V.str)
theorem RowOk.kp {K : PySem.W.Frag} {H H' : Hp} {r : RowA} (h : RowOk K H r) (e : Kp [] H H') : RowOk K H' r := ⟨SqT.kp e h.row, SqT.kp e h.lines⟩
/-- rows of files at a: a list or a tuple -/
def RowsAt (K : PySem.W.Frag) (H : Hp) (a : Addr) (fs : List File) : Prop := ∃ rs : List RowA, Sq K H a (rs.map fun r => V.ref r.1) ∧ rs.map (fun r => r.2.2) = fs ∧ ∀ r ∈ rs, RowOk K H r
theorem Sq.kp {K : PySem.W.Frag} {H H' : Hp} {a : Addr} {xs : List V} (h : Sq K H a xs) (e : Kp [] H H') : Sq K H' a xs := h.imp (SqL.kp e) (SqT.kp e)
theorem RowsAt.kp {K : PySem.W.Frag} {H H' : Hp} {a : Addr} {fs : List File} (h : RowsAt K H a fs) (e : Kp [] H H') : RowsAt K H' a fs := by
  obtain ⟨rs, h1, h2, h3⟩ := h
  exact ⟨rs, Sq.kp h1 e, h2, fun r hr => (h3 r hr).kp e⟩
/-- a tree: its files in the order of their paths -/
def TreeAt (K : PySem.W.Frag) (H : Hp) (a : Addr) (fs : List File) : Prop := ∃ (dx d : Addr) (ls : List (Addr × File)), H a = some (.ins (He.ga K "Tree") dx [("_files", .ref d)]) ∧
  H d = some (.dK (ls.map fun l => (Sum.inr l.2.1, V.ref l.1))) ∧ (∀ l ∈ ls, SqT K H l.1 (l.2.2.map V.str)) ∧ Once (ls.map Prod.snd) ∧ fs = sortF (ls.map Prod.snd)
theorem TreeAt.kp {K : PySem.W.Frag} {H H' : Hp} {a : Addr} {fs : List File} (h : TreeAt K H a fs) (e : Kp [] H H') : TreeAt K H' a fs := by
  obtain ⟨dx, d, ls, h1, h2, h3, h4, h5⟩ := h
  exact ⟨dx, d, ls, e.at0 h1, e.at0 h2, fun l hl => SqT.kp e (h3 l hl), h4, h5⟩
/-! ## methods with defaults, all parameters given -/
def dOfMd (C m q : Str) (st : Stmt) (ds : List He.Dv) : He.DefD := ⟨(C, some m), m, q, defArgs st, defBody st, defScope st, ds, []⟩
def BindD (m q : Str) (st : Stmt) (ps : List Str) (nd : Nat) : Prop := ∀ (T : Addr) (kV doc pm : Value) (an : Option Addr) (cdv ct : Value) (us its : List Value), us.length = ps.length → its.length = nd →
  ∃ k, bindArgs (PySem.W.fnOf m q (defArgs st) (defBody st) (defScope st) (.ref T) kV doc pm an cdv ct) ⟨us, []⟩ = seqItems? (.ref T) >>= k ∧ k (some its.toArray) = pure (ps.zip us)
section
variable {P : Program} {w : World} {K : PySem.W.Frag} {mg : Str → Option Value} {base : Heap}
theorem meth_ofXD {fa : List He.Fa} {fn : List He.DefD} {fx : List Fx} (T : Tx fa fn fx K mg) (i j : Nat) {C m q : Str} {st : Stmt} {N ps : List Str} {k : Nat} {sp : Sp} {ds : List He.Dv} (S : FnScope N ps (defScope st)) (B : BindD m q st ps ds.length) (hne : ds ≠ [])
    (len : ∀ vs H Q E, sp vs H Q E → vs.length = ps.length) (body : BodyMX P w K mg base C m q st N k sp) (hd : fn[i]? = some (dOfMd C m q st ds) := by rfl) (hg : fa[j]? = some (.meth C m) := by rfl) : MethAt P w K mg base (L2.CX P w) C m (k + 1) ps sp := by
  have me := He.meth_ok (T.fact j hg)
  obtain ⟨hp, X, G, c, _⟩ := T
  obtain ⟨fd, F⟩ := c.def_ i hd
  have hl : (ds.map (He.Dv.v K)).length = ds.length := List.length_map ..
  obtain ⟨vs, r, b⟩ := F.binds1 (ps := ps) ps.length ds.length (by intro z; exact hne (List.map_eq_nil_iff.mp z)) (by show ps.length + ((ds.map (He.Dv.v K)).length - ds.length) = ps.length; rw [hl]; omega) (fun T kV doc pm an cdv ct us its h1 h2 => by
    have h2 : its.length = ds.length := h2.trans hl
    obtain ⟨k, e1, e2⟩ := B T kV doc pm an cdv ct us its h1 h2
    exact ⟨k, e1, by rw [List.drop_of_length_le (by omega), List.append_nil]; exact e2⟩)
  have ev : vs = [] := by
    have : (ds.map (He.Dv.v K)).drop ds.length = [] := List.drop_of_length_le (by omega)
    have r' : Vals ((ds.map (He.Dv.v K)).drop ds.length) vs := r
    rw [this] at r'
    cases r'
    rfl
  subst ev
  exact ⟨me, fd, F.ok S len fun cdv A outer s H vs Q E hr h => body cdv A outer s H vs Q E h hr (takes_of rfl rfl rfl rfl), b⟩
end
end Sa

/-! enumerate(tuple); slices and sums of tuples; membership. -/
namespace Sa
open PySem PySem.Spec PyProof.Rows L2
open Sem (wp)
theorem meets_enum_new1 {v : Value} {o : Obj} {H : Heap → Prop} (B : Begins v o H) :
    Meets (Builtin.«enumerate.__new__» ⟨[.type "enumerate", v], []⟩) (fun _ R s => H s.heap ∧
      R (.ok (.ret (.ref (s.heap.push o).objs.size))) { s with heap := (s.heap.push o).push { cls := .type "enumerate", data := .fields #[.none, .bool false, .ref s.heap.objs.size, rawInt 0, .none, .none] } }) :=
  .of_wp fun prog w A R s h => by
    obtain ⟨hp, g, d, tk, os⟩ := s; obtain ⟨h1, h⟩ := h
    have hsub := sub_enumerate
    have q1 : ∀ {A' : Around} {E : Value → Shared → Prop} {Q : Value → Shared → Prop}, Q (.ref hp.objs.size) ⟨hp.push o, g, d, tk, os⟩ → wpAny (model prog w) A' (pyIter v) Q E ⟨hp, g, d, tk, os⟩ :=
      fun q => B.iter prog w _ _ ⟨hp, g, d, tk, os⟩ _ h1 q
    wp_walk using q1
    refine wpAny_stack_any fun st => wpAny_pure ?_
    split
    · rename_i c _ _ _ _ _
      cases (c == Value.type "enumerate")
      · wp_walk using q1
        exact ⟨_, rfl, h⟩
      · wp_walk using q1
        exact ⟨_, rfl, h⟩
    · wp_walk using q1
      exact ⟨_, rfl, h⟩
theorem call_enum1 {prog : Program} {w : World} {A : Around} {E : Value → Shared → Prop} {s : Shared} {v : Value} {o : Obj} {H : Heap → Prop} {Q : Value → Shared → Prop} (B : Begins v o H) (h1 : H s.heap)
    (h : ∀ h', IsEnum h' (s.heap.objs.size + 1) s.heap.objs.size 0 .none → h'.get? s.heap.objs.size = some o → h'.objs.size = s.heap.objs.size + 2 →
      (∀ b o, s.heap.get? b = some o → h'.get? b = some o) → Q (.ref (s.heap.objs.size + 1)) { s with heap := h' }) :
    wpAny (model prog w) A (call (.type "enumerate") [v]) Q E s := by
  refine callType_new F.called_enumerate (by decide) (F.typeCall_enumerate_1 _) (F.newCall_enumerate_1 _) (fun obj => F.args_object_init_2 obj _) F.entry_enumerate_new
    (meets_enum_new1 B) ⟨h1, ?_⟩
  have hz : (s.heap.push o).objs.size = s.heap.objs.size + 1 := Heap.size_push ..
  show _ ∧ _
  rw [hz]
  have he : IsEnum ((s.heap.push o).push { cls := .type "enumerate", data := .fields #[.none, .bool false, .ref s.heap.objs.size, rawInt 0, .none, .none] }) (s.heap.objs.size + 1) s.heap.objs.size 0 .none := by
    have := Heap.get?_push_size (s.heap.push o) (o := { cls := .type "enumerate", data := .fields #[.none, .bool false, .ref s.heap.objs.size, rawInt 0, .none, .none] }) rfl
    rw [hz] at this; exact this
  refine ⟨⟨_, he, rfl⟩, h _ he (Heap.get?_push_of_some _ (Heap.get?_push_size _ B.free)) (by rw [Heap.size_push, hz]) fun b o x => Heap.get?_push_of_some _ (Heap.get?_push_of_some _ x)⟩
theorem pyNext_enum_endT {prog : Program} {w : World} {A : Around} {E : Value → Shared → Prop} {s : Shared} {e it t : Addr} {j : Int} {i : Nat} {items : Array Value} {old : Value} {Q : Option Value → Shared → Prop} (hh : A.handled = none)
    (he : IsEnum s.heap e it j old) (hit : s.heap.IsTupleIter it t i) (ht : s.heap.IsTuple t items) (hx : items[i]? = none)
    (hQ : ∀ h', Heap.ExtBut it s.heap h' → Q none { s with heap := h' }) : wpAny (model prog w) A (pyNext (.ref e)) Q E s := by
  have hT : s.TypeIs (.ref e) "enumerate" := ⟨_, he, rfl⟩
  unfold pyNext
  refine wpAny_bind (wpAny_attempt (wpAny_callSpecial?_slot (name := Str.ofString "__next__") hT F.slot_enumerate_next
    (wpAny_call_entry F.slot_enumerate_next hT F.entry_enumerate_next ?_ (F.args_enumerate_next_1 _))))
  show wpAny _ _ (field (.ref e) 2 >>= _) _ _ _
  refine wpAny_bind (wpAny_field he rfl (x := .ref it) rfl ?_)
  refine wpAny_bind (wpAny_nextOf_tuple_end (A := A.in1) hh hit ht hx fun h' x he' hx' => ?_)
  obtain ⟨o, ho, hc⟩ := hx'
  refine wpAny_bind (wpAny_isInstance (T := "StopIteration") (b := true) ⟨o, ho, hc⟩ isSubtype_stop ?_)
  exact wpAny_pure (hQ _ he')
/-- the tuple at a, each item in a new pair -/
def Iet (K : PySem.W.Frag) (a : Addr) : It :=
  ⟨fun i H => ∃ (xs : List V) (x : V), SqT K H a xs ∧ xs[i]? = some x, fun i H v H' => ∃ T x, v = .ref T ∧ H T = none ∧ H' = upd H T (.tup [.int (i : Nat), x]) ∧ ∀ xs, SqT K H a xs → xs[i]? = some x, fun i H => ∃ xs : List V, SqT K H a xs ∧ xs.length ≤ i⟩
theorem turn_enumT {P : Program} {w : World} {K : PySem.W.Frag} {elts : List Expr} {kk : Nat} {tpos : Pos} (a e it : Addr) :
    Turn P w K (.Tuple elts kk tpos) (Iet K a) [e, it] e (fun i h => (∃ old, IsEnum h e it ((i : Nat) : Int) old) ∧ h.IsTupleIter it a i ∧ e ≠ it ∧ e ≠ a ∧ a ≠ it) where
  mem := by simp
  obj := fun i h st b hb => by
    obtain ⟨⟨old, he⟩, ⟨o, ho, hc, hd⟩, _⟩ := st
    have e' : b = e ∨ b = it := by simpa using hb
    rcases e' with z | z
    · rw [z]; exact ⟨_, he, fun v q => nomatch q⟩
    · rw [z]; exact ⟨o, ho, fun v q => by rw [hd] at q; cases q⟩
  keep := fun i h h' st k => let ⟨⟨old, he⟩, hi, hne⟩ := st; ⟨⟨old, k e (by simp) _ he⟩, hi.at fun o q => k it (by simp) o q, hne⟩
  item := by
    intro X hP hw hK hc i pins s σ H E I hf st hg
    subst hP hw hK
    obtain ⟨⟨old, he⟩, hit, hne, hea, hai⟩ := st
    obtain ⟨xs, x, hq, hx⟩ := hg
    obtain ⟨its, rv, p, hz⟩ := I.tuple hq
    have p' : s.heap.IsTuple a its.toArray := p
    obtain ⟨u, hu, ru⟩ := rv.get hx
    have hel : e < s.heap.objs.size := Heap.lt_size he
    have hil : it < s.heap.objs.size := by obtain ⟨_, q, _⟩ := hit; exact Heap.lt_size q
    have hi : i < its.toArray.size := by rw [List.size_toArray]; exact (List.getElem?_eq_some_iff.mp hu).1
    refine wpAny_pyNext_enum_itemD (fp := [it, a]) (Draws.tuple (A := X.A.in1) (I.ok.hd hc) it a hai its.toArray) he ⟨hit, p'⟩ hi hne (by simp [hne, hea]) fun x2 h' tk hx2 ho hit' hT hsz hk => ?_
    have ex : x2 = u := by
      have : its.toArray[i]? = some x2 := hx2
      rw [List.getElem?_toArray, hu] at this
      exact (Option.some.inj this).symm
    subst ex
    refine ⟨_, rfl, wpAny_letOwnedTupleGo_enum (s := { s with heap := h', toks := tk + 1 }) ho fun h'' he' sb => ?_⟩
    have hT2 : h''.get? s.heap.objs.size = some { cls := .type "tuple", data := .seq #[.int i tk, x2] } := (sb.2 _ (Nat.ne_of_gt hel)).trans hT
    have new : ObjOk X.prog X.w (upd H s.heap.objs.size (.tup [.int (i : Nat), x])) h'' s.heap.objs.size (.tup [.int (i : Nat), x]) :=
      ⟨by show 2 ≤ sizeLine; decide, [.int i tk, x2], .cons ⟨_, rfl⟩ (.cons ru .nil), ⟨_, hT2, rfl, _, rfl⟩⟩
    have I1 : Inv X pins σ (upd H s.heap.objs.size (.tup [.int (i : Nat), x])) { s with heap := h'', toks := tk + 1 } :=
      I.turnedNew (ch := [e, it]) (fun b ob hb q => (sb.2 b (fun z => hb (by simp [z]))).trans (hk b ob (fun z => hb (by simp [z])) (fun z => hb (by simp [z])) q)) hf (Nat.le_refl _) new
    refine ⟨.ref s.heap.objs.size, _, I1, rfl, ⟨_, x, rfl, I.hok.fresh (Nat.le_refl _), rfl, fun ys hy => by rw [I.tuple_inj hy hq]; exact hx⟩, ⟨⟨x2, ?_⟩, hit'.1.at fun o q => (sb.2 it (Ne.symm hne)).trans q, hne, hea, hai⟩, fun b hb => ?_⟩
    · have e1 : ((i + 1 : Nat) : Int) = (i : Int) + 1 := by omega
      rw [e1]; exact he'
    · have hb' : b < s.heap.objs.size := by
        have e' : b = e ∨ b = it := by simpa using hb
        rcases e' with z | z
        · rw [z]; exact hel
        · rw [z]; exact hil
      rw [upd_ne (Nat.ne_of_lt hb')]
      exact (hf b hb).1
  done := by
    intro X hP hw hK hc i pins s σ H E I hf st hg
    subst hP hw hK
    obtain ⟨⟨old, he⟩, hit, hne, hea, hai⟩ := st
    obtain ⟨xs, hq, hx⟩ := hg
    obtain ⟨its, rv, p, hz⟩ := I.tuple hq
    have p' : s.heap.IsTuple a its.toArray := p
    obtain ⟨f0, f1, f2, f3, f4, f5⟩ := hf it (by simp)
    have hl := rv.length
    exact pyNext_enum_endT (A := X.A) (I.ok.hd hc) he hit p' (by rw [List.getElem?_toArray]; exact List.getElem?_eq_none (by omega)) fun h' eb => ⟨rfl, I.turned (t' := s.toks) (fun b o hb e => eb b o hb e) f0 f1 f3 f4 f5⟩
  self := fun A i s Q E st h => let ⟨⟨_, he⟩, _⟩ := st; wpAny_pyIter_enum he h
def iEnumT (K : PySem.W.Frag) (ta : TA) : TI := fun σ H R => ta σ H fun vs H1 => ∃ a xs, vs = [.ref a] ∧ SqT K H1 a xs ∧ R (Iet K a) H1
theorem pi_enumT {X : Cx} {K : PySem.W.Frag} {e : Expr} {ta : TA} {p pos tpos : Pos} {elts : List Expr} {kk : Nat} (hg : Gl X "enumerate") (hm : X.mg "enumerate" = none) (ha : PA X [e] ta) (hK : X.K = K := by rfl) (hs : starEach [e] X.env = [(false, eval e X.env)] := by rfl) :
    PI X (.Tuple elts kk tpos) (.Call (.Name "enumerate" p) [e] [] pos) (iEnumT K ta) := by
  subst hK
  refine ⟨fun pins s σ H R I h => ?_⟩
  refine Call_ (ld_blt I hg hm boot_enumerate (PyProof.Rows.callWith_type1 (thn (ha.run pos pins s σ H _ I h) fun us s1 ⟨vs, H1, I1, r1, q1⟩ => ?_) hs rfl))
  obtain ⟨a, xs, ex, hq, q⟩ := q1
  subst ex
  cases r1 with
  | cons r rr =>
    cases rr
    cases r
    obtain ⟨its, rv, p', hz⟩ := I1.tuple hq
    have p2 : s1.heap.IsTuple a its.toArray := p'
    have ha1 : a < s1.heap.objs.size := by obtain ⟨_, q, _⟩ := p2; exact Heap.lt_size q
    refine call_enum1 (begins_tuple a its.toArray) p2 fun h' he hit hsz hk => wpAny_pyIter_enum he ?_
    have I2 : Inv X pins σ H1 { s1 with heap := h' } := I1.kept (t' := s1.toks) hk
    refine ⟨s1.heap.objs.size + 1, [s1.heap.objs.size + 1, s1.heap.objs.size], _, _, H1, rfl, I2, turn_enumT a (s1.heap.objs.size + 1) s1.heap.objs.size, ⟨⟨.none, he⟩, ⟨_, hit, rfl, rfl⟩, Nat.succ_ne_self _, Nat.ne_of_gt (Nat.lt_succ_of_lt ha1), Nat.ne_of_lt ha1⟩, fun b hb => ?_, q⟩
    have e' : b = s1.heap.objs.size + 1 ∨ b = s1.heap.objs.size := by simpa using hb
    have hle : s1.heap.objs.size ≤ b := by
      rcases e' with z | z
      · rw [z]; exact Nat.le_add_right _ _
      · rw [z]; exact Nat.le_refl _
    exact I1.fpOk hle (I1.hok.fresh hle)
theorem itn_et {K : PySem.W.Frag} {a : Addr} {α : Type} {ys : List α} {u : α → V} : Itn (Iet K a) ys.length (fun H => SqT K H a (ys.map u)) (fun i x H H' => ∃ T y, x = .ref T ∧ New H T (.tup [.int (i : Nat), u y]) H' ∧ ys[i]? = some y) where
  go := fun i H ok hi => ⟨_, u (ys[i]), ok, by rw [List.getElem?_map, List.getElem?_eq_getElem hi]; rfl⟩
  stop := fun i H ok hi => ⟨_, ok, by rw [List.length_map]; exact hi⟩
  yld := fun i H x H' ok hi y => by
    obtain ⟨T, x', h1, h2, h3, h4⟩ := y
    have := h4 _ ok
    rw [List.getElem?_map] at this
    obtain ⟨y, e1, e2⟩ := Option.map_eq_some_iff.mp this
    subst e2
    exact ⟨T, y, h1, ⟨h2, h3⟩, e1⟩
  kp := fun i x H H' h => by
    obtain ⟨T, y, _, N, _⟩ := h
    exact N.kp
section
variable {K : PySem.W.Frag} {σ : L2.St} {H : Hp} {Q : VK} {R : It → Hp → Prop} {ta : TA} {a b : Addr} {xs ys : List V} {s z : Str}
theorem c_enumT (h : ta σ H fun vs H1 => ∃ a xs, vs = [.ref a] ∧ SqT K H1 a xs ∧ R (Iet K a) H1) : iEnumT K ta σ H R := h
/-! slices and sums of tuples: the tuple itself or a new one -/
theorem c_slT {lo hi : Option Int} (h : SqT K H a xs) (q : ∀ p H', Kp [] H H' → SqT K H' p (cutL xs lo hi) → Q (.ref p) H') : rSlU K (.ref a) lo hi H Q := by
  refine .inr (.inr ⟨a, xs, rfl, h, fun hw => ?_, fun _ p hp => ?_⟩)
  · refine q a H Kp.refl ?_
    have e : cutL xs lo hi = xs := by
      unfold cutL
      rw [hw.1, hw.2, List.drop_zero, Nat.sub_zero, List.take_length]
    rw [e]; exact h
  · exact q p _ (Kp.new hp) (SqT.of upd_same)
theorem c_addT (ha : SqT K H a xs) (hb : SqT K H b ys) (hl : xs.length + ys.length ≤ sizeLine) (q : ∀ p H', Kp [] H H' → SqT K H' p (xs ++ ys) → Q (.ref p) H') : rAddU K (.ref a) (.ref b) H Q := by
  refine .inr (.inr (.inr ⟨a, b, xs, ys, rfl, rfl, ha, hb, hl, fun h => ?_, fun _ h => ?_, fun _ _ p hp => q p _ (Kp.new hp) (SqT.of upd_same)⟩))
  · subst h; exact q b H Kp.refl hb
  · subst h; exact q a H Kp.refl (by rw [List.append_nil]; exact ha)
theorem inV_str (s : Str) : ∀ ys : List Str, inV (.str s) (ys.map V.str) = decide (s ∈ ys)
  | [] => by simp [inV]
  | y :: r => by
    have ih := inV_str s r
    unfold inV at ih ⊢
    rw [List.map_cons, List.any_cons, ih]
    by_cases h : s = y
    · subst h; simp [eqV]
    · have h2 : y ≠ s := fun e => h e.symm
      simp [eqV, h, h2]
theorem flat_strs (ys : List Str) : (ys.map V.str).all flatV = true := by rw [List.all_eq_true]; intro v hv; obtain ⟨y, _, rfl⟩ := List.mem_map.mp hv; rfl
theorem c_inSs {ys : List Str} (h : SqL K H a (ys.map V.str) ∨ SqT K H a (ys.map V.str)) (q : Q (.bl (decide (s ∈ ys))) H) : rInU K (.str s) (.ref a) H Q :=
  .inr (.inr ⟨a, _, rfl, h, rfl, flat_strs ys, by rw [inV_str]; exact q⟩)
theorem c_notInSs {ys : List Str} (h : SqL K H a (ys.map V.str) ∨ SqT K H a (ys.map V.str)) (q : Q (.bl (!decide (s ∈ ys))) H) : rNotInU K (.str s) (.ref a) H Q :=
  .inr (.inr ⟨a, _, rfl, h, rfl, flat_strs ys, by rw [inV_str]; exact q⟩)
/-- a text in a text -/
def occS (j i : Str) : Bool := !(Builtin.Str.occurrences j i 0 j.length 1).isEmpty
theorem c_inT (q : Q (.bl (occS z s)) H) : rInU K (.str s) (.str z) H Q := .inr (.inl ⟨s, z, rfl, rfl, q⟩)
end
end Sa

/-! Data in the heap: kept, opened; comprehensions and loops that make data. -/
namespace Sa
open PySem L2
/-! ## tuples stay what they are -/
/-- all tuples are kept -/
def Kt (H H' : Hp) : Prop := ∀ a xs, Rd H a (.tup xs) → Rd H' a (.tup xs)
section
variable {K : PySem.W.Frag} {H H' H1 H2 : Hp} {a b : Addr} {v : V} {xs : List V} {d e : PyData} {ds : List PyData} {o : HO}
theorem Kt.refl : Kt H H := fun _ _ h => h
theorem Kt.trans (e : Kt H H1) (f : Kt H1 H2) : Kt H H2 := fun a xs h => f a xs (e a xs h)
theorem Kp.kt (e : Kp [] H H') : Kt H H' := fun a xs h => rd_at (fun o ho => e.at0 ho) h
/-- what is no tuple -/
def NoT (H : Hp) (b : Addr) : Prop := ∀ xs, ¬ Rd H b (.tup xs)
theorem NoT.none (h : H b = none) : NoT H b := fun xs r => by rcases r with r | ⟨o, r⟩ <;> rw [h] at r <;> cases r
theorem NoT.lst {ys : List V} (h : H b = some (.lst ys)) : NoT H b := fun xs r => by rcases r with r | ⟨o, r⟩ <;> rw [h] at r <;> cases r
theorem NoT.dK {ys : List (Key × V)} (h : H b = some (.dK ys)) : NoT H b := fun xs r => by rcases r with r | ⟨o, r⟩ <;> rw [h] at r <;> cases r
theorem NoT.ins {C dx : Addr} {fs : List (Str × V)} (h : H b = some (.ins C dx fs)) : NoT H b := fun xs r => by rcases r with r | ⟨o, r⟩ <;> rw [h] at r <;> cases r
theorem NoT.of (h : H b = some o) (h1 : ∀ xs, o ≠ .tup xs) (h2 : ∀ u xs, o ≠ .frz u (.tup xs)) : NoT H b := fun xs r => by
  rcases r with r | ⟨u, r⟩ <;> rw [h] at r <;> injection r with r
  · exact h1 xs r
  · exact h2 u xs r
theorem Kt.upd1 (n : NoT H b) : Kt H (upd H b o) := fun a xs h => by
  by_cases hz : a = b
  · subst hz; exact absurd h (n xs)
  · exact rd_at (fun o ho => by rw [upd_ne hz]; exact ho) h
theorem Kp.kt1 (e : Kp [b] H H') (n : NoT H b) : Kt H H' := fun a xs h => by
  by_cases hz : a = b
  · subst hz; exact absurd h (n xs)
  · exact rd_at (fun o ho => e.at1 hz ho) h
theorem Bx.noT {d : Addr} (B : Bx H b d) : NoT H b := by
  obtain ⟨_, _, h, _⟩ := B.ex
  exact NoT.lst h
theorem Bx.kt {d : Addr} (B : Bx H b d) (e : Kp [b] H H') : Kt H H' := e.kt1 B.noT
theorem SqT.kt (e : Kt H H') (h : SqT K H a xs) : SqT K H' a xs := h.imp (e a xs) id
mutual
inductive Dt (K : PySem.W.Frag) (H : Hp) : V → PyData → Prop
  | non : Dt K H .non .none
  | bl (b : Bool) : Dt K H (.bl b) (.bool b)
  | int (i : Int) : Dt K H (.int i) (.int i)
  | str (x : Str) : Dt K H (.str x) (.str x)
  | tup {a : Addr} {xs : List V} {ds : List PyData} : SqT K H a xs → DtAll K H xs ds → Dt K H (.ref a) (.tuple ds)
inductive DtAll (K : PySem.W.Frag) (H : Hp) : List V → List PyData → Prop
  | nil : DtAll K H [] []
  | cons {v : V} {vs : List V} {d : PyData} {ds : List PyData} : Dt K H v d → DtAll K H vs ds → DtAll K H (v :: vs) (d :: ds)
end
mutual
theorem Dt.kt : ∀ {v : V} {d : PyData}, Kt H H' → Dt K H v d → Dt K H' v d
  | _, _, _, .non => .non
  | _, _, _, .bl b => .bl b
  | _, _, _, .int i => .int i
  | _, _, _, .str x => .str x
  | _, _, k, .tup h hs => .tup (SqT.kt k h) (DtAll.kt k hs)
theorem DtAll.kt : ∀ {vs : List V} {ds : List PyData}, Kt H H' → DtAll K H vs ds → DtAll K H' vs ds
  | _, _, _, .nil => .nil
  | _, _, k, .cons h hs => .cons (Dt.kt k h) (DtAll.kt k hs)
end
mutual
theorem Dt.dp : ∀ {v : V} {d : PyData}, Dt K H v d → Dp K H v d
  | _, _, .non => .non
  | _, _, .bl b => .bl b
  | _, _, .int i => .int i
  | _, _, .str x => .str x
  | _, _, .tup h hs => .tup h (DtAll.dp hs)
theorem DtAll.dp : ∀ {vs : List V} {ds : List PyData}, DtAll K H vs ds → DpAll K H vs ds
  | _, _, .nil => .nil
  | _, _, .cons h hs => .cons (Dt.dp h) (DtAll.dp hs)
end
mutual
/-- no lists in it -/
def tupD : PyData → Bool
  | .none | .bool _ | .int _ | .str _ => true
  | .tuple ds => tupDs ds
  | .list _ | .dict _ => false
def tupDs : List PyData → Bool
  | [] => true
  | d :: ds => tupD d && tupDs ds
end
mutual
theorem Dt.of : ∀ {v : V} {d : PyData}, Dp K H v d → tupD d = true → Dt K H v d
  | _, _, .non, _ => .non
  | _, _, .bl b, _ => .bl b
  | _, _, .int i, _ => .int i
  | _, _, .str x, _ => .str x
  | _, _, .lst h hs, z => by unfold tupD at z; cases z
  | _, _, .tup h hs, z => .tup h (DtAll.of hs (by unfold tupD at z; exact z))
theorem DtAll.of : ∀ {vs : List V} {ds : List PyData}, DpAll K H vs ds → tupDs ds = true → DtAll K H vs ds
  | _, _, .nil, _ => .nil
  | _, _, .cons h hs, z => by
    unfold tupDs at z
    rw [Bool.and_eq_true] at z
    exact .cons (Dt.of h z.1) (DtAll.of hs z.2)
end
theorem Dt.kp (h : Dt K H v d) (e : Kp [] H H') : Dt K H' v d := Dt.kt e.kt h
theorem DtAll.kp (h : DtAll K H xs ds) (e : Kp [] H H') : DtAll K H' xs ds := DtAll.kt e.kt h
theorem dt_tup (h : Dt K H v (.tuple ds)) : ∃ a xs, v = .ref a ∧ SqT K H a xs ∧ DtAll K H xs ds := by
  cases h with
  | tup h1 h2 => exact ⟨_, _, rfl, h1, h2⟩
theorem dt_str {s : Str} (h : Dt K H v (.str s)) : v = .str s := by cases h; rfl
theorem dt_int {i : Int} (h : Dt K H v (.int i)) : v = .int i := by cases h; rfl
theorem dt_none (h : Dt K H v .none) : v = .non := by cases h; rfl
theorem dta_nil (h : DtAll K H xs []) : xs = [] := by cases h; rfl
theorem dta_cons (h : DtAll K H xs (d :: ds)) : ∃ v vs, xs = v :: vs ∧ Dt K H v d ∧ DtAll K H vs ds := by
  cases h with
  | cons h1 h2 => exact ⟨_, _, rfl, h1, h2⟩
theorem dta_strs : ∀ {ys : List Str} {xs : List V}, DtAll K H xs (ys.map PyData.str) → xs = ys.map V.str
  | [], xs, h => dta_nil h
  | y :: r, xs, h => by
    obtain ⟨v, vs, rfl, h1, h2⟩ := dta_cons h
    rw [dt_str h1, dta_strs h2]
    rfl
theorem dta_of_strs : ∀ ys : List Str, DtAll K H (ys.map V.str) (ys.map PyData.str)
  | [] => .nil
  | y :: r => .cons (.str y) (dta_of_strs r)
theorem dta_len : ∀ {ds : List PyData} {xs : List V}, DtAll K H xs ds → xs.length = ds.length
  | [], xs, h => by rw [dta_nil h]; rfl
  | d :: r, xs, h => by
    obtain ⟨v, vs, rfl, h1, h2⟩ := dta_cons h
    rw [List.length_cons, List.length_cons, dta_len h2]
theorem dta_app {ys : List V} {es : List PyData} : ∀ {xs : List V} {ds : List PyData}, DtAll K H xs ds → DtAll K H ys es → DtAll K H (xs ++ ys) (ds ++ es)
  | [], ds, h, g => by cases h; exact g
  | x :: r, ds, h, g => by
    cases h with
    | cons h1 h2 => exact .cons h1 (dta_app h2 g)
theorem dta_snoc {xs : List V} {ds : List PyData} (h : DtAll K H xs ds) (g : Dt K H v d) : DtAll K H (xs ++ [v]) (ds ++ [d]) := dta_app h (.cons g .nil)
theorem dta_get : ∀ {xs : List V} {ds : List PyData} {i : Nat} {d : PyData}, DtAll K H xs ds → ds[i]? = some d → ∃ v, xs[i]? = some v ∧ Dt K H v d
  | [], ds, i, d, h, g => by cases h; simp at g
  | x :: r, ds, i, d, h, g => by
    cases h with
    | cons h1 h2 =>
      cases i with
      | zero => simp at g; subst g; exact ⟨x, rfl, h1⟩
      | succ i =>
        have q := dta_get (xs := r) (i := i) h2 g
        exact q
theorem dta_take {xs : List V} {ds : List PyData} (n : Nat) (h : DtAll K H xs ds) : DtAll K H (xs.take n) (ds.take n) := by
  induction n generalizing xs ds with
  | zero => exact .nil
  | succ n ih =>
    cases h with
    | nil => exact .nil
    | cons h1 h2 => exact .cons h1 (ih h2)
theorem dta_drop {xs : List V} {ds : List PyData} (n : Nat) (h : DtAll K H xs ds) : DtAll K H (xs.drop n) (ds.drop n) := by
  induction n generalizing xs ds with
  | zero => exact h
  | succ n ih =>
    cases h with
    | nil => exact .nil
    | cons h1 h2 => exact ih h2
theorem dta_cut {xs : List V} {ds : List PyData} (lo hi : Option Int) (h : DtAll K H xs ds) : DtAll K H (cutL xs lo hi) (cutL ds lo hi) := by
  unfold cutL
  rw [dta_len h]
  exact dta_take _ (dta_drop _ h)
/-- rows of texts as data -/
def strsD (ys : List Str) : PyData := .tuple (ys.map PyData.str)
theorem dt_strs {ys : List Str} (h : SqT K H a (ys.map V.str)) : Dt K H (.ref a) (strsD ys) := .tup h (dta_of_strs ys)
theorem strsD_of {ys : List Str} (h : Dt K H v (strsD ys)) : ∃ a, v = .ref a ∧ SqT K H a (ys.map V.str) := by
  obtain ⟨a, xs, rfl, h1, h2⟩ := dt_tup h
  rw [dta_strs h2] at h1
  exact ⟨a, rfl, h1⟩
theorem strsD_at {ys : List Str} (h : Dt K H (.ref a) (strsD ys)) : SqT K H a (ys.map V.str) := by
  obtain ⟨b, e, h1⟩ := strsD_of h
  injection e with e
  subst e
  exact h1
end
/-! ## texts sorted -/
def sortS (ys : List Str) : List Str := (sortF (ys.map fun y => (y, ()))).map Prod.fst
theorem map_fst (ys : List Str) : (ys.map fun y => (y, ())).map Prod.fst = ys := by rw [List.map_map]; exact List.map_id ys
theorem sortS_perm (ys : List Str) : (sortS ys).Perm ys := by
  have := (sortF_perm (ys.map fun y => (y, ()))).map Prod.fst
  rw [map_fst] at this
  exact this
theorem sortS_asc (ys : List Str) : (sortS ys).Pairwise leS := sortF_asc _
theorem sortS_of {ys zs : List Str} (h : ys.Perm zs) (hs : PyProof.Rows.sortedS ys = true) : ys = sortS zs := sorted_eq (h.trans (sortS_perm zs).symm) (sorted_pair hs) (sortS_asc zs)
theorem sortS_congr {ys zs : List Str} (h : ys.Perm zs) : sortS ys = sortS zs := sorted_eq ((sortS_perm ys).trans (h.trans (sortS_perm zs).symm)) (sortS_asc ys) (sortS_asc zs)
theorem sortS_id {ys : List Str} (h : ys.Pairwise leS) : sortS ys = ys := sorted_eq (sortS_perm ys) (sortS_asc ys) h
theorem sortS_len (ys : List Str) : (sortS ys).length = ys.length := (sortS_perm ys).length_eq
theorem c_sortedS {K : PySem.W.Frag} {H : Hp} {Q : VK} {a : Addr} {xs : List Str} (h : SqL K H a (xs.map V.str)) (hl : xs.length < 64) (q : ∀ p H', New H p (.lst ((sortS xs).map V.str)) H' → Q (.ref p) H') : rSortedS K [.ref a] H Q :=
  ⟨a, xs, rfl, h, hl, fun ys p hp hs hf => by rw [sortS_of hp hs]; exact q p _ ⟨hf, rfl⟩⟩
/-! ## comprehensions that make data -/
section
variable {K : PySem.W.Frag} {σ : St} {H : Hp} {g : TG} {tt : TT} {te : TE} {n : Nat} {Q : VK} {vs : List Nat} {J : It} {ok : Hp → Prop} {Y : Nat → V → Hp → Hp → Prop}
theorem range_filter_succ (p : Nat → Bool) (i : Nat) : (List.range (i + 1)).filter p = (List.range i).filter p ++ (if p i = true then [i] else []) := by
  rw [List.range_succ, List.filter_append]
  congr 1
  by_cases h : p i = true <;> simp [h]
theorem lcQ_dt (I : Itn J n ok Y) (f : Nat → PyData) (p : Nat → Bool) (hz : n ≤ 16777216) (hok : ∀ H', Kp [] H H' → ok H')
    (hs : ∀ i x H' H'' R S, i < n → Kp [] H H' → Y i x H' H'' → (p i = true → ∀ v H4, Kp [] H'' H4 → Dt K H4 v (f i) → R v H4) → (p i = false → ∀ H4, Kp [] H'' H4 → S H4) → LcM g tt te vs σ R S x H'')
    (hd : ∀ Dl ws H', H Dl = none → Kp [] H H' → H' Dl = some (.lst ws) → DtAll K H' ws (((List.range n).filter p).map f) → Q (.ref Dl) H') : LcJ J g tt te vs σ H Q := by
  refine lcQ I (fun Dl i acc H' => Kp [] H H' ∧ DtAll K H' acc (((List.range i).filter p).map f)) (fun Dl hD => ⟨Kp.new hD, .nil⟩) (fun Dl i acc H' hD e => hok H' e.1) ?_ ?_
  · rintro Dl i x acc H' H'' hD hi hacc hl ⟨e, hds⟩ y
    have k := I.kp i x H' H'' y
    refine hs i x H' H'' _ _ hi e y (fun hp v H4 e4 hv => ?_) (fun hp H4 e4 => ?_)
    · have ha4 := e4.at0 (k.at0 hacc)
      have kt : Kt H4 (upd H4 Dl (.lst (acc ++ [v]))) := Kt.upd1 (NoT.lst ha4)
      refine lc_push ha4 hl (by omega) ⟨((e.trans k).trans e4).fresh_mut hD, ?_⟩
      rw [range_filter_succ, if_pos hp, List.map_append]
      exact dta_snoc (DtAll.kt ((k.kt.trans e4.kt).trans kt) hds) (Dt.kt kt hv)
    · have ha4 := e4.at0 (k.at0 hacc)
      refine lc_skip ha4 hl ⟨(e.trans k).trans e4, ?_⟩
      rw [range_filter_succ, hp, if_neg Bool.false_ne_true, List.append_nil]
      exact DtAll.kt (k.kt.trans e4.kt) hds
  · rintro Dl acc H' hD hacc hl ⟨e, hds⟩
    exact hd Dl acc H' hD e hacc hds
theorem lcQ_fil (I : Itn J n ok Y) (f : Nat → V) (p : Nat → Bool) (hz : n ≤ 16777216) (hok : ∀ H', Kp [] H H' → ok H')
    (hs : ∀ i x H' H'' R S, i < n → Kp [] H H' → Y i x H' H'' → (p i = true → ∀ H4, Kp [] H'' H4 → R (f i) H4) → (p i = false → ∀ H4, Kp [] H'' H4 → S H4) → LcM g tt te vs σ R S x H'')
    (hd : ∀ Dl H', H Dl = none → Kp [] H H' → H' Dl = some (.lst (((List.range n).filter p).map f)) → Q (.ref Dl) H') : LcJ J g tt te vs σ H Q := by
  refine lcQ I (fun Dl i acc H' => Kp [] H H' ∧ acc = ((List.range i).filter p).map f) (fun Dl hD => ⟨Kp.new hD, rfl⟩) (fun Dl i acc H' hD e => hok H' e.1) ?_ ?_
  · rintro Dl i x acc H' H'' hD hi hacc hl ⟨e, rfl⟩ y
    have k := I.kp i x H' H'' y
    refine hs i x H' H'' _ _ hi e y (fun hp H4 e4 => ?_) (fun hp H4 e4 => ?_)
    · refine lc_push (e4.at0 (k.at0 hacc)) hl (by omega) ⟨((e.trans k).trans e4).fresh_mut hD, ?_⟩
      rw [range_filter_succ, if_pos hp, List.map_append]
      rfl
    · refine lc_skip (e4.at0 (k.at0 hacc)) hl ⟨(e.trans k).trans e4, ?_⟩
      rw [range_filter_succ, hp, if_neg Bool.false_ne_true, List.append_nil]
  · rintro Dl acc H' hD hacc hl ⟨e, rfl⟩
    exact hd Dl H' hD e hacc
end
/-! ## a text parted -/
section
variable {X : Cx} {H : Hp} {Q : VK} {s z : Str} {to te : TE} {o e : Expr}
def rPartU : V → List V → Hp → VK → Prop := fun x xs H Q => ∃ a b, x = .str a ∧ xs = [.str b] ∧ (b.length == 0) = false ∧ a.length ≤ sizeLine ∧
  ∀ p, H p = none → Q (.ref p) (upd H p (.tup [.str (Txt.partition a b).1, .str (Txt.partition a b).2.1, .str (Txt.partition a b).2.2]))
theorem pe_partitionU {apos pos : Pos} (ho : PE X o to) (he : PE X e te) (hs : starEach [e] X.env = [(false, eval e X.env)] := by rfl) (hbase : attributeBase o "partition" X.env (eval o X.env) = eval o X.env := by rfl) (hline : (apos.endLine == pos.line) = true := by rfl) :
    PE X (.Call (.Attribute o "partition" apos) [e] [] pos) (tM1 rPartU to te) := pe_partition ho he hs hbase hline
theorem c_parti (h0 : (z.length == 0) = false) (hl : s.length ≤ sizeLine) (q : ∀ p H', New H p (.tup [.str (Txt.partition s z).1, .str (Txt.partition s z).2.1, .str (Txt.partition s z).2.2]) H' → Q (.ref p) H') : rPartU (.str s) [.str z] H Q :=
  ⟨s, z, rfl, rfl, h0, hl, fun p hp => q p _ ⟨hp, rfl⟩⟩
theorem cutS_len (x : Str) (lo hi : Option Int) : (cutS x lo hi).length ≤ x.length := by
  rw [txt_of x, cutS_txt, txt_len, txt_len, List.length_take, List.length_drop]
  omega
end
end Sa

/-! Dicts: walks of keys, look-ups. -/
namespace Sa
open PySem L2
section
variable {K : PySem.W.Frag} {H H' H1 : Hp} {d a : Addr} {u : HO} {od : Obj} {kvs : List (Key × V)}
theorem lock_kp (h : H d = some u) (e : Kp [] (upd H d (.frz od u)) H') : Kp [] H (upd H' d u) := fun b o _ hb => by
  by_cases z : b = d
  · subst z; rw [upd_same, ← hb, h]
  · rw [upd_ne z]; exact e.at0 (by rw [upd_ne z]; exact hb)
theorem lock_kpm {b : Addr} (h : H d = some u) (n : d ≠ b) (e : Kp [b] (upd H d (.frz od u)) H') : Kp [b] H (upd H' d u) := fun c o hc hb => by
  by_cases z : c = d
  · subst z; rw [upd_same, ← hb, h]
  · rw [upd_ne z]; exact e c o hc (by rw [upd_ne z]; exact hb)
theorem lock_back : upd (upd H d (.frz od u)) d u = upd H d u := by rw [upd_upd]
theorem upd_self (h : H d = some u) : upd H d u = H := by
  funext b
  by_cases z : b = d
  · subst z; rw [upd_same, h]
  · rw [upd_ne z]
theorem itn_k {α : Type} {ys : List α} {f : α → Key} {g : α → V} : Itn (Itk d od (ys.map fun y => (f y, g y))) ys.length (fun H => H d = some (.frz od (.dK (ys.map fun y => (f y, g y))))) (Yq ys fun y => kV (f y)) where
  go := fun i H ok hi => ⟨ok, by rw [List.length_map]; exact hi⟩
  stop := fun i H ok hi => ⟨ok, by rw [List.length_map]; exact hi⟩
  yld := fun i H x H' ok hi y => by
    obtain ⟨e, k, v, h1, h2⟩ := y
    rw [List.getElem?_map] at h1
    obtain ⟨z, hz, e2⟩ := Option.map_eq_some_iff.mp h1
    injection e2 with e3 e4
    exact ⟨e, z, hz, by rw [h2, ← e3]⟩
  kp := fun i x H H' h => by rw [h.1]; exact Kp.refl
theorem Kt.lock {kvs : List (Key × V)} (h : H d = some (.dK kvs)) : Kt H (upd H d (.frz od (.dK kvs))) := Kt.upd1 (NoT.dK h)
theorem c_lockF {t : TS} {D : Ends} {σ : St} {kvs : List (Key × V)} (h : H d = some (.dK kvs)) (q : ∀ od, t ⟨fun σ' H' => H' d = some (.frz od (.dK kvs)) ∧ D.nx σ' (upd H' d (.dK kvs)), fun v H' => H' d = some (.frz od (.dK kvs)) ∧ D.rt v (upd H' d (.dK kvs)),
    fun σ' H' => H' d = some (.frz od (.dK kvs)) ∧ D.bk σ' (upd H' d (.dK kvs)), fun σ' H' => H' d = some (.frz od (.dK kvs)) ∧ D.ct σ' (upd H' d (.dK kvs))⟩ σ (upd H d (.frz od (.dK kvs)))) : tLock t D σ H := ⟨d, .dK kvs, h, trivial, q⟩
theorem c_lockE {t : TE} {Q : VK} {σ : St} {kvs : List (Key × V)} (h : H d = some (.dK kvs)) (q : ∀ od, t σ (upd H d (.frz od (.dK kvs))) fun v H' => H' d = some (.frz od (.dK kvs)) ∧ Q v (upd H' d (.dK kvs))) : tLockE t σ H Q := ⟨d, .dK kvs, h, trivial, q⟩
theorem c_iKeys {td : TE} {R : It → Hp → Prop} {σ : St} (h : td σ H fun x H1 => ∃ d o, x = .ref d ∧ ((∃ kvs, H1 d = some (.frz o (.dK kvs)) ∧ R (Itk d o kvs) H1) ∨ ∃ kvs, H1 d = some (.frz o (.dT kvs)) ∧ R (Itkt d o kvs) H1)) : iKeys td σ H R := h
theorem c_keysAt {g : TG} {tb : TS} {D : Ends} {σ : St} {od : Obj} {kvs : List (Key × V)} (h : H d = some (.frz od (.dK kvs))) (q : ForJ (Itk d od kvs) g tb D σ H) :
    ∃ d' o, V.ref d = .ref d' ∧ ((∃ kvs, H d' = some (.frz o (.dK kvs)) ∧ ForJ (Itk d' o kvs) g tb D σ H) ∨ ∃ kvs, H d' = some (.frz o (.dT kvs)) ∧ ForJ (Itkt d' o kvs) g tb D σ H) := ⟨d, od, rfl, .inl ⟨kvs, h, q⟩⟩
theorem c_keysAtC {g : TG} {tt : TT} {te : TE} {vs : List Nat} {Q : VK} {σ : St} {od : Obj} {kvs : List (Key × V)} (h : H d = some (.frz od (.dK kvs))) (q : LcJ (Itk d od kvs) g tt te vs σ H Q) :
    ∃ d' o, V.ref d = .ref d' ∧ ((∃ kvs, H d' = some (.frz o (.dK kvs)) ∧ LcJ (Itk d' o kvs) g tt te vs σ H Q) ∨ ∃ kvs, H d' = some (.frz o (.dT kvs)) ∧ LcJ (Itkt d' o kvs) g tt te vs σ H Q) := ⟨d, od, rfl, .inl ⟨kvs, h, q⟩⟩
/-! y in d -/
def DinK (neg : Bool) (x y : V) (H : Hp) (Q : VK) : Prop := ∃ a o, x = .ref a ∧ DGet H a y o ∧ Q (.bl (if neg then !o.isSome else o.isSome)) H
theorem c_din {ty td : TE} {σ : St} {Q : VK} (h : ty σ H fun y H1 => td σ H1 fun x H2 => DinK false x y H2 Q) : tDIn ty td σ H Q := h
theorem c_dnotin {ty td : TE} {σ : St} {Q : VK} (h : ty σ H fun y H1 => td σ H1 fun x H2 => DinK true x y H2 Q) : tDNotIn ty td σ H Q := h
def DGetK (x y : V) (H : Hp) (Q : VK) : Prop := ∃ a v, x = .ref a ∧ DGet H a y (some v) ∧ Q v H
theorem c_dgetK {H : Hp} {td ty : TE} {σ : St} {Q : VK} (h : td σ H fun x H1 => ty σ H1 fun y H2 => DGetK x y H2 Q) : tDGet td ty σ H Q := h
/-! d[y] = v -/
theorem c_dput {td ty tv : TE} {D : Ends} {σ : St} (h : tv σ H fun v H1 => td σ H1 fun x H2 => ty σ H2 fun y H3 => ∃ a H4, x = .ref a ∧ DPut H3 a y v H4 ∧ D.nx σ H4) : sDPut td ty tv D σ H := h
theorem c_dputAt {v : V} {k : Str} {kvs : List (Key × V)} {R : Hp → Prop} (h : H d = some (.dK kvs)) (hl : kvs.length < sizeLine) (q : R (upd H d (.dK (putK kvs (Sum.inr k) v)))) : ∃ a H4, V.ref d = .ref a ∧ DPut H a (.str k) v H4 ∧ R H4 := ⟨d, _, rfl, .inl ⟨kvs, Sum.inr k, h, rfl, hl, rfl⟩, q⟩
theorem c_dnew {Q : VK} {σ : St} (q : ∀ p H', New H p (.dK []) H' → Q (.ref p) H') : tDNewK σ H Q := fun p hp => q p _ ⟨hp, rfl⟩
theorem c_disp {trs : List (TE × TE)} {σ : St} {Q : VK} (h : ∀ p, H p = none → tPairs trs σ (upd H p (.dK [])) fun ps H2 => H2 p = some (.dK []) ∧ ∃ kvs : List (Key × V), ps = kvs.map (fun kv => (kV kv.1, kv.2)) ∧ kvs.length ≤ 15 ∧ Q (.ref p) (upd H2 p (.dK (mergeK [] kvs)))) : tDisp trs σ H Q := h
theorem c_pNil {σ : St} {Q : List (V × V) → Hp → Prop} (h : Q [] H) : tPairs [] σ H Q := h
theorem c_pCons {tk tv : TE} {r : List (TE × TE)} {σ : St} {Q : List (V × V) → Hp → Prop} (h : tk σ H fun x H1 => tv σ H1 fun y H2 => tPairs r σ H2 fun ps H3 => Q ((x, y) :: ps) H3) : tPairs ((tk, tv) :: r) σ H Q := h
/-! != of rows of texts -/
theorem c_neLS {K : PySem.W.Frag} {Q : VK} {a b : Addr} {ys zs : List Str} (ha : SqL K H a (ys.map V.str)) (hb : SqL K H b (zs.map V.str)) (h1 : ∀ y ∈ ys, okS y = true) (h2 : ∀ y ∈ zs, okS y = true) (q : Q (.bl (!decide (ys = zs))) H) : rNeU K (.ref a) (.ref b) H Q :=
  c_neD (dp_strs ha) (dp_strs hb) (shaped_strsL h1) (shaped_strsL h2) (by rw [PyData.eqv, eqvAll_strs]; exact q)
end
end Sa

/-! A new instance whose one argument is left to its default. -/
namespace Sa
open PySem L2
/-- how a method of two parameters binds where the second is left out -/
def BindD0 (m q : Str) (st : Stmt) (ps : List Str) : Prop := ∀ (T : Addr) (kV doc pm : Value) (an : Option Addr) (cdv ct : Value) (us its : List Value), us.length = 1 → its.length = 1 →
  ∃ k, bindArgs (PySem.W.fnOf m q (defArgs st) (defBody st) (defScope st) (.ref T) kV doc pm an cdv ct) ⟨us, []⟩ = seqItems? (.ref T) >>= k ∧ k (some its.toArray) = pure (ps.zip (us ++ its))
structure MethD (P : Program) (w : World) (K : PySem.W.Frag) (mg : Str → Option Value) (base : Heap) (CX : CXT) (C m : Str) (k : Nat) (ps : List Str) (sp : Sp) (dv : V) : Prop where
  me : Meth K (He.ga K C) m (He.ma K (He.ga K C) m)
  ok : ∃ fd u, FnOk P w K mg base CX k (He.ma K (He.ga K C) m) fd ps sp ∧ Binds K fd ps [u] ∧ RelV dv u
section
variable {P : Program} {w : World} {K : PySem.W.Frag} {mg : Str → Option Value} {base : Heap}
theorem Tx.cstA {fa : List He.Fa} {fn : List He.DefD} {fx : List Fx} (T : Tx fa fn fx K mg) (i : Nat) {p : PySem.W.Frag → Addr} {d : PyData} (h : fx[i]? = some (.cstA p d)) (H : Hp) : Dp K H (.ref (p K)) d := cst_ref (T.fx i h) H
theorem meth_ofXD0 {fa : List He.Fa} {fn : List He.DefD} {fx : List Fx} (T : Tx fa fn fx K mg) (i j : Nat) {C m q : Str} {st : Stmt} {N ps : List Str} {k : Nat} {sp : Sp} {d : He.Dv} (S : FnScope N ps (defScope st)) (B : BindD0 m q st ps) (h2 : ps.length = 2)
    (len : ∀ vs H Q E, sp vs H Q E → vs.length = ps.length) (body : BodyMX P w K mg base C m q st N k sp) (hd : fn[i]? = some (dOfMd C m q st [d]) := by rfl) (hg : fa[j]? = some (.meth C m) := by rfl) : MethD P w K mg base (L2.CX P w) C m (k + 1) ps sp (He.Dv.v K d) := by
  have me := He.meth_ok (T.fact j hg)
  obtain ⟨hp, X, G, c, _⟩ := T
  obtain ⟨fd, F⟩ := c.def_ i hd
  obtain ⟨vs, r, b⟩ := F.binds1 (ps := ps) 1 0 (List.cons_ne_nil _ _) (by show 1 + (1 - 0) = ps.length; rw [h2]) (fun T kV doc pm an cdv ct us its h1 h2 => by
    obtain ⟨k, e1, e2⟩ := B T kV doc pm an cdv ct us its h1 h2
    exact ⟨k, e1, e2⟩)
  have r' : Vals [He.Dv.v K d] vs := r
  cases r' with
  | cons r1 r2 =>
    cases r2
    exact ⟨me, fd, _, F.ok S len fun cdv A outer s H vs Q E hr h => body cdv A outer s H vs Q E h hr (takes_of rfl rfl rfl rfl), b, r1⟩
end
/-- C() where the default stands for its argument -/
def tNewD (K : PySem.W.Frag) (C : Str) (sp : Sp) (dv : V) (E : St → XK) : TE := fun σ H Q => NewK K C sp [dv] H Q (E σ)
theorem c_newD {K : PySem.W.Frag} {C : Str} {sp : Sp} {dv : V} {E : St → XK} {σ : St} {H : Hp} {Q : VK} (h : NewK K C sp [dv] H Q (E σ)) : tNewD K C sp dv E σ H Q := h
section
variable {X : Cx} {CX : CXT} {K : PySem.W.Frag} {C : Str} {k j : Nat} {ps : List Str} {sp : Sp} {dv : V} {E : St → XK} {p pos : Pos}
theorem pe_newD (M : MethD X.prog X.w X.K X.mg X.base CX C "__init__" j ps sp dv) (mk : Mk X.K (He.ga X.K C) (He.ma X.K (He.ga X.K C) "__init__")) (c : ClsAt X.K X.mg C) (hr : Room (k + 1) X.A) (hx : ∀ σ, PassesAt CX X σ (E σ))
    (hjk : j ≤ k := by decide) (hK : X.K = K := by rfl) (hg : Gl X C := by rfl)
    (hdb : (C == ("__debug__" : Str)) = false := by decide) :
    PE X (.Call (.Name C p) [] [] pos) (tNewD K C sp dv E) := by
  subst hK
  obtain ⟨fd, u0, F0, B, rd⟩ := M.ok
  have F := F0.mono hjk
  refine ⟨fun pins s σ H Q I q => ?_⟩
  refine wpAny_Call_Name_kw (ld_glob I hg c.gl ?_ hdb)
  refine PySem.W.callWith_K0 I.kIn mk.kp ?_
  have hq := q (s.heap.objs.size + 1) s.heap.objs.size (I.hok.fresh (Nat.le_succ _)) (I.hok.fresh (Nat.le_refl _)) (Nat.ne_of_lt (Nat.lt_succ_self _))
  have I2 := Inv.made (C := He.ga X.K C) I
  have r2 : Vals [V.ref (s.heap.objs.size + 1), dv] [Value.ref (s.heap.objs.size + 1), u0] := .cons rfl (.cons rd .nil)
  have hl : ([Value.ref (s.heap.objs.size + 1)] ++ [u0]).length = ps.length := by
    have := F.len _ _ _ _ hq
    rw [← this]
    rfl
  have b := B _ [Value.ref (s.heap.objs.size + 1)] I2.kIn hl
  refine wpAny_call (make_map (f := He.ma X.K (He.ga X.K C) "__init__") I.kIn mk.makes mk.init (beq_iff_eq.mp mk.fn) (codeAny_mono (F.run _ X.stack _ _ ⟨[Value.ref (s.heap.objs.size + 1)], []⟩ [Value.ref (s.heap.objs.size + 1), u0] _ _ (E σ)
    (hr.make (He.ga X.K C) [] []) (I2.env0.make (He.ga X.K C) [] []) b r2 hq) fun rr s' hq' => ?_))
  cases rr with
  | error er => exact hx σ pins _ _ er s' I2 hq'
  | ok fl =>
    cases fl with
    | ret u =>
      obtain ⟨v, H', I3, rv, ev, q3⟩ := I2.after hq'
      subst ev
      exact ⟨rv, ⟨V.ref (s.heap.objs.size + 1), H', I3, rfl, q3⟩⟩
    | next => exact False.elim hq'
    | brk => exact False.elim hq'
    | cont => exact False.elim hq'
end
end Sa

/-! Errors of classes without an __init__ of their own, made with one written text. -/
namespace Sa
open PySem L2
structure ExcO (K : PySem.W.Frag) (mg : Str → Option Value) (x : Str) : Prop where
  gl : mg x = some (.ref (He.ga K x))
  ex : PySem.W.excIn K (He.ga K x) He.veBase "ValueError.__new__" = true
  kp : PySem.W.keepIn K (.ref (He.ga K x)) = true
  sb : PySem.W.subIn K (.ref (He.ga K x)) (.type "BaseException") = some true
  ty : PySem.W.typeIn K (.ref (He.ga K x)) = some (.type "type")
theorem Tx.exo {fa : List He.Fa} {fn : List He.DefD} {fx : List Fx} {K : PySem.W.Frag} {mg : Str → Option Value} (T : Tx fa fn fx K mg) (i j : Nat) {x : Str} (h : fa[i]? = some (.glo x) := by rfl) (h2 : fa[j]? = some (.exc x) := by rfl) : ExcO K mg x := by
  obtain ⟨a, b, c, d⟩ := He.exc_ok (T.fact j h2)
  exact ⟨T.glo i h, a, b, c, d⟩
def tRaiseO (K : PySem.W.Frag) (x : Str) (W : WX) : TS := fun _ σ H => W (.ref (He.ga K x)) none σ H
theorem c_raiseO {K : PySem.W.Frag} {x : Str} {W : WX} {D : Ends} {σ : St} {H : Hp} (h : W (.ref (He.ga K x)) none σ H) : tRaiseO K x W D σ H := h
theorem ps_raiseO {X : Cx} {K : PySem.W.Frag} {x m : Str} {j : Nat} {W : WX} {p p2 pos pos2 : Pos} (F : ExcO X.K X.mg x) (tk : Takes X W) (hK : X.K = K := by rfl) (hg : Gl X x := by rfl) (hc : X.calm = true := by rfl) (hdb : (x == ("__debug__" : Str)) = false := by decide) :
    PS X (.Raise (some (.Call (.Name x p) [.Constant (.str m) j p2] [] pos)) none pos2) (tRaiseO K x W) := by
  subst hK
  exact ps_raise hc tk (pmk_own PySem.F.excBase_ValueError F.ex F.gl F.kp (raises_own F.sb F.ty) hg hdb)
/-! ## isinstance of a caught error -/
theorem exiB_ok {K : PySem.W.Frag} {D : Addr} (h : exiB K D = true) : ExcC K D := by
  unfold exiB at h
  simp only [Bool.and_eq_true, decide_eq_true_eq] at h
  obtain ⟨h1, h2, h3, h4, h5, h6, h7, h8⟩ := h
  exact ⟨h1, h2, h3, h4, h5, h6, h7, h8⟩
theorem Tx.exi {fa : List He.Fa} {fn : List He.DefD} {fx : List Fx} {K : PySem.W.Frag} {mg : Str → Option Value} (T : Tx fa fn fx K mg) (i : Nat) {x : Str} (h : fx[i]? = some (.exi x) := by rfl) : ExcC K (He.ga K x) := exiB_ok (T.fx i h)
theorem Tx.kit {fa : List He.Fa} {fn : List He.DefD} {fx : List Fx} {K : PySem.W.Frag} {mg : Str → Option Value} (T : Tx fa fn fx K mg) (i : Nat) {x y : Str} {b : Bool} (h : fx[i]? = some (.kit x y b) := by rfl) : PySem.W.kitOne K (.ref (He.ga K x)) (.ref (He.ga K y)) = some b := of_decide_eq_true (T.fx i h)
def rIsEU (K : PySem.W.Frag) (a : Addr) (cls : Value) (d : Option Addr) : List V → Hp → VK → Prop := fun xs H Q => ∃ D, cls = .ref D ∧ d = none ∧ ExcC K D ∧ rIsE K D a xs H Q
theorem cr_isE {X : Cx} {a : Addr} {oe : Obj} {cls : Value} {d : Option Addr} {pn : List (Addr × Obj)} {K : PySem.W.Frag} (hz : Zc cls d oe) (hf : ∃ vs, oe.data = .fields vs) (hK : X.K = K := by rfl) : CallR (X.suite a ((a, oe) :: pn)) (.builtin "isinstance") (rIsEU K a cls d) := by
  subst hK
  intro pins s σ H xs us Q I r h
  obtain ⟨D, rfl, rfl, C, h⟩ := h
  exact call_isE C hz hf pins s σ H xs us Q I r h
theorem c_isE {K : PySem.W.Frag} {a D C : Addr} {b : Bool} {H : Hp} {Q : VK} (hD : ExcC K D) (hk : PySem.W.kitOne K (.ref D) (.ref C) = some b) (q : Q (.bl b) H) : rIsEU K a (.ref D) none [.ref a, .ref C] H Q :=
  ⟨D, rfl, rfl, hD, .ref C, .ref C, b, rfl, fun u r => by cases r; rfl, hk, q⟩
/-! ## membership in a list of data -/
theorem u65 {k : Nat} {A : Around} (r : Room k A) : A.units + 65 < cLine := by have := un100 r; omega
theorem op_inDU {X : Cx} {K : PySem.W.Frag} (hu : X.A.units + 65 < cLine) (hK : X.K = K := by rfl) : OpR X (compareOp .In) (rInD K) := hK ▸ op_inD hu
theorem op_notInDU {X : Cx} {K : PySem.W.Frag} (hu : X.A.units + 65 < cLine) (hK : X.K = K := by rfl) : OpR X (compareOp .NotIn) (rNotInD K) := hK ▸ op_notInD hu
theorem c_inD {K : PySem.W.Frag} {H : Hp} {Q : VK} {x y : V} {d : PyData} {ds : List PyData} (hx : Dp K H x d) (hy : Dp K H y (.list ds)) (s1 : SeqAt.shaped d = true) (s2 : SeqAt.shaped (.list ds) = true) (q : Q (.bl (ds.any fun z => PyData.eqv z d)) H) : rInD K x y H Q := ⟨d, ds, hx, hy, s1, s2, q⟩
theorem c_notInD {K : PySem.W.Frag} {H : Hp} {Q : VK} {x y : V} {d : PyData} {ds : List PyData} (hx : Dp K H x d) (hy : Dp K H y (.list ds)) (s1 : SeqAt.shaped d = true) (s2 : SeqAt.shaped (.list ds) = true) (q : Q (.bl (!ds.any fun z => PyData.eqv z d)) H) : rNotInD K x y H Q := ⟨d, ds, hx, hy, s1, s2, q⟩
end Sa

/-! list.count over data of any depth; list.pop at a place. -/
namespace Sa
open PySem L2 PySem.Spec PyProof.Rows
def rCntD (K : PySem.W.Frag) : V → List V → Hp → VK → Prop := fun x xs H Q => ∃ (a : Addr) (y : V) (d : PyData) (ds : List PyData), x = V.ref a ∧ xs = [y] ∧ Dp K H (V.ref a) (.list ds) ∧ Dp K H y d ∧
  SeqAt.shaped (.list ds) = true ∧ SeqAt.shaped d = true ∧ Q (.int (ds.countP (fun z => PyData.eqv z d) : Nat)) H
theorem mt_lcountD {X : Cx} (hu : X.A.units + 65 < cLine) : MtR X "list.count" (rCntD X.K) := by
  intro pins s σ H x xs v us Q I rx rxs h
  obtain ⟨a, y, d, ds, rfl, rfl, hl, hy, sl, sd, q⟩ := h
  cases rx
  cases rxs with
  | cons ry rt =>
    rename_i uy ut
    cases rt
    obtain ⟨bs, r1⟩ := Dp.reads I d y uy hy ry
    have hxs : PyData.canLayAll0 ds = true := SeqAt.canLay_of_shaped sl
    have hroom : X.A.units + 1 + min (PyData.depthAll ds) d.depth < cLine := room_in_shaped sd hu
    cases hl with
    | lst hs ha =>
      obtain ⟨its, rv, ⟨⟨cls, dd, data, sls⟩, n, ho, hc, hdn, hdt⟩, hlen⟩ := I.list hs
      simp only at hc hdt
      subst hc hdt
      obtain ⟨as, h4⟩ := Dp.readsAll I ds _ its ha rv
      have hmap : its.map (SeqAt.readOf s.heap) = ds := SeqAt.readsAll_map ds its as hxs h4
      refine call_meets PySem.F.slot_list_count ⟨_, ho, rfl⟩ PySem.F.entry_list_count (PySem.F.args_list_count_2 _ _)
        (SeqAt.list_countAt a its.toArray n dd sls uy (fun u => PyData.eqv (SeqAt.readOf s.heap u) d)) ⟨ho, SeqAt.items_eqAt (vs := its.toArray) (show ReadsAll s.heap its.toArray.toList ds as from h4) r1 hxs (SeqAt.canLay_of_shaped sd) hroom, ?_⟩
      have ec : its.toArray.toList.countP (fun u => PyData.eqv (SeqAt.readOf s.heap u) d) = ds.countP (fun z => PyData.eqv z d) := by
        rw [← hmap, List.countP_map]
        rfl
      refine ⟨.int (ds.countP (fun z => PyData.eqv z d) : Nat), H, I.tok _, ⟨s.toks, ?_⟩, q⟩
      show Value.int ((its.toArray.toList.countP _ : Nat) : Int) s.toks = Value.int ((ds.countP _ : Nat) : Int) s.toks
      rw [ec]
theorem c_cntD {K : PySem.W.Frag} {a : Addr} {y : V} {H : Hp} {Q : VK} {d : PyData} {ds : List PyData} (hl : Dp K H (.ref a) (.list ds)) (hy : Dp K H y d) (s1 : SeqAt.shaped (.list ds) = true) (s2 : SeqAt.shaped d = true) (q : Q (.int (ds.countP (fun z => PyData.eqv z d) : Nat)) H) : rCntD K (.ref a) [y] H Q := ⟨a, y, d, ds, rfl, rfl, hl, hy, s1, s2, q⟩
section
variable {X : Cx} {K : PySem.W.Frag} {o e : Expr} {to te : TE} {apos cpos : Pos}
theorem pe_lcountU (hu : X.A.units + 65 < cLine) (ho : PE X o to) (he : PE X e te) (hK : X.K = K := by rfl) (hbase : attributeBase o "count" X.env (eval o X.env) = eval o X.env := by rfl)
    (hfew : ((backTo cpos (starEach [e] X.env)).all (fun x => !x.1) && (backToKw cpos (keywordEach [] X.env)).all (fun x => x.1.isSome)
      && decide (([e] : List Expr).length + ([] : List Keyword).length + (if ([] : List Keyword).isEmpty then 0 else 1) < 30)) = true := by rfl)
    (hline : (apos.endLine == cpos.line) = true := by rfl) (hs : starEach [e] X.env = (false, eval e X.env) :: starEach [] X.env := by rfl) (hplain : (backTo cpos (starEach [] X.env)).any (·.1) = false := by rfl) :
    PE X (.Call (.Attribute o "count" apos) [e] [] cpos) (tBM K "list" (rCntD K) to (tCons te tNil)) := by
  subst hK
  exact pe_bm PySem.F.plainAttrs_list PySem.F.slot_list_count PySem.F.type_list_count (mt_lcountD hu) ho (pa_cons he pa_nil hs) hbase hfew hline hs hplain
theorem pe_popAtU (ho : PE X o to) (he : PE X e te) (hK : X.K = K := by rfl) (hbase : attributeBase o "pop" X.env (eval o X.env) = eval o X.env := by rfl)
    (hfew : ((backTo cpos (starEach [e] X.env)).all (fun x => !x.1) && (backToKw cpos (keywordEach [] X.env)).all (fun x => x.1.isSome)
      && decide (([e] : List Expr).length + ([] : List Keyword).length + (if ([] : List Keyword).isEmpty then 0 else 1) < 30)) = true := by rfl)
    (hline : (apos.endLine == cpos.line) = true := by rfl) (hs : starEach [e] X.env = (false, eval e X.env) :: starEach [] X.env := by rfl) (hplain : (backTo cpos (starEach [] X.env)).any (·.1) = false := by rfl) :
    PE X (.Call (.Attribute o "pop" apos) [e] [] cpos) (tBM K "list" rPopAt to (tCons te tNil)) := by
  subst hK
  exact pe_bm PySem.F.plainAttrs_list PySem.F.slot_list_pop PySem.F.type_list_pop mt_popAt ho (pa_cons he pa_nil hs) hbase hfew hline hs hplain
theorem c_popAt {l : Addr} {xs : List V} {i : Nat} {y : V} {H : Hp} {Q : VK} (h : H l = some (.lst xs)) (hi : xs[i]? = some y) (hl : xs.length < 1000000) (q : Q y (upd H l (.lst (xs.eraseIdx i)))) : rPopAt (.ref l) [.int (i : Nat)] H Q := by
  have hlt := (List.getElem?_eq_some_iff.mp hi).1
  refine ⟨l, xs, i, i, y, rfl, rfl, h, by omega, by omega, ?_, hi, q⟩
  unfold seqIndex?
  simp only []
  split
  · omega
  · first | (rw [if_pos (by omega)]; simp) | simp [hlt]
end
end Sa

/-! is, is not, of a truth value and a written one; isinstance of a caught error that keeps fields. -/
namespace Sa
open PySem L2 PyProof.Rows
def rIsBl : V → V → Hp → VK → Prop := fun x y H Q => ∃ a b, x = .bl a ∧ y = .bl b ∧ Q (.bl (a == b)) H
def rIsNotBl : V → V → Hp → VK → Prop := fun x y H Q => ∃ a b, x = .bl a ∧ y = .bl b ∧ Q (.bl (a != b)) H
theorem op_isBl {X : Cx} : OpR X (compareOp .Is) rIsBl := fun pins s σ H x y v u Q I rx ry h => by
  obtain ⟨a, b, rfl, rfl, q⟩ := h
  obtain rfl : v = Value.bool a := rx
  obtain rfl : u = Value.bool b := ry
  cases a <;> cases b <;> first
    | exact wpAny_is_self rfl ⟨.bl true, H, I, rfl, q⟩
    | exact wpAny_is_other rfl (fun z => by cases z) ⟨.bl false, H, I, rfl, q⟩
theorem op_isNotBl {X : Cx} : OpR X (compareOp .IsNot) rIsNotBl := fun pins s σ H x y v u Q I rx ry h => by
  obtain ⟨a, b, rfl, rfl, q⟩ := h
  obtain rfl : v = Value.bool a := rx
  obtain rfl : u = Value.bool b := ry
  cases a <;> cases b <;> first
    | exact wpAny_isNot_self rfl ⟨.bl false, H, I, rfl, q⟩
    | exact wpAny_isNot_other rfl (fun z => by cases z) ⟨.bl true, H, I, rfl, q⟩
section
variable {H : Hp} {Q : VK} {a b : Bool}
theorem c_isBl (q : Q (.bl (a == b)) H) : rIsBl (.bl a) (.bl b) H Q := ⟨a, b, rfl, rfl, q⟩
theorem c_isNotBl (q : Q (.bl (a != b)) H) : rIsNotBl (.bl a) (.bl b) H Q := ⟨a, b, rfl, rfl, q⟩
end
end Sa
/-! ## the class of an error that may have fields -/
namespace Sa.Kis
open PySem PySem.W PySem.Spec PySem.Calls PyProof.Rows L2
variable {K : Frag} {D x : Addr} {od : Option Obj} {ox : Obj}
theorem find_cls (C : ExcC K D) : findObj K D od "__class__" = some (.bind (.builtin "getset_descriptor.__get__") (.builtin "object.__class__")) := by
  obtain ⟨cd, hc, _⟩ := any_some C.hd
  simp only [findObj, hc, C.ha, C.hn, C.ht, Option.bind_some]
theorem cls_of {prog : Program} {w : World} {A : Around} {E : Value → Shared → Prop} {s : Shared} {Q : Option Value → Shared → Prop} (C : ExcC K D) (X : K.In s.heap) (I : W.InstAt s.heap x ox D od)
    (q : Q (some (.ref D)) { s with toks := s.toks + 1 }) : wpAny (model prog w) A (getAttr? (.ref x) "__class__") Q E s := by
  cases s with | mk hp g d t os =>
  have lt := I.type (M := model prog w)
  have lg := looks_findIn (M := model prog w) X C.hg
  have lk := looks_findIn (M := model prog w) X C.hk
  have lf := looks_find (M := model prog w) X I (find_cls C)
  have ls : Looks (model prog w) hp (isInstance (.ref x) (.type "BaseException")) true := lt.andThen (looks_subIn X C.hs)
  have n2 : (Value.builtin "BaseException.__getattribute__" == Value.builtin "object.__getattribute__") = false := by
    decide +kernel
  have n1 : (onTheHeap (Value.ref D) && Value.builtin "BaseException.__getattribute__" == Value.builtin "object.__getattribute__") = false := by
    rw [n2]; rfl
  have n0 : (false && onTheHeap (Value.builtin "BaseException.__getattribute__")) = false := rfl
  have up : onTheHeap (Value.ref D) = true := rfl
  unfold getAttr? getAttrBy? getAttrBy
  refine wpAny_bind ?_
  refine wpAny_mkText ?_
  refine wpAny_bind ?_
  refine wpAny_attempt ?_
  refine wpAny_holding ?_
  refine wpAny_bind (lt.at ?_)
  refine wpAny_bind (lg.at ?_)
  show wpAny _ _ (if (onTheHeap (Value.ref D) && Value.builtin "BaseException.__getattribute__" == Value.builtin "object.__getattribute__") = true then _ else _) _ _ _
  rw [n1, if_neg Bool.false_ne_true]
  unfold getAttrByItsOwn hookBefore
  refine wpAny_bind ?_
  rw [if_pos up]
  refine lk.at ?_
  refine wpAny_bind ?_
  refine wpAny_attempt ?_
  refine wpAny_holding ?_
  unfold callGetattribute
  rw [n0, if_neg Bool.false_ne_true]
  unfold boundAndCalled
  rw [PySem.F.excAttr_ValueError.ga.bind (.ref x)]
  refine wpAny_bind ?_
  refine wpAny_pure ?_
  show wpAny _ _ (call (.builtin "BaseException.__getattribute__") [.ref x, .str "__class__" t]) _ _ _
  refine wpAny_call ?_
  refine codeAny_call_builtin PySem.F.excAttr_ValueError.ga.plain PySem.F.entry_bexc_ga ?_
  refine @check_slot (model prog w) _ _ ⟨hp, g, d, t + 1, os⟩ "BaseException.__getattribute__" "BaseException" "__getattribute__" (.ref x)
    [.str "__class__" t] [] _ (by decide +kernel) (by decide +kernel) ls (PySem.F.args_bexc_ga (.ref x) (.str "__class__" t)) ?_
  unfold Builtin.«object.__getattribute__»
  refine wpAny_bind ?_
  refine wpAny_of_eq (a := ((Value.ref x : Value), [Value.str "__class__" t])) (by first | rfl | (simp only [slotArgs]; rfl)) ?_
  refine wpAny_bind ?_
  refine wpAny_pure ?_
  refine wpAny_bind (lt.at ?_)
  refine wpAny_bind (lf.at ?_)
  show wpAny _ _ (holding [Value.builtin "object.__class__"] (call (.builtin "getset_descriptor.__get__") [.builtin "object.__class__", .ref x, .ref D]) >>= ret) _ _ _
  refine wpAny_bind ?_
  refine wpAny_holding ?_
  refine wpAny_call (class_get (s := ⟨hp, g, d, t + 1, os⟩) (ox := ox) (od := od) X I C.hm ?_)
  refine wpAny_pure ?_
  show wpAny _ _ (handedOut (.ref D)) _ _ _
  rw [handedOut_of (v := .ref D) rfl]
  first
    | exact wpAny_pure (wpAny_pure q)
    | exact wpAny_pure q
    | exact wpAny_pure (wpAny_bind (wpAny_pure (wpAny_pure q)))
theorem kitx (C : ExcC K D) : KitX K (.ref x) (.ref D) (fun h => W.InstAt h x ox D od) where
  ty := fun _ _ _ I => I.type
  it := fun M h X _ => by
    obtain ⟨cd, hc, _⟩ := any_some C.hd
    unfold clsIn at hc
    split at hc
    · rename_i ho
      intro A' Q' E' s' k q
      unfold isType loadHead
      refine wpAny_bind ?_
      exact wpAny_loadPart (k _ _ (X _ _ ho)) (wpAny_pure q)
    · cases hc
  ne := (handS_kitx_exc (x := x) (ox := ox) C.hg C.hk C.hs C.hd C.ha C.hn C.ht C.hm).ne
  ca := fun X I k => cls_of C X I k
end Sa.Kis
namespace Sa
open PySem L2
def rIsEV (K : PySem.W.Frag) (a : Addr) (cls : Value) (d : Option Addr) : List V → Hp → VK → Prop := fun xs H Q => ∃ D, cls = .ref D ∧ ExcC K D ∧ (∀ dd, d = some dd → ∃ fs, H dd = some (.xd fs)) ∧ rIsE K D a xs H Q
theorem cr_isEV {X : Cx} {a : Addr} {oe : Obj} {cls : Value} {d : Option Addr} {pn : List (Addr × Obj)} {K : PySem.W.Frag} (hz : Zc cls d oe) (hf : ∃ vs, oe.data = .fields vs) (hK : X.K = K := by rfl) : CallR (X.suite a ((a, oe) :: pn)) (.builtin "isinstance") (rIsEV K a cls d) := by
  subst hK
  intro pins s σ H xs us Q I r h
  obtain ⟨D, rfl, C, hd, c, cv, b, rfl, hcv, e, q⟩ := h
  cases r with
  | cons rx rr =>
    cases rr with
    | cons rt rr =>
      cases rr
      cases rx
      have ec := hcv _ rt
      subst ec
      have at_ := (I.pin (a, oe) (List.mem_append.mpr (.inl List.mem_cons_self))).1
      obtain ⟨vs, hv⟩ := hf
      have J : ∃ od, PySem.W.InstAt s.heap a oe D od := by
        obtain ⟨oc, o1, oda, osl⟩ := oe
        obtain ⟨h1, h2⟩ := hz
        dsimp only at h1 h2 hv
        subst h1 h2 hv
        cases o1 with
        | none => exact ⟨none, at_, rfl, rfl, trivial⟩
        | some dd =>
          obtain ⟨fs, hfs⟩ := hd dd rfl
          obtain ⟨mA, ⟨ob, es, ep, ho, _⟩, _⟩ := I.hok dd _ hfs
          exact ⟨some ob, at_, rfl, rfl, ho⟩
      obtain ⟨od, J⟩ := J
      exact PySem.W.kia_one (Sa.Kis.kitx C) I.kIn J e (fun z => nomatch z) fun tk => ⟨.bl b, H, I.kept (t' := tk) fun _ _ z => z, rfl, q⟩
theorem c_isEV {K : PySem.W.Frag} {a D C : Addr} {b : Bool} {d : Option Addr} {H : Hp} {Q : VK} (hD : ExcC K D) (hk : PySem.W.kitOne K (.ref D) (.ref C) = some b) (hd : ∀ dd, d = some dd → ∃ fs, H dd = some (.xd fs)) (q : Q (.bl b) H) : rIsEV K a (.ref D) d [.ref a, .ref C] H Q :=
  ⟨D, rfl, hD, hd, .ref C, .ref C, b, rfl, fun u r => by cases r; rfl, hk, q⟩
theorem c_isE0 {K : PySem.W.Frag} {a D C : Addr} {b : Bool} {H : Hp} {Q : VK} (hD : ExcC K D) (hk : PySem.W.kitOne K (.ref D) (.ref C) = some b) (q : Q (.bl b) H) : rIsEV K a (.ref D) none [.ref a, .ref C] H Q := c_isEV hD hk (fun _ z => nomatch z) q
theorem c_isE1 {K : PySem.W.Frag} {a D C dd : Addr} {b : Bool} {fs : List (Str × V)} {H : Hp} {Q : VK} (hD : ExcC K D) (hk : PySem.W.kitOne K (.ref D) (.ref C) = some b) (hd : H dd = some (.xd fs)) (q : Q (.bl b) H) : rIsEV K a (.ref D) (some dd) [.ref a, .ref C] H Q :=
  c_isEV hD hk (fun d2 z => by injection z with z; subst z; exact ⟨fs, hd⟩) q
end Sa

open PySem L2 Sa
/-! ## tactics -/
-- heap look-ups
local macro_rules | `(tactic| walk_at "ne") => `(tactic| first | assumption | (apply Ne.symm; assumption) | (refine ne_of2 ?_ ?_ <;> assumption) | (apply Ne.symm; refine ne_of2 ?_ ?_ <;> assumption))
local macro_rules | `(tactic| walk_at "lk") => `(tactic| first
  | assumption
  | exact upd_same
  | ((with_reducible refine upd_new ?_ ?_); (· assumption); walk_at "lk")
  | ((with_reducible refine upd_other ?_ ?_); (· walk_at "ne"); walk_at "lk")
  | (with_reducible exact New.at_ (by assumption))
  | ((with_reducible refine New.keep (by assumption) ?_); walk_at "lk")
  | ((with_reducible refine New.sqL (by assumption) ?_); walk_at "lk")
  | ((with_reducible refine New.sqT (by assumption) ?_); walk_at "lk")
  | ((with_reducible refine Kp.at0 (by assumption) ?_); walk_at "lk")
  | ((with_reducible apply SqL.of); walk_at "lk")
  | ((with_reducible apply SqT.of); walk_at "lk")
  | ((with_reducible refine SqL.new ?_ ?_); (· assumption); walk_at "lk")
  | ((with_reducible refine SqT.new ?_ ?_); (· assumption); walk_at "lk"))
-- arithmetic of lengths
local macro_rules | `(tactic| walk_at "sz") => `(tactic| first | assumption | decide | (exact Nat.zero_le _) | (simp only [sizeLine_eq, List.length_cons, List.length_nil, List.length_append, List.length_map, List.length_replicate] at *; omega))
-- one step of a reading
local macro_rules | `(tactic| walk_at "s1") => `(tactic| first
  | (with_reducible apply c_seq)
  | ((with_reducible apply c_var); (exact rfl))
  | (with_reducible apply c_c)
  | (with_reducible apply c_op)
  | (with_reducible apply c_addI) | (with_reducible apply c_subI) | (with_reducible apply c_bandI)
  | (with_reducible refine c_bl ?_) | (with_reducible refine c_int ?_)
  | (with_reducible apply c_asg) | (with_reducible apply c_gName) | (with_reducible apply c_ret) | (with_reducible apply c_retN) | (with_reducible apply c_ifs) | (with_reducible apply c_drop)
  | (with_reducible apply c_test) | (with_reducible apply c_tB) | (with_reducible apply c_not) | (with_reducible apply c_and) | (with_reducible apply c_or)
  | (with_reducible apply c_eqI) | (with_reducible apply c_neI) | (with_reducible apply c_ltI) | (with_reducible apply c_leI) | (with_reducible apply c_gtI) | (with_reducible apply c_geI)
  | (with_reducible apply c_nil) | (with_reducible apply c_cons) | (with_reducible apply c_call) | (with_reducible apply c_cb) | (with_reducible apply c_tup) | (with_reducible apply c_lst)
  | (with_reducible apply c_sl) | (with_reducible apply c_noPart) | (with_reducible apply c_part) | (with_reducible apply c_bm) | (with_reducible apply c_bm0) | (with_reducible apply c_m1) | (with_reducible apply c_isStr)
  | (with_reducible apply c_chain) | (with_reducible apply c_andV) | (with_reducible apply c_orV) | (with_reducible apply c_notV) | (with_reducible apply c_if)
  | (with_reducible apply c_intI) | (with_reducible apply c_ord) | (with_reducible apply c_max2) | (with_reducible apply c_min2)
  | ((with_reducible apply c_mulI); (first | (exact Or.inr ⟨by decide, by decide⟩) | (exact Or.inl ⟨by decide, by decide⟩)))
  | ((with_reducible apply c_divI); (exact ⟨by decide, by decide⟩))
  | ((with_reducible apply c_modI); (first | decide | assumption | omega))
  | (with_reducible apply c_eqS) | (with_reducible apply c_neS) | (with_reducible apply c_eqB) | (with_reducible apply c_neB) | (with_reducible apply c_isN) | (with_reducible apply c_notN)
  | (with_reducible apply c_inC) | (with_reducible apply c_notInC)
  | (with_reducible refine c_truB ?_)
  | (with_reducible apply c_gSub)
  | (with_reducible apply c_next)
  | (with_reducible apply c_for) | (with_reducible apply c_lc) | (with_reducible apply c_rng1) | (with_reducible apply c_rng2) | (with_reducible apply c_iList) | (with_reducible apply c_iTup) | (with_reducible apply c_iStr)
  | ((with_reducible refine c_r1F ?_ ?_); (· first | decide | omega)) | ((with_reducible refine c_r2F ?_ ?_); (· first | decide | omega))
  | ((with_reducible apply c_itLF); (· walk_at "lk")) | ((with_reducible apply c_itTF); (· walk_at "lk")) | (with_reducible apply c_itSF)
  | ((with_reducible refine c_r1C ?_ ?_); (· first | decide | omega)) | ((with_reducible refine c_r2C ?_ ?_); (· first | decide | omega))
  | ((with_reducible apply c_itLC); (· walk_at "lk")) | ((with_reducible apply c_itTC); (· walk_at "lk")) | (with_reducible apply c_itSC)
  | ((with_reducible apply c_append); (· walk_at "lk"); (· walk_at "sz"))
  | (with_reducible apply c_yes)
  | (with_reducible apply c_newD) | (with_reducible apply c_dgetK) | (with_reducible apply c_din) | (with_reducible apply c_dnotin) | (with_reducible apply c_dput) | (with_reducible apply c_iKeys) | (with_reducible apply c_pNil) | (with_reducible apply c_pCons) | (with_reducible apply c_enumT) | (with_reducible apply c_iSeq) | (with_reducible apply c_lenSet) | (with_reducible apply c_dc) | (with_reducible apply c_fld) | (with_reducible apply c_setF) | (with_reducible apply c_meth) | (with_reducible apply c_newA) | (with_reducible apply c_dget1) | (with_reducible apply c_dget)
  | (with_reducible apply c_raiseE) | (with_reducible apply c_rng3) | (with_reducible apply c_enum) | (with_reducible apply c_callX) | (with_reducible apply c_xf)
  | (with_reducible apply c_it1) | (with_reducible apply c_it2) | (with_reducible apply c_it3) | (with_reducible apply c_it4)
  | (with_reducible apply c_gCons) | (with_reducible apply c_gNil)
  | ((with_reducible apply c_unL); (· walk_at "lk"); (· exact rfl)) | ((with_reducible apply c_unT); (· walk_at "lk"); (· exact rfl))
  | ((with_reducible apply c_lenS); (· walk_at "sz"))
  | ((with_reducible apply c_lenL); (· walk_at "lk"))
  | ((with_reducible apply c_lenT); (· walk_at "lk"))
  | ((with_reducible apply c_ixL); (· walk_at "lk"); (· exact rfl))
  | ((with_reducible apply c_ixT); (· walk_at "lk"); (· exact rfl))
  | ((with_reducible apply c_setL); (· walk_at "lk"); (· exact rfl))
  | ((with_reducible apply c_tyA); (· walk_at "lk")))
local macro_rules | `(tactic| walk_at "nw") => `(tactic| ((with_reducible refine c_nw ?_ ?_); (· walk_at "sz")))
local macro_rules | `(tactic| walk_at "st") => `(tactic| repeat (walk_at "s1"))
-- steps and ways, as far as they go
local macro_rules | `(tactic| walk_at "go") => `(tactic| repeat' (first | walk_at "s1" | ((with_reducible refine c_iteT ?_ ?_); (· exact rfl)) | ((with_reducible refine c_iteF ?_ ?_); (· exact rfl)) | ((with_reducible refine c_ite ?_ ?_) <;> intro hcnd) | ((with_reducible refine c_iteN ?_ ?_) <;> intro hcnd) | ((with_reducible refine c_iteNB ?_ ?_) <;> intro hcnd) | ((with_reducible refine c_iteB ?_ ?_) <;> intro hcnd) | fail))
-- ways that are settled by what is written
local macro_rules | `(tactic| walk_at "dc") => `(tactic| repeat' (first | walk_at "s1" | ((with_reducible refine c_iteF ?_ ?_); (· decide +kernel)) | ((with_reducible refine c_iteT ?_ ?_); (· decide +kernel)) | ((with_reducible refine c_iteF ?_ ?_); (· exact rfl)) | ((with_reducible refine c_iteT ?_ ?_); (· exact rfl)) | fail))
local macro_rules | `(tactic| walk_at "len") => `(tactic| first | (intro vs H Q E h; obtain ⟨_, e, _⟩ := h; subst e; rfl) | (intro vs H Q E h; obtain ⟨_, _, e, _⟩ := h; subst e; rfl) | (intro vs H Q E h; obtain ⟨_, _, _, e, _⟩ := h; subst e; rfl) | (intro vs H Q E h; obtain ⟨_, _, _, _, e, _⟩ := h; subst e; rfl) | (intro vs H Q E h; obtain ⟨_, _, _, _, _, e, _⟩ := h; subst e; rfl) | (intro vs H Q E h; obtain ⟨_, _, _, _, _, _, e, _⟩ := h; subst e; rfl) | (intro vs H Q E h; obtain ⟨_, _, _, _, _, _, _, e, _⟩ := h; subst e; rfl) | (intro vs H Q E h; obtain ⟨_, _, _, _, _, _, _, _, e, _⟩ := h; subst e; rfl) | (intro vs H Q E h; obtain ⟨_, _, _, _, _, _, _, _, _, e, _⟩ := h; subst e; rfl) | (intro vs H Q E h; obtain ⟨_, _, _, _, _, _, _, _, _, _, e, _⟩ := h; subst e; rfl) | (intro vs H Q E h; obtain ⟨_, _, _, _, _, _, _, _, _, _, _, e, _⟩ := h; subst e; rfl) | (intro vs H Q E h; obtain ⟨_, _, _, _, _, _, _, _, _, _, _, _, e, _⟩ := h; subst e; rfl))

namespace K61
open PySem L2 Sa
def top (i : Nat) : Stmt := PySem.Challenge.pw_sameanswers_k61_desks_want_and_hear.main.body.getD i (.Pass ⟨0, 0, 0, 0⟩)
abbrev s_is_name : Stmt := top 12
abbrev s_is_path : Stmt := top 13
abbrev s_is_place : Stmt := top 14
abbrev s__is_plain : Stmt := top 15
abbrev s_is_line : Stmt := top 16
abbrev s_is_word : Stmt := top 17
abbrev s_is_lines : Stmt := top 18
abbrev s__check : Stmt := top 20
abbrev s_check_action : Stmt := top 21
abbrev s_is_good_row : Stmt := top 26
abbrev s__is_agent : Stmt := top 27
abbrev s_check_agent : Stmt := top 28
abbrev s_next_row : Stmt := top 29
abbrev s_row_after : Stmt := top 30
abbrev s__law_cell : Stmt := top 34
abbrev s__law_digits : Stmt := top 35
abbrev s__law_draw : Stmt := top 36
abbrev s__law_path : Stmt := top 37
abbrev s__law_line : Stmt := top 38
abbrev s__law_lines : Stmt := top 39
abbrev s__law_inside : Stmt := top 40
abbrev s__law_blocked : Stmt := top 41
abbrev s__law_files : Stmt := top 42
abbrev s__law_is_folder : Stmt := top 44
abbrev s__law_names : Stmt := top 45
abbrev s__law_found : Stmt := top 46
abbrev s__law_asked : Stmt := top 47
abbrev s__law_spots : Stmt := top 48
abbrev s__law_refusal : Stmt := top 49
abbrev s__law_act : Stmt := top 50
abbrev s__law_some_path : Stmt := top 51
abbrev s__law_place : Stmt := top 52
abbrev s__law_question : Stmt := top 53
abbrev s__law_part : Stmt := top 54
abbrev s__law_deed : Stmt := top 55
abbrev s__law_action : Stmt := top 56
abbrev s__law_agent : Stmt := top 57
abbrev s__law_step : Stmt := top 58
abbrev s__law_alike : Stmt := top 60
abbrev s__law_wanted : Stmt := top 61
abbrev s__law_begin : Stmt := top 62
abbrev s__law_gone : Stmt := top 63
abbrev s__law_result : Stmt := top 64
abbrev s__law_heard : Stmt := top 65
abbrev s__law_answer : Stmt := top 66
abbrev s__law_letter : Stmt := top 67
abbrev s__law_started : Stmt := top 68
abbrev s_law : Stmt := top 69
abbrev s_OutOfRange___init__ : Stmt := subAt (top 2) 0
abbrev s_Desk___init__ : Stmt := subAt (top 32) 0
abbrev s_Desk__begin : Stmt := subAt (top 32) 1
abbrev s_Desk_start : Stmt := subAt (top 32) 2
abbrev s_Desk_is_at_work : Stmt := subAt (top 32) 3
abbrev s_Desk_wanted : Stmt := subAt (top 32) 4
abbrev s_Desk_hear : Stmt := subAt (top 32) 5
abbrev s_Desk__hear_opened : Stmt := subAt (top 32) 6
abbrev s_Desk__hear_lost : Stmt := subAt (top 32) 7
abbrev s_Desk__hear_answer : Stmt := subAt (top 32) 8
abbrev s_Desk__finish : Stmt := subAt (top 32) 9
abbrev s_Desk__hear_result : Stmt := subAt (top 32) 10
abbrev s_Desk_done : Stmt := subAt (top 32) 11
abbrev s_Desk_journal : Stmt := subAt (top 32) 12
abbrev s__law_rows : Stmt := top 43
abbrev s__law_live : Stmt := top 59
def fa : List He.Fa := [.free "all", .str "LETTERS" "abcdefghijklmnopqrstuvwxyz0123456789", .free "len", .int "NAME_MOST" 8, .glo "is_name", .int "DEPTH_MOST" 3, .glo "is_path", .glo "is_place", .free "ord", .int "PERCENT" 37, .glo "_is_plain", .int "LINE_MOST" 20, .glo "is_line", .int "WORD_MOST" 12, .glo "is_word", .int "LINES_MOST" 12, .glo "is_lines", .glo "OutOfRange", .glo "_check", .glo "check_action", .free "any", .int "CASES_MOST" 6, .glo "is_good_row", .free "enumerate", .glo "STOP", .int "ROWS_MOST" 24, .glo "_is_agent", .glo "check_agent", .glo "next_row", .glo "row_after", .glo "_law_cell", .free "range", .free "int", .glo "_law_digits", .glo "_law_draw", .glo "_law_path", .glo "_law_line", .free "tuple", .glo "_law_lines", .glo "_law_inside", .glo "_law_blocked", .glo "_law_files", .glo "_law_is_folder", .free "sorted", .glo "_law_names", .glo "_law_found", .glo "_law_asked", .glo "_law_spots", .glo "_law_refusal", .glo "_law_act", .glo "_law_some_path", .glo "_law_place", .glo "_law_question", .glo "_law_part", .glo "_law_deed", .glo "_law_action", .free "min", .glo "_law_agent", .glo "_law_step", .free "repr", .glo "_law_alike", .glo "_law_wanted", .glo "_law_begin", .glo "_law_gone", .glo "_law_result", .glo "_law_heard", .glo "_law_answer", .glo "_law_letter", .glo "TrunkError", .glo "AtWork", .free "isinstance", .glo "_law_started", .free "max", .glo "Desk", .glo "law", .meth "OutOfRange" "__init__", .meth "Desk" "__init__", .meth "Desk" "_begin", .exc "AtWork", .meth "Desk" "start", .meth "Desk" "is_at_work", .meth "Desk" "wanted", .meth "Desk" "hear", .meth "Desk" "_hear_opened", .meth "Desk" "_hear_lost", .meth "Desk" "_hear_answer", .meth "Desk" "_finish", .meth "Desk" "_hear_result", .free "list", .meth "Desk" "done", .meth "Desk" "journal", .glo "_law_rows", .glo "_law_live", .noat "OutOfRange" "name", .exm "OutOfRange" "OutOfRange" true, .cls "Desk", .mkr "Desk", .noat "Desk" "_number", .noat "Desk" "_serial", .noat "Desk" "_name", .noat "Desk" "_agent", .noat "Desk" "_epoch", .noat "Desk" "_attempt", .noat "Desk" "_journal", .noat "Desk" "_row", .noat "Desk" "_done", .exm "AtWork" "TrunkError" true, .exm "OutOfRange" "TrunkError" true]
def fn : List He.DefD := [dOf "is_name" s_is_name, dOf "is_path" s_is_path, dOf "is_place" s_is_place, dOf "_is_plain" s__is_plain, dOf "is_line" s_is_line, dOf "is_word" s_is_word, dOf "is_lines" s_is_lines, dOf "_check" s__check, dOf "check_action" s_check_action, dOf "is_good_row" s_is_good_row, dOf "_is_agent" s__is_agent, dOf "check_agent" s_check_agent, dOf "next_row" s_next_row, dOf "row_after" s_row_after, dOf "_law_cell" s__law_cell, dOf "_law_digits" s__law_digits, dOf "_law_draw" s__law_draw, dOf "_law_path" s__law_path, dOf "_law_line" s__law_line, dOf "_law_lines" s__law_lines, dOf "_law_inside" s__law_inside, dOf "_law_blocked" s__law_blocked, dOf "_law_files" s__law_files, dOf "_law_is_folder" s__law_is_folder, dOf "_law_names" s__law_names, dOf "_law_found" s__law_found, dOf "_law_asked" s__law_asked, dOf "_law_spots" s__law_spots, dOf "_law_refusal" s__law_refusal, dOf "_law_act" s__law_act, dOf "_law_some_path" s__law_some_path, dOf "_law_place" s__law_place, dOf "_law_question" s__law_question, dOf "_law_part" s__law_part, dOf "_law_deed" s__law_deed, dOf "_law_action" s__law_action, dOf "_law_agent" s__law_agent, dOf "_law_step" s__law_step, dOf "_law_alike" s__law_alike, dOf "_law_wanted" s__law_wanted, dOf "_law_begin" s__law_begin, dOf "_law_gone" s__law_gone, dOf "_law_result" s__law_result, dOf "_law_heard" s__law_heard, dOf "_law_answer" s__law_answer, dOf "_law_letter" s__law_letter, dOf "_law_started" s__law_started, dOf "law" s_law, dOfM "OutOfRange" "__init__" "OutOfRange.__init__" s_OutOfRange___init__, dOfM "Desk" "__init__" "Desk.__init__" s_Desk___init__, dOfM "Desk" "_begin" "Desk._begin" s_Desk__begin, dOfM "Desk" "start" "Desk.start" s_Desk_start, dOfM "Desk" "is_at_work" "Desk.is_at_work" s_Desk_is_at_work, dOfM "Desk" "wanted" "Desk.wanted" s_Desk_wanted, dOfM "Desk" "hear" "Desk.hear" s_Desk_hear, dOfM "Desk" "_hear_opened" "Desk._hear_opened" s_Desk__hear_opened, dOfM "Desk" "_hear_lost" "Desk._hear_lost" s_Desk__hear_lost, dOfM "Desk" "_hear_answer" "Desk._hear_answer" s_Desk__hear_answer, dOfM "Desk" "_finish" "Desk._finish" s_Desk__finish, dOfM "Desk" "_hear_result" "Desk._hear_result" s_Desk__hear_result, dOfM "Desk" "done" "Desk.done" s_Desk_done, dOfM "Desk" "journal" "Desk.journal" s_Desk_journal, dOf "_law_rows" s__law_rows, dOf "_law_live" s__law_live]
def fx : List Fx := [.cst "STOP" (.tuple [(.str "stop")]), .oex "OutOfRange", .xf "OutOfRange", .exi "AtWork", .exi "OutOfRange", .kit "AtWork" "OutOfRange" false, .kit "AtWork" "AtWork" true, .kit "OutOfRange" "OutOfRange" true]
abbrev TX (K : PySem.W.Frag) (mg : Str → Option Value) : Prop := Tx fa fn fx K mg
end K61
namespace K61
open PySem L2 Sa
abbrev R : PySem.W.OpenRow := PySem.W.OpenLaw.row PySem.Challenge.rw_sameanswers_k61_desks_want_and_hear
abbrev qv : Program := PySem.W.view R.prog [69]
abbrev hk : PySem.W.Hook := He.hookX 5 fa fn [] [] (exs fx)
def ob (s : PySem.W.SharedT) : He.AlX := He.obsX 5 fa fn [] [] (exs fx) (HandSHeadRun.getT s)
theorem ob_eq (s : PySem.W.SharedT) : ob s = hk.obs s.abs := He.obsX_eq (HandSHeadRun.getT_eq s)
def loose0 : List PySem.Str := ["TrunkError", "OutOfRange", "AtWork", "NAME_MOST", "DEPTH_MOST", "LINE_MOST", "LINES_MOST", "WORD_MOST", "LETTERS", "PERCENT", "is_name", "is_path", "is_place", "_is_plain", "is_line", "is_word", "is_lines", "_check", "check_action", "ROWS_MOST", "CASES_MOST", "STOP", "is_good_row", "_is_agent", "check_agent", "next_row", "row_after", "Desk", "_law_cell", "_law_digits"]
def loose1 : List PySem.Str := ["_law_draw", "_law_path", "_law_line", "_law_lines", "_law_inside", "_law_blocked", "_law_files", "_law_rows", "_law_is_folder", "_law_names", "_law_found", "_law_asked", "_law_spots", "_law_refusal", "_law_act", "_law_some_path", "_law_place", "_law_question", "_law_part", "_law_deed", "_law_action", "_law_agent", "_law_step", "_law_live", "_law_alike", "_law_wanted", "_law_begin", "_law_gone", "_law_result", "_law_heard"]
def loose2 : List PySem.Str := ["_law_answer", "_law_letter", "_law_started"]
def loose : List PySem.Str := loose0 ++ loose1 ++ loose2
theorem run (w : World) : HandSHeadRun.RunEq R qv hk ob 4000 loose w := by
  intro os
  kernel_rfl
end K61

namespace K61
open PySem L2 Sa
section
variable {P : Program} {w : World} {K : PySem.W.Frag} {mg : Str → Option Value} {base : Heap}
theorem sc__law_draw : FnScope ["_law_box", "_law_many", "_law_at"] ["_law_box", "_law_many"] (defScope s__law_draw) := ⟨rfl, rfl, rfl, by decide +kernel, rfl, by decide +kernel, by decide +kernel⟩
theorem bn__law_draw : BindN "_law_draw" s__law_draw ["_law_box", "_law_many"] := fun _ _ _ _ _ _ us hl => match us, hl with | [_, _], _ => rfl
def spDraw : Sp := fun vs H Q _ => ∃ (b d : Addr) (many : Int), vs = [.ref b, .int many] ∧ Bx H b d ∧ 0 < many ∧ ∀ (i : Int) (H' : Hp), 0 ≤ i → i < many → Kp [b] H H' → Bx H' b d → Q (.int i) H'
theorem b__law_draw (T : TX K mg) : Body P w K mg base "_law_draw" s__law_draw ["_law_box", "_law_many", "_law_at"] 1 spDraw := by
  intro cdv A outer s H vs Q E h X hr
  obtain ⟨b, d, many, rfl, B, hm, k⟩ := h
  obtain ⟨at_, ds, h1, h2, h3⟩ := B.ex
  refine ⟨_, (pss_cons (ps_set (i := 2) sc__law_draw.nd rfl (Or.inl rfl) (pe_ix (ix_U (K := K)) (pv 0) pe_int (fun _ _ => rfl))) (pss_cons (ps_asg (pe_op (op_addU (K := K)) (pv 2) pe_int) (pg_sub (pv 0) pe_int set_list)) (pss_cons (ps_if (pt_cmpR op_ltU (pv 2) (pe_callB (cr_len (K := K)) rfl (T.free 2) PySem.boot_len (pa_cons (pe_ix (ix_U (K := K)) (pv 0) pe_int (fun _ _ => rfl)) pa_nil)) (nomark _)) (pss_one (ps_ret (pe_op op_modU (pe_callTy cr_int rfl (T.free 32) (by decide +kernel) (pa_cons (pe_ix (ix_U (K := K)) (pe_ix (ix_U (K := K)) (pv 0) pe_int (fun _ _ => rfl)) (pv 2) (fun _ _ => rfl)) pa_nil)) (pv 1)))) pss_nil) (pss_one (ps_ret (pe_op op_modU (pe_callTy cr_int rfl (T.free 32) (by decide +kernel) (pa_cons (pe_op (op_addU (K := K)) (pe_op (op_mulU (K := K)) (pv 2) pe_int) pe_int) pa_nil)) (pv 1))))))), ?_⟩
  have hne := B.ne
  walk_at "st"
  have fin : ∀ z : Int, Q (.int (z % many)) (upd H b (.lst [.ref d, .int (at_ + 1)])) := fun z => by
    refine k _ _ (Int.emod_nonneg _ (by omega)) (Int.emod_lt_of_pos _ hm) (Kp.mut (by simp)) ⟨at_ + 1, ds, upd_same, upd_other hne h2, by omega⟩
  refine c_ite (fun hlt => ?_) (fun hlt => ?_)
  · walk_at "st"
    rw [List.length_map] at hlt
    refine c_ixL (by walk_at "lk") (atI_ints h3 hlt) ?_
    walk_at "st"
    exact fin _
  · walk_at "st"
    exact fin _
theorem D__law_draw (T : TX K mg) : DefAt P w K mg base CX0 "_law_draw" 2 ["_law_box", "_law_many"] spDraw :=
  def_of T 16 34 sc__law_draw bn__law_draw (fun vs H Q E h => by obtain ⟨b, d, many, rfl, _⟩ := h; rfl) (b__law_draw T)

theorem sc__law_cell : FnScope ["_law_script", "_law_k"] ["_law_script", "_law_k"] (defScope s__law_cell) := ⟨rfl, rfl, rfl, by decide +kernel, rfl, by decide +kernel, by decide +kernel⟩
theorem bn__law_cell : BindN "_law_cell" s__law_cell ["_law_script", "_law_k"] := fun _ _ _ _ _ _ us hl => match us, hl with | [_, _], _ => rfl
def spCell (K : PySem.W.Frag) : Sp := fun vs H Q _ => ∃ (a : Addr) (ns : List Int) (k : Int), vs = [.ref a, .int k] ∧ SqL K H a (ns.map V.int) ∧ 0 ≤ k ∧ ∀ n : Int, Q (.int n) H
theorem b__law_cell (T : TX K mg) : Body P w K mg base "_law_cell" s__law_cell ["_law_script", "_law_k"] 1 (spCell K) := by
  intro cdv A outer s H vs Q E h X hr
  obtain ⟨a, ns, k, rfl, hs, h0, q⟩ := h
  refine ⟨_, (pss_cons (ps_if (pt_cmpR op_ltU (pv 1) (pe_callB (cr_len (K := K)) rfl (T.free 2) PySem.boot_len (pa_cons (pv 0) pa_nil)) (nomark _)) (pss_one (ps_ret (pe_ix (ix_U (K := K)) (pv 0) (pv 1) (fun _ _ => rfl)))) pss_nil) (pss_one (ps_ret pe_int))), ?_⟩
  walk_at "st"
  refine c_ite (fun hlt => ?_) (fun hlt => ?_)
  · walk_at "st"
    rw [List.length_map] at hlt
    refine c_ixL hs (atI_ints h0 hlt) ?_
    exact q _
  · walk_at "st"
    exact q _
theorem D__law_cell (T : TX K mg) : DefAt P w K mg base CX0 "_law_cell" 2 ["_law_script", "_law_k"] (spCell K) :=
  def_of T 14 30 sc__law_cell bn__law_cell (fun vs H Q E h => by obtain ⟨b, d, many, rfl, _⟩ := h; rfl) (b__law_cell T)
theorem sc__law_digits : FnScope ["_law_script", "_law_first", "_law_last", "_law_digits_here", "_law_k", "_law_cell_here", "_law_turn", "_law_seed"] ["_law_script", "_law_first", "_law_last"] (defScope s__law_digits) := ⟨rfl, rfl, rfl, by decide +kernel, rfl, by decide +kernel, by decide +kernel⟩
theorem bn__law_digits : BindN "_law_digits" s__law_digits ["_law_script", "_law_first", "_law_last"] := fun _ _ _ _ _ _ us hl => match us, hl with | [_, _, _], _ => rfl
def spDigits (K : PySem.W.Frag) : Sp := fun vs H Q _ => ∃ (a : Addr) (ns : List Int), vs = [.ref a, .int 0, .int 63] ∧ SqL K H a (ns.map V.int) ∧ ∀ (p : Addr) (ds : List Int), H p = none → Q (.ref p) (upd H p (.lst (ds.map V.int)))
theorem b__law_digits (T : TX K mg) : Body P w K mg base "_law_digits" s__law_digits ["_law_script", "_law_first", "_law_last", "_law_digits_here", "_law_k", "_law_cell_here", "_law_turn", "_law_seed"] 2 (spDigits K) := by
  intro cdv A outer s H vs Q E h X hr
  obtain ⟨a, ns, rfl, hs, q⟩ := h
  have D__law_cell : DefAt P w K mg base CX0 "_law_cell" 2 ["_law_script", "_law_k"] (spCell K) := D__law_cell T
  refine ⟨_, (pss_cons (ps_set (i := 3) sc__law_digits.nd rfl (Or.inl rfl) (pe_lst pa_nil)) (pss_cons (ps_for PassesOwn.never rfl (pi_range2 rfl (T.free 31) (pa_cons (pv 1) (pa_cons (pv 2) pa_nil))) (pg_name (i := 4) sc__law_digits.nd rfl (Or.inl rfl)) (pss_cons (ps_set (i := 5) sc__law_digits.nd rfl (Or.inl rfl) (pe_callA D__law_cell hr pass0 (pa_cons (pv 0) (pa_cons (pv 4) pa_nil)))) (Evl.pss_cut (ps_if (pt_cmpR op_ltU (pv 5) pe_int (nomark _)) (pss_one (ps_set (i := 5) sc__law_digits.nd rfl (Or.inl rfl) (pe_op op_subU pe_int (pe_op (op_mulU (K := K)) pe_int (pv 5))))) pss_nil) (pss_one (ps_if (pt_cmpR op_geU (pv 5) pe_int (nomark _)) (pss_one (ps_for PassesOwn.never rfl (pi_range1 rfl (T.free 31) (pa_cons pe_int pa_nil)) (pg_name (i := 6) sc__law_digits.nd rfl (Or.inl rfl)) (pss_one (ps_if (pt_cmpR op_gtU (pv 5) pe_int (nomark _)) (pss_cons (ps_expr (pe_appendU (K := K) (pv 3) (pe_op op_modU (pe_callTy cr_int rfl (T.free 32) (by decide +kernel) (pa_cons (pv 5) pa_nil)) pe_int))) (pss_one (ps_set (i := 5) sc__law_digits.nd rfl (Or.inl rfl) (pe_op op_divU (pv 5) pe_int)))) pss_nil)))) (pss_cons (ps_set (i := 7) sc__law_digits.nd rfl (Or.inl rfl) (pe_op op_modU (pe_callTy cr_int rfl (T.free 32) (by decide +kernel) (pa_cons (pe_op (op_addU (K := K)) (pe_op (op_addU (K := K)) (pe_op (op_mulU (K := K)) (pv 5) pe_int) (pe_op (op_mulU (K := K)) (pv 4) pe_int)) pe_int) pa_nil)) pe_int)) (pss_one (ps_for PassesOwn.never rfl (pi_range1 rfl (T.free 31) (pa_cons pe_int pa_nil)) (pg_name (i := 6) sc__law_digits.nd rfl (Or.inl rfl)) (pss_cons (ps_set (i := 7) sc__law_digits.nd rfl (Or.inl rfl) (pe_op op_modU (pe_callTy cr_int rfl (T.free 32) (by decide +kernel) (pa_cons (pe_op (op_addU (K := K)) (pe_op (op_addU (K := K)) (pe_op (op_mulU (K := K)) (pv 7) pe_int) (pe_op (op_mulU (K := K)) pe_int (pv 6))) pe_int) pa_nil)) pe_int)) (pss_one (ps_expr (pe_appendU (K := K) (pv 3) (pe_op op_modU (pe_callTy cr_int rfl (T.free 32) (by decide +kernel) (pa_cons (pe_op op_divU (pv 7) pe_int) pa_nil)) pe_int))))))))))))) (pss_one (ps_ret (pv 3))))), ?_⟩
  walk_at "st"
  walk_at "nw"
  rintro p _ ⟨hp, rfl⟩
  walk_at "st"
  refine forR (fun i σ H' => ∃ (ds : List Int) (v4 v5 v6 v7 : Option V), σ = [some (.ref a), some (.int 0), some (.int 63), some (.ref p), v4, v5, v6, v7] ∧ H' = upd H p (.lst (ds.map V.int)) ∧ ds.length ≤ 60 * i)
    ⟨[], _, _, _, _, rfl, rfl, Nat.le_refl _⟩ ?_ ?_
  · rintro i σ _ hi ⟨ds, v4, v5, v6, v7, rfl, rfl, hl⟩
    have hi : i < 63 := hi
    walk_at "st"
    refine ⟨a, ns, _, rfl, by walk_at "lk", by omega, fun n => ?_⟩
    walk_at "st"
    refine c_cut (fun σ' H' => ∃ m : Int, σ' = [some (.ref a), some (.int 0), some (.int 63), some (.ref p), some (.int (0 + (i : Int))), some (.int m), v6, v7] ∧ H' = upd H p (.lst (ds.map V.int))) ?_ ?_
    · walk_at "st"
      refine c_ite (fun hlt => ?_) (fun hlt => ?_)
      · walk_at "st"
        exact ⟨_, rfl, rfl⟩
      · walk_at "st"
        exact ⟨_, rfl, rfl⟩
    · rintro _ _ ⟨m, rfl, rfl⟩
      walk_at "st"
      refine c_ite (fun hlt => ?_) (fun hlt => ?_)
      · walk_at "st"
        refine forR (fun j σ H' => ∃ (ds' : List Int) (v6 : Option V) (m : Int), σ = [some (.ref a), some (.int 0), some (.int 63), some (.ref p), some (.int (0 + (i : Int))), some (.int m), v6, v7] ∧ H' = upd H p (.lst (ds'.map V.int)) ∧ ds'.length ≤ ds.length + j)
          ⟨ds, _, _, rfl, rfl, Nat.le_refl _⟩ ?_ ?_
        · rintro j σ _ hj ⟨ds', v6, m, rfl, rfl, hl'⟩
          have hj : j < 60 := hj
          walk_at "st"
          refine c_ite (fun hlt => ?_) (fun hlt => ?_)
          · walk_at "st"
            refine ⟨ds' ++ [m % 1000], _, _, rfl, by rw [upd_upd, map_snocI], by rw [List.length_append, List.length_singleton]; omega⟩
          · walk_at "st"
            exact ⟨ds', _, _, rfl, rfl, by omega⟩
        · rintro σ _ ⟨ds', v6, m, rfl, rfl, hl'⟩
          have hl' : ds'.length ≤ ds.length + 60 := hl'
          walk_at "st"
          exact ⟨ds', _, _, _, _, rfl, rfl, by omega⟩
      · walk_at "st"
        refine forR (fun j σ H' => ∃ (ds' : List Int) (v6 : Option V) (m z : Int), σ = [some (.ref a), some (.int 0), some (.int 63), some (.ref p), some (.int (0 + (i : Int))), some (.int m), v6, some (.int z)] ∧ H' = upd H p (.lst (ds'.map V.int)) ∧ ds'.length ≤ ds.length + j)
          ⟨ds, _, _, _, rfl, rfl, Nat.le_refl _⟩ ?_ ?_
        · rintro j σ _ hj ⟨ds', v6, m, z, rfl, rfl, hl'⟩
          have hj : j < 12 := hj
          walk_at "st"
          refine ⟨ds' ++ [_], _, _, _, rfl, by rw [upd_upd, map_snocI], by rw [List.length_append, List.length_singleton]; omega⟩
        · rintro σ _ ⟨ds', v6, m, z, rfl, rfl, hl'⟩
          have hl' : ds'.length ≤ ds.length + 12 := hl'
          walk_at "st"
          exact ⟨ds', _, _, _, _, rfl, rfl, by omega⟩
  · rintro σ _ ⟨ds, v4, v5, v6, v7, rfl, rfl, hl⟩
    walk_at "st"
    exact q p ds hp
theorem D__law_digits (T : TX K mg) : DefAt P w K mg base CX0 "_law_digits" 3 ["_law_script", "_law_first", "_law_last"] (spDigits K) :=
  def_of T 15 33 sc__law_digits bn__law_digits (fun vs H Q E h => by obtain ⟨b, d, rfl, _⟩ := h; rfl) (b__law_digits T)
end
end K61



namespace K61
open PySem L2 Sa
/-! names, paths, lines -/
def isNameS (z : Str) : Bool := decide (1 ≤ z.length) && decide (z.length ≤ 8) && z.cps.toList.all fun c => decide (c ∈ (PySem.Str.ofString "abcdefghijklmnopqrstuvwxyz0123456789").cps.toList)
def isPathS (z : Str) : Bool := decide ((Txt.split z (PySem.Str.ofString "/")).length ≤ 3) && (Txt.split z (PySem.Str.ofString "/")).all isNameS
def isPlaceS (z : Str) : Bool := decide (z = PySem.Str.ofString "") || isPathS z
def plainC (c : Nat) : Bool := decide (32 ≤ c) && decide (c ≤ 126) && !decide (c = 34) && !decide (c = 37)
def isPlainS (z : Str) : Bool := z.cps.toList.all plainC
def isLineS (z : Str) : Bool := decide (z.length ≤ 20) && isPlainS z
def isWordS (z : Str) : Bool := decide (1 ≤ z.length) && decide (z.length ≤ 12) && isPlainS z
def isLinesS (ys : List Str) : Bool := decide (ys.length ≤ 12) && ys.all isLineS
def isInsideS (x y : Str) : Bool := decide (y = PySem.Str.ofString "") || Txt.startswith x (y ++ PySem.Str.ofString "/")
/-- a question to one text -/
def spStrB (f : Str → Bool) : Sp := fun vs H Q _ => ∃ z : Str, vs = [.str z] ∧ z.length ≤ 100000 ∧ ∀ H', Kp [] H H' → Q (.bl (f z)) H'
theorem spStrB_len (f : Str → Bool) : ∀ vs H Q E, spStrB f vs H Q E → vs.length = 1 := fun vs H Q E h => by obtain ⟨z, rfl, _⟩ := h; rfl
theorem split_small {z y : Str} (h : z.length ≤ 100000) (hy : 0 < y.length) : (Txt.split z y).length ≤ 100001 := by have := split_many (x := z) y hy; omega
theorem all_bl {α : Type} (ys : List α) (f : α → Bool) : (ys.map fun y => V.bl (f y)) = (ys.map f).map V.bl := by simp [Function.comp_def]
theorem all_id {α : Type} (ys : List α) (f : α → Bool) : (ys.map f).all id = ys.all f := by simp [List.all_map, Function.comp_def]
theorem fil_true {α : Type} (ys : List α) : ys.filter (fun _ => true) = ys := by simp
theorem join_ne_nil {z y : Str} : (Txt.split z y) ≠ [] ∨ z = PySem.Str.ofString "" := by
  by_cases h : Txt.split z y = []
  · right
    have e := StrLaws.join_split z y
    rw [h] at e
    rw [← e]
    rfl
  · exact .inl h
section
variable {P : Program} {w : World} {K : PySem.W.Frag} {mg : Str → Option Value} {base : Heap}
theorem sc_is_name : FnScope ["text", "sign"] ["text"] (defScope s_is_name) := ⟨rfl, rfl, rfl, by decide +kernel, rfl, by decide +kernel, by decide +kernel⟩
theorem bn_is_name : BindN "is_name" s_is_name ["text"] := fun _ _ _ _ _ _ us hl => match us, hl with | [_], _ => rfl
theorem b_is_name (T : TX K mg) : Body P w K mg base "is_name" s_is_name ["text", "sign"] 1 (spStrB isNameS) := by
  intro cdv A outer s H vs Q E h X hr
  obtain ⟨z, rfl, hz, q⟩ := h
  refine ⟨_, (pss_one (ps_ret (pe_and (pe_chain op_leU op_leU pe_int (pe_callB (cr_len (K := K)) rfl (T.free 2) PySem.boot_len (pa_cons (pv 0) pa_nil)) (pe_gInt (T.int 3))) (pe_one (pe_callB (cr_allU (K := K) rfl) rfl (T.free 0) (by decide +kernel) (pa_cons (pe_lc (own := [("sign", 1)]) rfl sc_is_name.nd (pi_str (pv 0)) (blkOk_by (N := ["text", "sign"]) (sc := defScope s_is_name) (by decide +kernel)) (fun _ _ _ _ _ => (pg_name (i := 1) sc_is_name.nd rfl (Or.inl rfl))) (fun _ _ _ _ _ => pts_nil) (fun _ _ _ _ _ => (pe_cmpR (op_inU (K := K)) (pv 1) (pe_gStr (T.str 1)) rfl))) pa_nil)))))), ?_⟩
  have no : ¬ (1 ≤ z.length ∧ z.length ≤ 8) → Q (.bl false) H := fun h => by
    have e : isNameS z = false := by unfold isNameS; by_cases h1 : 1 ≤ z.length <;> by_cases h2 : z.length ≤ 8 <;> simp [h1, h2] <;> exact absurd ⟨h1, h2⟩ h
    have := q H Kp.refl
    rw [e] at this
    exact this
  walk_at "st"
  refine c_ite (fun h1 => ?_) (fun h1 => ?_)
  · walk_at "st"
    refine c_ite (fun h2 => ?_) (fun h2 => ?_)
    · walk_at "st"
      refine lcS_map (fun c => V.bl (decide (c ∈ (PySem.Str.ofString "abcdefghijklmnopqrstuvwxyz0123456789").cps.toList))) (fun _ => true) (by omega) (fun c H' R S hc e k1 k2 => ?_) (fun Dl H' hD e hacc => ?_)
      · walk_at "st"
        refine ⟨rfl, ?_⟩
        walk_at "st"
        exact k1 rfl _ Kp.refl
      · rw [fil_true, all_bl] at hacc
        refine c_allB (SqL.of hacc) ?_
        rw [all_id]
        have g := q H' e
        have e2 : isNameS z = z.cps.toList.all fun c => decide (c ∈ (PySem.Str.ofString "abcdefghijklmnopqrstuvwxyz0123456789").cps.toList) := by
          unfold isNameS
          rw [decide_eq_true (by omega), decide_eq_true (by omega), Bool.true_and, Bool.true_and]
        rw [e2] at g
        exact g
    · walk_at "st"
      exact no (by omega)
  · walk_at "st"
    exact no (by omega)
theorem D_is_name (T : TX K mg) : DefAt P w K mg base CX0 "is_name" 2 ["text"] (spStrB isNameS) :=
  def_of T 0 4 sc_is_name bn_is_name (spStrB_len _) (b_is_name T)
theorem sc_is_path : FnScope ["text", "names", "name"] ["text"] (defScope s_is_path) := ⟨rfl, rfl, rfl, by decide +kernel, rfl, by decide +kernel, by decide +kernel⟩
theorem bn_is_path : BindN "is_path" s_is_path ["text"] := fun _ _ _ _ _ _ us hl => match us, hl with | [_], _ => rfl
theorem b_is_path (T : TX K mg) : Body P w K mg base "is_path" s_is_path ["text", "names", "name"] 2 (spStrB isPathS) := by
  intro cdv A outer s H vs Q E h X hr
  obtain ⟨z, rfl, hz, q⟩ := h
  have D_is_name : DefAt P w K mg base CX0 "is_name" 2 ["text"] (spStrB isNameS) := D_is_name T
  refine ⟨_, (pss_cons (ps_set (i := 1) sc_is_path.nd rfl (Or.inl rfl) (pe_splitU (pv 0) pe_str)) (pss_one (ps_ret (pe_and (pe_cmpR op_leU (pe_callB (cr_len (K := K)) rfl (T.free 2) PySem.boot_len (pa_cons (pv 1) pa_nil)) (pe_gInt (T.int 5)) (nomark _)) (pe_one (pe_callB (cr_allU (K := K) rfl) rfl (T.free 0) (by decide +kernel) (pa_cons (pe_lc (own := [("name", 2)]) rfl sc_is_path.nd (pi_listU (K := K) (pv 1)) (blkOk_by (N := ["text", "names", "name"]) (sc := defScope s_is_path) (by decide +kernel)) (fun _ _ _ _ _ => (pg_name (i := 2) sc_is_path.nd rfl (Or.inl rfl))) (fun _ _ _ _ _ => pts_nil) (fun _ _ _ _ _ => (pe_callA D_is_name hr pass0 (pa_cons (pv 2) pa_nil)))) pa_nil))))))), ?_⟩
  walk_at "st"
  refine c_split (by decide) (by rw [sizeLine_eq]; omega) fun p H1 N => ?_
  have hs := split_small (z := z) (y := PySem.Str.ofString "/") hz (by decide)
  walk_at "st"
  refine c_ite (fun h1 => ?_) (fun h1 => ?_)
  · walk_at "st"
    rw [List.length_map] at h1
    refine lcL_map (fun y => V.bl (isNameS y)) (fun _ => true) (SqL.of N.at_) (by omega) (fun y H' R S hy e k1 k2 => ?_) (fun Dl H' hD e hacc => ?_)
    · walk_at "st"
      refine ⟨rfl, ?_⟩
      walk_at "st"
      have hl := split_part hy
      exact ⟨y, rfl, by omega, fun H4 e4 => k1 rfl _ e4⟩
    · rw [fil_true, all_bl] at hacc
      refine c_allB (SqL.of hacc) ?_
      rw [all_id]
      have g := q H' (N.kp.trans e)
      unfold isPathS at g
      rw [decide_eq_true (by omega), Bool.true_and] at g
      exact g
  · walk_at "st"
    rw [List.length_map] at h1
    have g := q H1 N.kp
    unfold isPathS at g
    rw [decide_eq_false (by omega), Bool.false_and] at g
    exact g
theorem D_is_path (T : TX K mg) : DefAt P w K mg base CX0 "is_path" 3 ["text"] (spStrB isPathS) :=
  def_of T 1 6 sc_is_path bn_is_path (spStrB_len _) (b_is_path T)
theorem sc_is_place : FnScope ["text"] ["text"] (defScope s_is_place) := ⟨rfl, rfl, rfl, by decide +kernel, rfl, by decide +kernel, by decide +kernel⟩
theorem bn_is_place : BindN "is_place" s_is_place ["text"] := fun _ _ _ _ _ _ us hl => match us, hl with | [_], _ => rfl
theorem b_is_place (T : TX K mg) : Body P w K mg base "is_place" s_is_place ["text"] 3 (spStrB isPlaceS) := by
  intro cdv A outer s H vs Q E h X hr
  obtain ⟨z, rfl, hz, q⟩ := h
  have D_is_path : DefAt P w K mg base CX0 "is_path" 3 ["text"] (spStrB isPathS) := D_is_path T
  refine ⟨_, (pss_one (ps_ret (pe_or (pe_cmpR (op_eqU (K := K) hr.units) (pv 0) pe_str (nomark _)) (pe_one (pe_callA D_is_path hr pass0 (pa_cons (pv 0) pa_nil)))))), ?_⟩
  unfold isPlaceS at q
  walk_at "st"
  refine c_ite (fun h1 => ?_) (fun h1 => ?_)
  · walk_at "st"
    have g := q H Kp.refl
    rw [decide_eq_true h1, Bool.true_or] at g
    exact g
  · walk_at "st"
    refine ⟨z, rfl, hz, fun H4 e4 => ?_⟩
    have g := q H4 e4
    rw [decide_eq_false h1, Bool.false_or] at g
    exact g
theorem D_is_place (T : TX K mg) : DefAt P w K mg base CX0 "is_place" 4 ["text"] (spStrB isPlaceS) :=
  def_of T 2 7 sc_is_place bn_is_place (spStrB_len _) (b_is_place T)
theorem sc__is_plain : FnScope ["text", "sign"] ["text"] (defScope s__is_plain) := ⟨rfl, rfl, rfl, by decide +kernel, rfl, by decide +kernel, by decide +kernel⟩
theorem bn__is_plain : BindN "_is_plain" s__is_plain ["text"] := fun _ _ _ _ _ _ us hl => match us, hl with | [_], _ => rfl
theorem b__is_plain (T : TX K mg) : Body P w K mg base "_is_plain" s__is_plain ["text", "sign"] 1 (spStrB isPlainS) := by
  intro cdv A outer s H vs Q E h X hr
  obtain ⟨z, rfl, hz, q⟩ := h
  refine ⟨_, (pss_cons (ps_for PassesOwn.never rfl (pi_str (pv 0)) (pg_name (i := 1) sc__is_plain.nd rfl (Or.inl rfl)) (pss_one (ps_if (PW.pt (pw_or (pt_not (pt_chain op_leU op_leU pe_str (pv 1) pe_str)) (pw_or (pt_cmpR (op_eqU (K := K) hr.units) (pv 1) pe_str (nomark _)) (pw_or1 (pt_cmpR (op_eqU (K := K) hr.units) (pe_callB cr_ord rfl (T.free 8) (by decide +kernel) (pa_cons (pv 1) pa_nil)) (pe_gInt (T.int 9)) (nomark _)))))) (pss_one (ps_ret pe_bl)) pss_nil))) (pss_one (ps_ret pe_bl))), ?_⟩
  walk_at "st"
  refine forS (fun i σ H' => ∃ v, σ = [some (.str z), v] ∧ H = H' ∧ (z.cps.toList.take i).all plainC = true) ⟨_, rfl, rfl, rfl⟩ ?_ ?_
  · rintro i c σ _ hc ⟨v, rfl, rfl, hg⟩
    have yes : plainC c = true → (z.cps.toList.take (i + 1)).all plainC = true := fun h => by rw [take_succ' hc, List.all_append, hg]; simp [h]
    have no : plainC c = false → Q (.bl false) H := fun h => by
      have e : isPlainS z = false := by
        cases q2 : isPlainS z with
        | false => rfl
        | true => rw [List.all_eq_true.mp q2 c (List.mem_of_getElem? hc)] at h; cases h
      have g := q H Kp.refl
      rw [e] at g
      exact g
    have e1 : PySem.Str.ofString " " = ⟨#[32]⟩ := by decide +kernel
    have e2 : PySem.Str.ofString "~" = ⟨#[126]⟩ := by decide +kernel
    have e3 : PySem.Str.ofString "\"" = ⟨#[34]⟩ := by decide +kernel
    have e4 : (⟨#[c]⟩ : Str) = ⟨#[34]⟩ ↔ c = 34 := ⟨fun h => by injection h with h; simpa using h, fun h => by rw [h]⟩
    rw [e1, e2, e3]
    walk_at "st"
    refine c_leC ?_
    walk_at "st"
    refine c_ite (fun h1 => ?_) (fun h1 => ?_)
    · walk_at "st"
      refine c_leC ?_
      walk_at "st"
      refine c_iteN (fun h2 => ?_) (fun h2 => ?_)
      · walk_at "st"
        exact no (by unfold plainC; rw [decide_eq_false h2, Bool.and_false]; rfl)
      · walk_at "st"
        refine c_ite (fun h3 => ?_) (fun h3 => ?_)
        · walk_at "st"
          exact no (by unfold plainC; rw [decide_eq_true (e4.mp h3)]; simp)
        · walk_at "st"
          have h3' : c ≠ 34 := fun h => h3 (e4.mpr h)
          refine c_ite (fun h4 => ?_) (fun h4 => ?_)
          · walk_at "st"
            exact no (by unfold plainC; rw [decide_eq_true (p := c = 37) (by omega)]; simp)
          · walk_at "st"
            exact ⟨_, rfl, rfl, yes (by unfold plainC; simp [h1, h2, h3']; omega)⟩
    · walk_at "st"
      exact no (by unfold plainC; rw [decide_eq_false h1]; rfl)
  · rintro σ _ ⟨v, rfl, rfl, hg⟩
    walk_at "st"
    rw [List.take_length] at hg
    have g := q H Kp.refl
    rw [show isPlainS z = true from hg] at g
    exact g
theorem D__is_plain (T : TX K mg) : DefAt P w K mg base CX0 "_is_plain" 2 ["text"] (spStrB isPlainS) :=
  def_of T 3 10 sc__is_plain bn__is_plain (spStrB_len _) (b__is_plain T)
theorem sc_is_line : FnScope ["text"] ["text"] (defScope s_is_line) := ⟨rfl, rfl, rfl, by decide +kernel, rfl, by decide +kernel, by decide +kernel⟩
theorem bn_is_line : BindN "is_line" s_is_line ["text"] := fun _ _ _ _ _ _ us hl => match us, hl with | [_], _ => rfl
theorem b_is_line (T : TX K mg) : Body P w K mg base "is_line" s_is_line ["text"] 2 (spStrB isLineS) := by
  intro cdv A outer s H vs Q E h X hr
  obtain ⟨z, rfl, hz, q⟩ := h
  have D__is_plain : DefAt P w K mg base CX0 "_is_plain" 2 ["text"] (spStrB isPlainS) := D__is_plain T
  refine ⟨_, (pss_one (ps_ret (pe_and (pe_cmpR op_leU (pe_callB (cr_len (K := K)) rfl (T.free 2) PySem.boot_len (pa_cons (pv 0) pa_nil)) (pe_gInt (T.int 11)) (nomark _)) (pe_one (pe_callA D__is_plain hr pass0 (pa_cons (pv 0) pa_nil)))))), ?_⟩
  unfold isLineS at q
  walk_at "st"
  refine c_ite (fun h1 => ?_) (fun h1 => ?_)
  · walk_at "st"
    refine ⟨z, rfl, hz, fun H4 e4 => ?_⟩
    have g := q H4 e4
    rw [decide_eq_true (by omega), Bool.true_and] at g
    exact g
  · walk_at "st"
    have g := q H Kp.refl
    rw [decide_eq_false (by omega), Bool.false_and] at g
    exact g
theorem D_is_line (T : TX K mg) : DefAt P w K mg base CX0 "is_line" 3 ["text"] (spStrB isLineS) :=
  def_of T 4 12 sc_is_line bn_is_line (spStrB_len _) (b_is_line T)
theorem sc_is_word : FnScope ["text"] ["text"] (defScope s_is_word) := ⟨rfl, rfl, rfl, by decide +kernel, rfl, by decide +kernel, by decide +kernel⟩
theorem bn_is_word : BindN "is_word" s_is_word ["text"] := fun _ _ _ _ _ _ us hl => match us, hl with | [_], _ => rfl
theorem b_is_word (T : TX K mg) : Body P w K mg base "is_word" s_is_word ["text"] 2 (spStrB isWordS) := by
  intro cdv A outer s H vs Q E h X hr
  obtain ⟨z, rfl, hz, q⟩ := h
  have D__is_plain : DefAt P w K mg base CX0 "_is_plain" 2 ["text"] (spStrB isPlainS) := D__is_plain T
  refine ⟨_, (pss_one (ps_ret (pe_and (pe_chain op_leU op_leU pe_int (pe_callB (cr_len (K := K)) rfl (T.free 2) PySem.boot_len (pa_cons (pv 0) pa_nil)) (pe_gInt (T.int 13))) (pe_one (pe_callA D__is_plain hr pass0 (pa_cons (pv 0) pa_nil)))))), ?_⟩
  unfold isWordS at q
  walk_at "st"
  refine c_ite (fun h1 => ?_) (fun h1 => ?_)
  · walk_at "st"
    refine c_ite (fun h2 => ?_) (fun h2 => ?_)
    · walk_at "st"
      refine ⟨z, rfl, hz, fun H4 e4 => ?_⟩
      have g := q H4 e4
      rw [decide_eq_true (by omega), decide_eq_true (by omega), Bool.true_and, Bool.true_and] at g
      exact g
    · walk_at "st"
      have g := q H Kp.refl
      rw [decide_eq_false (p := z.length ≤ 12) (by omega), Bool.and_false, Bool.false_and] at g
      exact g
  · walk_at "st"
    have g := q H Kp.refl
    rw [decide_eq_false (by omega), Bool.false_and] at g
    exact g
theorem D_is_word (T : TX K mg) : DefAt P w K mg base CX0 "is_word" 3 ["text"] (spStrB isWordS) :=
  def_of T 5 14 sc_is_word bn_is_word (spStrB_len _) (b_is_word T)
theorem sc_is_lines : FnScope ["lines", "line"] ["lines"] (defScope s_is_lines) := ⟨rfl, rfl, rfl, by decide +kernel, rfl, by decide +kernel, by decide +kernel⟩
theorem bn_is_lines : BindN "is_lines" s_is_lines ["lines"] := fun _ _ _ _ _ _ us hl => match us, hl with | [_], _ => rfl
def spLines (K : PySem.W.Frag) : Sp := fun vs H Q _ => ∃ (a : Addr) (ys : List Str), vs = [.ref a] ∧ SqT K H a (ys.map V.str) ∧ ys.length ≤ 1000 ∧ (∀ y ∈ ys, y.length ≤ 100000) ∧ ∀ H', Kp [] H H' → Q (.bl (isLinesS ys)) H'
theorem b_is_lines (T : TX K mg) : Body P w K mg base "is_lines" s_is_lines ["lines", "line"] 3 (spLines K) := by
  intro cdv A outer s H vs Q E h X hr
  obtain ⟨a, ys, rfl, hs, hn, hl, q⟩ := h
  have D_is_line : DefAt P w K mg base CX0 "is_line" 3 ["text"] (spStrB isLineS) := D_is_line T
  refine ⟨_, (pss_one (ps_ret (pe_and (pe_cmpR op_leU (pe_callB (cr_len (K := K)) rfl (T.free 2) PySem.boot_len (pa_cons (pv 0) pa_nil)) (pe_gInt (T.int 15)) (nomark _)) (pe_one (pe_callB (cr_allU (K := K) rfl) rfl (T.free 0) (by decide +kernel) (pa_cons (pe_lc (own := [("line", 1)]) rfl sc_is_lines.nd (pi_tupU (K := K) (pv 0)) (blkOk_by (N := ["lines", "line"]) (sc := defScope s_is_lines) (by decide +kernel)) (fun _ _ _ _ _ => (pg_name (i := 1) sc_is_lines.nd rfl (Or.inl rfl))) (fun _ _ _ _ _ => pts_nil) (fun _ _ _ _ _ => (pe_callA D_is_line hr pass0 (pa_cons (pv 1) pa_nil)))) pa_nil)))))), ?_⟩
  unfold isLinesS at q
  walk_at "st"
  refine c_ite (fun h1 => ?_) (fun h1 => ?_)
  · walk_at "st"
    rw [List.length_map] at h1
    refine lcT_map (fun y => V.bl (isLineS y)) (fun _ => true) hs (by omega) (fun y H' R S hy e k1 k2 => ?_) (fun Dl H' hD e hacc => ?_)
    · walk_at "st"
      refine ⟨rfl, ?_⟩
      walk_at "st"
      exact ⟨y, rfl, hl y hy, fun H4 e4 => k1 rfl _ e4⟩
    · rw [fil_true, all_bl] at hacc
      refine c_allB (SqL.of hacc) ?_
      rw [all_id]
      have g := q H' e
      rw [decide_eq_true (by omega), Bool.true_and] at g
      exact g
  · walk_at "st"
    rw [List.length_map] at h1
    have g := q H Kp.refl
    rw [decide_eq_false (by omega), Bool.false_and] at g
    exact g
theorem D_is_lines (T : TX K mg) : DefAt P w K mg base CX0 "is_lines" 4 ["lines"] (spLines K) :=
  def_of T 6 16 sc_is_lines bn_is_lines (fun vs H Q E h => by obtain ⟨z, ys, rfl, _⟩ := h; rfl) (b_is_lines T)
def spInside : Sp := fun vs H Q _ => ∃ x y : Str, vs = [.str x, .str y] ∧ y.length ≤ 100000 ∧ Q (.bl (isInsideS x y)) H
end
end K61



namespace K61
open PySem L2 Sa
section
variable {P : Program} {w : World} {K : PySem.W.Frag} {mg : Str → Option Value} {base : Heap}
theorem sc_OutOfRange___init__ : FnScope ["self", "name"] ["self", "name"] (defScope s_OutOfRange___init__) := ⟨rfl, rfl, rfl, by decide +kernel, rfl, by decide +kernel, by decide +kernel⟩
theorem bn_OutOfRange___init__ : BindM "__init__" "OutOfRange.__init__" s_OutOfRange___init__ ["self", "name"] := fun _ _ _ _ _ _ us hl => match us, hl with | [_, _], _ => rfl
theorem b_oor (T : TX K mg) : BodyM P w K mg base "OutOfRange" "__init__" "OutOfRange.__init__" s_OutOfRange___init__ ["self", "name"] 1 (spInit K (He.ga K "OutOfRange") "name") := by
  intro cdv A outer s H vs Q E h X hr
  obtain ⟨a, v, rfl, ha, q⟩ := h
  refine ⟨_, (pss_one (ps_ost (pv 0) (pv 1))), ?_⟩
  have hc := T.oex 1
  walk_at "st"
  refine c_ost ?_
  walk_at "st"
  refine ⟨a, He.ga K "OutOfRange", rfl, hc, He.noat_ok (T.fact 93), .inl ⟨ha, fun dx h1 h2 => ?_⟩⟩
  exact q dx h1 h2
theorem E_OutOfRange (T : TX K mg) : ErrC P w K mg base "OutOfRange" "name" :=
  ⟨T.glo 17, T.oex 1, T.xfc 2, He.noat_ok (T.fact 93), _,
    meth_of T 48 75 sc_OutOfRange___init__ bn_OutOfRange___init__ (fun vs H Q E h => by obtain ⟨b, d, rfl, _⟩ := h; rfl) (b_oor T)⟩
end
end K61



namespace K61
open PySem L2 Sa
/-- sizes that are no matter -/
structure Sane (fs : List File) : Prop where
  len : fs.length ≤ 500
  row : ∀ f ∈ fs, f.1.length ≤ 1000 ∧ f.2.length ≤ 500 ∧ ∀ y ∈ f.2, y.length ≤ 1000
def pathsOf (fs : List File) : List Str := fs.map Prod.fst
def goodRow (ps : List Str) (f : File) : Bool := isPathS f.1 && isLinesS f.2 && !(ps.any fun o => isInsideS f.1 o)
def goodF (fs : List File) : Bool := decide (fs.length ≤ 20) && !decide ((ded (pathsOf fs)).length < fs.length) && fs.all (goodRow (pathsOf fs))
section
variable {P : Program} {w : World} {K : PySem.W.Frag} {mg : Str → Option Value} {base : Heap}
def spAreFiles (K : PySem.W.Frag) : Sp := fun vs H Q _ => ∃ (a : Addr) (fs : List File), vs = [.ref a] ∧ RowsAt K H a fs ∧ Sane fs ∧ ∀ H', Kp [] H H' → Q (.bl (goodF fs)) H'
end
end K61


namespace K61
open PySem L2 Sa
section
variable {P : Program} {w : World} {K : PySem.W.Frag} {mg : Str → Option Value} {base : Heap}
def spTreeInit (K : PySem.W.Frag) : Sp := fun vs H Q E => ∃ (a x dx : Addr) (fs : List File), vs = [.ref x, .ref a] ∧ H x = some (.ins (He.ga K "Tree") dx []) ∧ RowsAt K H a fs ∧ Sane fs ∧
  (goodF fs = true → ∀ H', Kp [x] H H' → TreeAt K H' x (sortF fs) → Q .non H') ∧ (goodF fs = false → ∀ d H', Kp [] H H' → H' d = some (.xd [("name", .str "files")]) → E (.ref (He.ga K "OutOfRange")) (some d) H')
theorem ded_fold : ∀ (xs σ : List Str), (xs.foldl stepT σ).length ≤ σ.length + xs.length ∧ ((xs.foldl stepT σ).length = σ.length + xs.length → xs.Nodup ∧ ∀ x ∈ xs, x ∉ σ)
  | [], σ => ⟨Nat.le_refl _, fun _ => ⟨.nil, by simp⟩⟩
  | x :: r, σ => by
    obtain ⟨i1, i2⟩ := ded_fold r (stepT σ x)
    have hl := stepT_length σ x
    rw [List.foldl_cons, List.length_cons]
    by_cases h : σ.any (· == x) = true
    · rw [if_pos h] at hl
      exact ⟨by omega, fun e => by omega⟩
    · rw [if_neg h] at hl
      refine ⟨by omega, fun e => ?_⟩
      obtain ⟨j1, j2⟩ := i2 (by omega)
      have es : stepT σ x = σ ++ [x] := by unfold stepT; rw [if_neg h]
      rw [es] at j2
      have hx : x ∉ σ := fun hm => h (List.any_eq_true.mpr ⟨x, hm, by simp⟩)
      refine ⟨List.nodup_cons.mpr ⟨fun hm => j2 x hm (by simp), j1⟩, fun y hy => ?_⟩
      rcases List.mem_cons.mp hy with rfl | hy
      · exact hx
      · exact fun hm => j2 y hy (by simp [hm])
theorem ded_once {xs : List Str} (h : (ded xs).length = xs.length) : xs.Nodup := ((ded_fold xs []).2 (by rw [List.length_nil, Nat.zero_add]; exact h)).1
theorem goodF_once {fs : List File} (h : goodF fs = true) : Once fs := by
  simp only [goodF, Bool.and_eq_true, decide_eq_true_eq, Bool.not_eq_true', decide_eq_false_iff_not] at h
  have h1 := ded_le (pathsOf fs)
  have h2 : (pathsOf fs).length = fs.length := by unfold pathsOf; rw [List.length_map]
  show (pathsOf fs).Nodup
  exact ded_once (by omega)
end
end K61



namespace K61
open PySem L2 Sa
section
variable {P : Program} {w : World} {K : PySem.W.Frag} {mg : Str → Option Value} {base : Heap}
theorem valV_at {ls : List (Addr × File)} (ho : Once (ls.map Prod.snd)) {p : Str} : valV (ls.map fun l => ((Sum.inr l.2.1 : Key), V.ref l.1)) (Sum.inr p) = (ls.find? fun l => decide (l.2.1 = p)).map fun l => V.ref l.1 := by
  unfold valV
  rw [List.find?_map, Option.map_map]
  congr 1
  congr 1
  funext l
  simp
/-- where the lines of a path lie -/
def linesAt (ls : List (Addr × File)) (p : Str) : Addr := ((ls.find? fun l => decide (l.2.1 = p)).map Prod.fst).getD 0
theorem linesAt_ok {ls : List (Addr × File)} (ho : Once (ls.map Prod.snd)) {f : File} (hf : f ∈ ls.map Prod.snd) : ∃ l ∈ ls, l.2 = f ∧ ls.find? (fun l => decide (l.2.1 = f.1)) = some l ∧ linesAt ls f.1 = l.1 := by
  obtain ⟨l0, hl0, rfl⟩ := List.mem_map.mp hf
  cases h : ls.find? fun l => decide (l.2.1 = l0.2.1) with
  | none =>
    have := List.find?_eq_none.mp h l0 hl0
    simp at this
  | some l =>
    have hm := List.mem_of_find?_eq_some h
    have he : l.2.1 = l0.2.1 := by have := List.find?_some h; simpa using this
    have e1 := (at_some ho).mpr (show (l0.2.1, l0.2.2) ∈ ls.map Prod.snd from List.mem_map_of_mem (f := Prod.snd) hl0)
    have e2 := (at_some ho).mpr (show (l.2.1, l.2.2) ∈ ls.map Prod.snd from List.mem_map_of_mem (f := Prod.snd) hm)
    rw [he, e1] at e2
    refine ⟨l, hm, Prod.ext he (Option.some.inj e2).symm, rfl, ?_⟩
    unfold linesAt
    rw [h]
    rfl
def spTLines (K : PySem.W.Frag) : Sp := fun vs H Q _ => ∃ (x : Addr) (p : Str) (fs : List File), vs = [.ref x, .str p] ∧ TreeAt K H x fs ∧ (at? fs p = none → Q .non H) ∧ (∀ ls l, at? fs p = some ls → SqT K H l (ls.map V.str) → Q (.ref l) H)
def spTFiles (K : PySem.W.Frag) : Sp := fun vs H Q _ => ∃ (x : Addr) (fs : List File), vs = [.ref x] ∧ TreeAt K H x fs ∧ fs.length ≤ 60 ∧ ∀ p H' (rs : List RowA), Kp [] H H' → SqT K H' p (rs.map fun r => V.ref r.1) → rs.map (fun r => r.2.2) = fs → (∀ r ∈ rs, RowOk K H' r) → Q (.ref p) H'
end
end K61



namespace K61
open PySem L2 Sa
section
variable {P : Program} {w : World} {K : PySem.W.Frag} {mg : Str → Option Value} {base : Heap}
def spTPaths (K : PySem.W.Frag) (g : Str → Str → Bool) : Sp := fun vs H Q _ => ∃ (x : Addr) (z : Str) (fs : List File), vs = [.ref x, .str z] ∧ TreeAt K H x fs ∧ fs.length ≤ 60 ∧ (∀ p ∈ pathsOf fs, p.length ≤ 1000) ∧ z.length ≤ 1000 ∧
  ∀ p H', Kp [] H H' → SqT K H' p (((pathsOf fs).filter fun y => g y z).map V.str) → Q (.ref p) H'
def isFolderF (fs : List File) (z : Str) : Bool := decide (z = PySem.Str.ofString "") || decide (0 < ((pathsOf fs).filter fun y => isInsideS y z).length)
def spTFolder (K : PySem.W.Frag) : Sp := fun vs H Q _ => ∃ (x : Addr) (z : Str) (fs : List File), vs = [.ref x, .str z] ∧ TreeAt K H x fs ∧ fs.length ≤ 60 ∧ (∀ p ∈ pathsOf fs, p.length ≤ 1000) ∧ z.length ≤ 1000 ∧ ∀ H', Kp [] H H' → Q (.bl (isFolderF fs z)) H'
end
end K61



namespace K61
open PySem L2 Sa
theorem c_newTree {K : PySem.W.Frag} {H1 : Hp} {L : Addr} {fs : List File} {Q : VK} {E : XK} (hL : RowsAt K H1 L fs) (hs : Sane fs) (q1 : goodF fs = true → ∀ x H', Kp [] H1 H' → TreeAt K H' x (sortF fs) → Q (.ref x) H')
    (q2 : goodF fs = false → ∀ d H', Kp [] H1 H' → H' d = some (.xd [("name", .str "files")]) → E (.ref (He.ga K "OutOfRange")) (some d) H') : NewK K "Tree" (spTreeInit K) [.ref L] H1 Q E := by
  intro x dx h1 h2 h3
  have k1 : Kp [] H1 (upd H1 dx (.own x)) := Kp.new h2
  have hx : upd H1 dx (.own x) x = none := by rw [upd_ne (Ne.symm h3)]; exact h1
  have k2 : Kp [] H1 (upd (upd H1 dx (.own x)) x (.ins (He.ga K "Tree") dx [])) := k1.trans (Kp.new hx)
  refine ⟨L, x, dx, fs, rfl, upd_same, hL.kp k2, hs, fun g H' e ht => ⟨rfl, q1 g x H' (Kp.drop_fresh (k2.mono.trans e) h1) ht⟩, fun g d H' e hd => q2 g d H' (k2.trans e) hd⟩
/-- the files with another one, without one -/
def withoutF (fs : List File) (p : Str) : List File := fs.filter fun f => !decide (f.1 = p)
def withF (fs : List File) (p : Str) (ls : List Str) : List File := withoutF fs p ++ [(p, ls)]
section
variable {P : Program} {w : World} {K : PySem.W.Frag} {mg : Str → Option Value} {base : Heap}
def spTWith (K : PySem.W.Frag) : Sp := fun vs H Q E => ∃ (x l : Addr) (p : Str) (ls : List Str) (fs : List File), vs = [.ref x, .str p, .ref l] ∧ TreeAt K H x fs ∧ fs.length ≤ 60 ∧ SqT K H l (ls.map V.str) ∧ Sane (withF fs p ls) ∧
  (goodF (withF fs p ls) = true → ∀ y H', Kp [] H H' → TreeAt K H' y (sortF (withF fs p ls)) → Q (.ref y) H') ∧ (goodF (withF fs p ls) = false → ∀ d H', Kp [] H H' → H' d = some (.xd [("name", .str "files")]) → E (.ref (He.ga K "OutOfRange")) (some d) H')
def spTWithout (K : PySem.W.Frag) : Sp := fun vs H Q E => ∃ (x : Addr) (p : Str) (fs : List File), vs = [.ref x, .str p] ∧ TreeAt K H x fs ∧ fs.length ≤ 60 ∧ Sane (withoutF fs p) ∧
  (goodF (withoutF fs p) = true → ∀ y H', Kp [] H H' → TreeAt K H' y (sortF (withoutF fs p)) → Q (.ref y) H') ∧ (goodF (withoutF fs p) = false → ∀ d H', Kp [] H H' → H' d = some (.xd [("name", .str "files")]) → E (.ref (He.ga K "OutOfRange")) (some d) H')
end
end K61



namespace K61
open PySem L2 Sa
inductive Action where
  | read (p : Str) | kind (z : Str) | list (z : Str) | find (z w : Str) | count (z : Str)
  | write (p : Str) (ls : List Str) | remove (p : Str) | move (p t : Str) | splice (p : Str) (old new : List Str)
/-- an action as it lies in the heap -/
def ActAt (K : PySem.W.Frag) (H : Hp) (a : Addr) : Action → Prop
  | .read p => SqT K H a [.str "read", .str p]
  | .kind z => SqT K H a [.str "kind", .str z]
  | .list z => SqT K H a [.str "list", .str z]
  | .find z w => SqT K H a [.str "find", .str z, .str w]
  | .count z => SqT K H a [.str "count", .str z]
  | .write p ls => ∃ l, SqT K H a [.str "write", .str p, .ref l] ∧ SqT K H l (ls.map V.str)
  | .remove p => SqT K H a [.str "remove", .str p]
  | .move p t => SqT K H a [.str "move", .str p, .str t]
  | .splice p old new => ∃ l m, SqT K H a [.str "splice", .str p, .ref l, .ref m] ∧ SqT K H l (old.map V.str) ∧ SqT K H m (new.map V.str)
theorem ActAt.kp {K : PySem.W.Frag} {H H' : Hp} {a : Addr} (e : Kp [] H H') : ∀ {x : Action}, ActAt K H a x → ActAt K H' a x
  | .read _, h => SqT.kp e h
  | .kind _, h => SqT.kp e h
  | .list _, h => SqT.kp e h
  | .find _ _, h => SqT.kp e h
  | .count _, h => SqT.kp e h
  | .write _ _, ⟨l, h1, h2⟩ => ⟨l, SqT.kp e h1, SqT.kp e h2⟩
  | .remove _, h => SqT.kp e h
  | .move _ _, h => SqT.kp e h
  | .splice _ _ _, ⟨l, m, h1, h2, h3⟩ => ⟨l, m, SqT.kp e h1, SqT.kp e h2, SqT.kp e h3⟩
/-- sizes that are no matter -/
def saneS (z : Str) : Prop := z.length ≤ 1000
def saneL (ys : List Str) : Prop := ys.length ≤ 500 ∧ ∀ y ∈ ys, y.length ≤ 1000
def Action.sane : Action → Prop
  | .read p => saneS p
  | .kind z => saneS z
  | .list z => saneS z
  | .find z w => saneS z ∧ saneS w
  | .count z => saneS z
  | .write p ls => saneS p ∧ saneL ls
  | .remove p => saneS p
  | .move p t => saneS p ∧ saneS t
  | .splice p old new => saneS p ∧ saneL old ∧ saneL new
/-- the first part that is out of bounds -/
def Action.bad : Action → Option Str
  | .read p => if isPathS p then none else some "path"
  | .kind z => if isPlaceS z then none else some "place"
  | .list z => if isPlaceS z then none else some "place"
  | .find z w => if isPlaceS z then (if isWordS w then none else some "word") else some "place"
  | .count z => if isPlaceS z then none else some "place"
  | .write p ls => if isPathS p then (if isLinesS ls then none else some "lines") else some "path"
  | .remove p => if isPathS p then none else some "path"
  | .move p t => if isPathS p then (if isPathS t then none else some "target") else some "path"
  | .splice p old new => if isPathS p then (if isLinesS old && decide (0 < old.length) then (if isLinesS new then none else some "new") else some "old") else some "path"
section
variable {P : Program} {w : World} {K : PySem.W.Frag} {mg : Str → Option Value} {base : Heap}
/-- the error of a bad part -/
def RaisesE (K : PySem.W.Frag) (H : Hp) (E : XK) (nm : Str) : Prop := ∀ d H', Kp [] H H' → H' d = some (.xd [("name", .str nm)]) → E (.ref (He.ga K "OutOfRange")) (some d) H'
theorem RaisesE.kp {K : PySem.W.Frag} {H H1 : Hp} {E : XK} {nm : Str} (h : RaisesE K H E nm) (e : Kp [] H H1) : RaisesE K H1 E nm := fun d H' e' hd => h d H' (e.trans e') hd
def spCheck (K : PySem.W.Frag) : Sp := fun vs H Q E => ∃ (b : Bool) (nm : Str), vs = [.bl b, .str nm] ∧ (b = true → Q .non H) ∧ (b = false → RaisesE K H E nm)
theorem sc__check : FnScope ["good", "name"] ["good", "name"] (defScope s__check) := ⟨rfl, rfl, rfl, by decide +kernel, rfl, by decide +kernel, by decide +kernel⟩
theorem bn__check : BindN "_check" s__check ["good", "name"] := fun _ _ _ _ _ _ us hl => match us, hl with | [_, _], _ => rfl
theorem b__check (T : TX K mg) : BodyX P w K mg base "_check" s__check ["good", "name"] 3 (spCheck K) := by
  intro cdv A outer s H vs Q E h X hr tk
  obtain ⟨b, nm, rfl, q1, q2⟩ := h
  have E_OutOfRange := E_OutOfRange (P := P) (w := w) (base := base) T
  refine ⟨_, (pss_one (ps_if (pt_not (pt_tru (K := K) (pv 0))) (pss_one (ps_raiseE (K := K) E_OutOfRange hr tk (pa_cons (pv 1) pa_nil))) pss_nil)), ?_⟩
  walk_at "st"
  refine c_iteNB (fun g => ?_) (fun g => ?_)
  · walk_at "st"
    exact c_err fun d H2 N => q2 g d H2 N.kp N.at_
  · walk_at "st"
    exact q1 g
theorem D__check (T : TX K mg) : DefAt P w K mg base (L2.CX P w) "_check" 4 ["good", "name"] (spCheck K) :=
  def_ofX T 7 18 sc__check bn__check (by walk_at "len") (b__check T)
def spCheckAct (K : PySem.W.Frag) : Sp := fun vs H Q E => ∃ (a : Addr) (x : Action), vs = [.ref a] ∧ ActAt K H a x ∧ x.sane ∧ (x.bad = none → ∀ H', Kp [] H H' → Q .non H') ∧ (∀ nm, x.bad = some nm → RaisesE K H E nm)
theorem sc_check_action : FnScope ["action", "word"] ["action"] (defScope s_check_action) := ⟨rfl, rfl, rfl, by decide +kernel, rfl, by decide +kernel, by decide +kernel⟩
theorem bn_check_action : BindN "check_action" s_check_action ["action"] := fun _ _ _ _ _ _ us hl => match us, hl with | [_], _ => rfl
theorem b_check_action (T : TX K mg) : BodyX P w K mg base "check_action" s_check_action ["action", "word"] 4 (spCheckAct K) := by
  intro cdv A outer s H vs Q E h X hr tk
  obtain ⟨a, x, rfl, ha, hs, q1, q2⟩ := h
  have D__check := D__check (P := P) (w := w) (base := base) T; have D_is_lines := D_is_lines (P := P) (w := w) (base := base) T; have D_is_path := D_is_path (P := P) (w := w) (base := base) T; have D_is_place := D_is_place (P := P) (w := w) (base := base) T; have D_is_word := D_is_word (P := P) (w := w) (base := base) T
  refine ⟨_, (pss_cons (ps_set (i := 1) sc_check_action.nd rfl (Or.inl rfl) (pe_ix (ix_U (K := K)) (pv 0) pe_int (fun _ _ => rfl))) (pss_cons (ps_if (PW.pt (pw_or (pt_cmpR (op_eqU (K := K) hr.units) (pv 1) pe_str (nomark _)) (pw_or (pt_cmpR (op_eqU (K := K) hr.units) (pv 1) pe_str (nomark _)) (pw_or (pt_cmpR (op_eqU (K := K) hr.units) (pv 1) pe_str (nomark _)) (pw_or1 (pt_cmpR (op_eqU (K := K) hr.units) (pv 1) pe_str (nomark _))))))) (pss_one (ps_expr (pe_callX D__check hr tk (pa_cons (pe_callA D_is_place hr pass0 (pa_cons (pe_ix (ix_U (K := K)) (pv 0) pe_int (fun _ _ => rfl)) pa_nil)) (pa_cons pe_str pa_nil))))) (pss_one (ps_expr (pe_callX D__check hr tk (pa_cons (pe_callA D_is_path hr pass0 (pa_cons (pe_ix (ix_U (K := K)) (pv 0) pe_int (fun _ _ => rfl)) pa_nil)) (pa_cons pe_str pa_nil)))))) (pss_one (ps_if (pt_cmpR (op_eqU (K := K) hr.units) (pv 1) pe_str (nomark _)) (pss_one (ps_expr (pe_callX D__check hr tk (pa_cons (pe_callA D_is_word hr pass0 (pa_cons (pe_ix (ix_U (K := K)) (pv 0) pe_int (fun _ _ => rfl)) pa_nil)) (pa_cons pe_str pa_nil))))) (pss_one (ps_if (pt_cmpR (op_eqU (K := K) hr.units) (pv 1) pe_str (nomark _)) (pss_one (ps_expr (pe_callX D__check hr tk (pa_cons (pe_callA D_is_lines hr pass0 (pa_cons (pe_ix (ix_U (K := K)) (pv 0) pe_int (fun _ _ => rfl)) pa_nil)) (pa_cons pe_str pa_nil))))) (pss_one (ps_if (pt_cmpR (op_eqU (K := K) hr.units) (pv 1) pe_str (nomark _)) (pss_one (ps_expr (pe_callX D__check hr tk (pa_cons (pe_callA D_is_path hr pass0 (pa_cons (pe_ix (ix_U (K := K)) (pv 0) pe_int (fun _ _ => rfl)) pa_nil)) (pa_cons pe_str pa_nil))))) (pss_one (ps_if (pt_cmpR (op_eqU (K := K) hr.units) (pv 1) pe_str (nomark _)) (pss_cons (ps_expr (pe_callX D__check hr tk (pa_cons (pe_and (pe_callA D_is_lines hr pass0 (pa_cons (pe_ix (ix_U (K := K)) (pv 0) pe_int (fun _ _ => rfl)) pa_nil)) (pe_one (pe_cmpR op_gtU (pe_callB (cr_len (K := K)) rfl (T.free 2) PySem.boot_len (pa_cons (pe_ix (ix_U (K := K)) (pv 0) pe_int (fun _ _ => rfl)) pa_nil)) pe_int (nomark _)))) (pa_cons pe_str pa_nil)))) (pss_one (ps_expr (pe_callX D__check hr tk (pa_cons (pe_callA D_is_lines hr pass0 (pa_cons (pe_ix (ix_U (K := K)) (pv 0) pe_int (fun _ _ => rfl)) pa_nil)) (pa_cons pe_str pa_nil)))))) pss_nil)))))))))), ?_⟩
  have big : ∀ {z : Str}, saneS z → z.length ≤ 100000 := fun {z} h => Nat.le_trans h (by decide)
  have bigL : ∀ {ys : List Str}, saneL ys → ys.length ≤ 1000 ∧ ∀ y ∈ ys, y.length ≤ 100000 := fun {ys} h => ⟨Nat.le_trans h.1 (by decide), fun y hy => Nat.le_trans (h.2 y hy) (by decide)⟩
  cases x with
  | read p =>
    walk_at "dc"
    refine ⟨p, rfl, big hs, fun H1 e1 => ?_⟩
    walk_at "st"
    refine ⟨_, _, rfl, fun g1 => ?_, fun g1 => ?_⟩
    rotate_left
    · exact (q2 _ (by simp [Action.bad, g1])).kp e1
    walk_at "dc"
    exact q1 (by simp [Action.bad, g1]) _ e1
  | kind p =>
    walk_at "dc"
    refine ⟨p, rfl, big hs, fun H1 e1 => ?_⟩
    walk_at "st"
    refine ⟨_, _, rfl, fun g1 => ?_, fun g1 => ?_⟩
    rotate_left
    · exact (q2 _ (by simp [Action.bad, g1])).kp e1
    walk_at "dc"
    exact q1 (by simp [Action.bad, g1]) _ e1
  | list p =>
    walk_at "dc"
    refine ⟨p, rfl, big hs, fun H1 e1 => ?_⟩
    walk_at "st"
    refine ⟨_, _, rfl, fun g1 => ?_, fun g1 => ?_⟩
    rotate_left
    · exact (q2 _ (by simp [Action.bad, g1])).kp e1
    walk_at "dc"
    exact q1 (by simp [Action.bad, g1]) _ e1
  | count p =>
    walk_at "dc"
    refine ⟨p, rfl, big hs, fun H1 e1 => ?_⟩
    walk_at "st"
    refine ⟨_, _, rfl, fun g1 => ?_, fun g1 => ?_⟩
    rotate_left
    · exact (q2 _ (by simp [Action.bad, g1])).kp e1
    walk_at "dc"
    exact q1 (by simp [Action.bad, g1]) _ e1
  | remove p =>
    walk_at "dc"
    refine ⟨p, rfl, big hs, fun H1 e1 => ?_⟩
    walk_at "st"
    refine ⟨_, _, rfl, fun g1 => ?_, fun g1 => ?_⟩
    rotate_left
    · exact (q2 _ (by simp [Action.bad, g1])).kp e1
    walk_at "dc"
    exact q1 (by simp [Action.bad, g1]) _ e1
  | find z w =>
    walk_at "dc"
    refine ⟨z, rfl, big hs.1, fun H1 e1 => ?_⟩
    walk_at "st"
    refine ⟨_, _, rfl, fun g1 => ?_, fun g1 => ?_⟩
    rotate_left
    · exact (q2 _ (by simp [Action.bad, g1])).kp e1
    walk_at "dc"
    refine c_ixT (SqT.kp e1 ha) rfl ?_
    walk_at "st"
    refine ⟨w, rfl, big hs.2, fun H2 e2 => ?_⟩
    walk_at "st"
    refine ⟨_, _, rfl, fun g2 => ?_, fun g2 => ?_⟩
    rotate_left
    · exact (q2 _ (by simp [Action.bad, g1, g2])).kp (e1.trans e2)
    walk_at "dc"
    exact q1 (by simp [Action.bad, g1, g2]) _ (e1.trans e2)
  | move p t =>
    walk_at "dc"
    refine ⟨p, rfl, big hs.1, fun H1 e1 => ?_⟩
    walk_at "st"
    refine ⟨_, _, rfl, fun g1 => ?_, fun g1 => ?_⟩
    rotate_left
    · exact (q2 _ (by simp [Action.bad, g1])).kp e1
    walk_at "dc"
    refine c_ixT (SqT.kp e1 ha) rfl ?_
    walk_at "st"
    refine ⟨t, rfl, big hs.2, fun H2 e2 => ?_⟩
    walk_at "st"
    refine ⟨_, _, rfl, fun g2 => ?_, fun g2 => ?_⟩
    rotate_left
    · exact (q2 _ (by simp [Action.bad, g1, g2])).kp (e1.trans e2)
    walk_at "dc"
    exact q1 (by simp [Action.bad, g1, g2]) _ (e1.trans e2)
  | write p ls =>
    obtain ⟨l, ha, hl⟩ := ha
    walk_at "dc"
    refine ⟨p, rfl, big hs.1, fun H1 e1 => ?_⟩
    walk_at "st"
    refine ⟨_, _, rfl, fun g1 => ?_, fun g1 => ?_⟩
    rotate_left
    · exact (q2 _ (by simp [Action.bad, g1])).kp e1
    walk_at "dc"
    refine c_ixT (SqT.kp e1 ha) rfl ?_
    walk_at "st"
    refine ⟨_, _, rfl, SqT.kp e1 hl, (bigL hs.2).1, (bigL hs.2).2, fun H2 e2 => ?_⟩
    walk_at "st"
    refine ⟨_, _, rfl, fun g2 => ?_, fun g2 => ?_⟩
    rotate_left
    · exact (q2 _ (by simp [Action.bad, g1, g2])).kp (e1.trans e2)
    walk_at "dc"
    exact q1 (by simp [Action.bad, g1, g2]) _ (e1.trans e2)
  | splice p old new =>
    obtain ⟨l, m, ha, hl, hm⟩ := ha
    walk_at "dc"
    refine ⟨p, rfl, big hs.1, fun H1 e1 => ?_⟩
    walk_at "st"
    refine ⟨_, _, rfl, fun g1 => ?_, fun g1 => ?_⟩
    rotate_left
    · exact (q2 _ (by simp [Action.bad, g1])).kp e1
    walk_at "dc"
    refine c_ixT (SqT.kp e1 ha) rfl ?_
    walk_at "st"
    refine ⟨_, _, rfl, SqT.kp e1 hl, (bigL hs.2.1).1, (bigL hs.2.1).2, fun H2 e2 => ?_⟩
    walk_at "st"
    refine c_andK (decide (0 < old.length)) (fun R k => ?_) (fun H3 e3 => ?_)
    · walk_at "st"
      refine c_ixT (SqT.kp (e1.trans e2) ha) rfl ?_
      walk_at "st"
      refine c_lenT (SqT.kp (e1.trans e2) hl) ?_
      walk_at "st"
      have e : decide ((0 : Int) < ((old.map V.str).length : Int)) = decide (0 < old.length) := by rw [List.length_map]; congr 1; exact propext ⟨fun h => by omega, fun h => by omega⟩
      rw [e]
      exact k _ Kp.refl
    walk_at "st"
    refine ⟨_, _, rfl, fun g2 => ?_, fun g2 => ?_⟩
    rotate_left
    · exact (q2 _ (by simp only [Action.bad, g1, g2]; rfl)).kp ((e1.trans e2).trans e3)
    walk_at "dc"
    refine c_ixT (SqT.kp ((e1.trans e2).trans e3) ha) rfl ?_
    walk_at "st"
    refine ⟨_, _, rfl, SqT.kp ((e1.trans e2).trans e3) hm, (bigL hs.2.2).1, (bigL hs.2.2).2, fun H4 e4 => ?_⟩
    walk_at "st"
    refine ⟨_, _, rfl, fun g3 => ?_, fun g3 => ?_⟩
    rotate_left
    · exact (q2 _ (by simp only [Action.bad, g1, g2, g3]; rfl)).kp (((e1.trans e2).trans e3).trans e4)
    walk_at "dc"
    exact q1 (by simp only [Action.bad, g1, g2, g3]; rfl) _ (((e1.trans e2).trans e3).trans e4)
theorem D_check_action (T : TX K mg) : DefAt P w K mg base (L2.CX P w) "check_action" 5 ["action"] (spCheckAct K) :=
  def_ofX T 8 19 sc_check_action bn_check_action (by walk_at "len") (b_check_action T)
end
end K61



namespace K61
open PySem L2 Sa
/-! ## the plain model of questions -/
def Action.isQ : Action → Bool
  | .read _ | .kind _ | .list _ | .find _ _ | .count _ => true
  | _ => false
def insideF (fs : List File) (z : Str) : List Str := (pathsOf fs).filter fun y => isInsideS y z
def aboveF (fs : List File) (z : Str) : List Str := (pathsOf fs).filter fun y => isInsideS z y
def startN (z : Str) : Int := if decide (z = PySem.Str.ofString "") = true then 0 else (z.length : Int) + 1
def firstN (z p : Str) : Str := (Txt.partition (cutS p (some (startN z)) none) (PySem.Str.ofString "/")).1 ++ (Txt.partition (cutS p (some (startN z)) none) (PySem.Str.ofString "/")).2.1
def namesF (fs : List File) (z : Str) : List Str := sortS (ded ((insideF fs z).map (firstN z)))
def rowsD (p : Str) (ls : List Str) (w : Str) : List PyData := ((List.range ls.length).filter fun i => occS (ls.getD i Str.empty) w).map fun i => .tuple [.str p, .int (i : Nat)]
def foundPs (fs : List File) (z : Str) : List Str := sortS (insideF fs z ++ if (at? fs z).isSome then [z] else [])
def foundF (fs : List File) (z w : Str) : List PyData := (foundPs fs z).flatMap fun p => rowsD p ((at? fs p).getD []) w
def wordD (w : Str) : PyData := .tuple [.str w]
def askF (fs : List File) : Action → PyData
  | .read p => (match at? fs p with
    | none => wordD "none"
    | some ls => .tuple [.str "lines", strsD ls])
  | .kind z => if (at? fs z).isSome then wordD "file" else if isFolderF fs z then wordD "folder" else wordD "none"
  | .find z w => if (at? fs z).isSome || isFolderF fs z then .tuple [.str "found", .tuple (foundF fs z w)] else wordD "none"
  | .count z => if isFolderF fs z then .tuple [.str "many", .int ((insideF fs z).length : Nat)] else wordD "none"
  | .list z => if isFolderF fs z then .tuple [.str "names", strsD (namesF fs z)] else wordD "none"
  | _ => wordD "none"
/-! ## trees that are good -/
theorem lenSum (xs : List Str) (n : Nat) (h : ∀ x ∈ xs, x.length ≤ n) : (xs.map (·.length)).sum ≤ n * xs.length := by
  induction xs with
  | nil => simp
  | cons x r ih =>
    have h1 := h x (List.mem_cons_self ..)
    have h2 := ih fun y hy => h y (List.mem_cons_of_mem _ hy)
    rw [List.map_cons, List.sum_cons, List.length_cons, Nat.mul_add, Nat.mul_one]
    omega
theorem path_len {p : Str} (h : isPathS p = true) : p.length ≤ 26 := by
  unfold isPathS at h
  rw [Bool.and_eq_true, decide_eq_true_eq, List.all_eq_true] at h
  have e := split_len p (PySem.Str.ofString "/")
  have s := lenSum (Txt.split p (PySem.Str.ofString "/")) 8 fun x hx => by
    have := h.2 x hx
    unfold isNameS at this
    simp only [Bool.and_eq_true, decide_eq_true_eq] at this
    exact this.1.2
  have e1 : (PySem.Str.ofString "/").length = 1 := by decide
  rw [e1] at e
  omega
theorem good_len {fs : List File} (h : goodF fs = true) : fs.length ≤ 20 := by
  unfold goodF at h
  simp only [Bool.and_eq_true, decide_eq_true_eq] at h
  exact h.1.1
theorem good_row {fs : List File} (h : goodF fs = true) {f : File} (hf : f ∈ fs) : isPathS f.1 = true ∧ isLinesS f.2 = true ∧ ∀ o ∈ pathsOf fs, isInsideS f.1 o = false := by
  unfold goodF at h
  simp only [Bool.and_eq_true, List.all_eq_true] at h
  have h2 := h.2 f hf
  unfold goodRow at h2
  simp only [Bool.and_eq_true, Bool.not_eq_true', List.any_eq_false] at h2
  exact ⟨h2.1.1, h2.1.2, fun o ho => by have := h2.2 o ho; simpa using this⟩
theorem good_path {fs : List File} (h : goodF fs = true) : ∀ p ∈ pathsOf fs, p.length ≤ 1000 := fun p hp => by
  obtain ⟨f, hf, rfl⟩ := List.mem_map.mp hp
  have := path_len (good_row h hf).1
  omega
theorem lines_len {ls : List Str} (h : isLinesS ls = true) : ls.length ≤ 12 ∧ ∀ y ∈ ls, y.length ≤ 20 ∧ isPlainS y = true := by
  unfold isLinesS at h
  simp only [Bool.and_eq_true, decide_eq_true_eq, List.all_eq_true] at h
  refine ⟨h.1, fun y hy => ?_⟩
  have := h.2 y hy
  unfold isLineS at this
  simp only [Bool.and_eq_true, decide_eq_true_eq] at this
  exact this
theorem good_sane {fs : List File} (h : goodF fs = true) : Sane fs := by
  refine ⟨by have := good_len h; omega, fun f hf => ?_⟩
  obtain ⟨h1, h2, _⟩ := good_row h hf
  have := path_len h1
  have l := lines_len h2
  exact ⟨by omega, by omega, fun y hy => by have := (l.2 y hy).1; omega⟩
theorem at_mem {fs : List File} {p : Str} {ls : List Str} (h : at? fs p = some ls) : (p, ls) ∈ fs := by
  unfold at? at h
  obtain ⟨f, h1, h2⟩ := Option.map_eq_some_iff.mp h
  have e := List.find?_some h1
  have m := List.mem_of_find?_eq_some h1
  simp only [decide_eq_true_eq] at e
  subst e h2
  exact m
theorem plain_ok {z : Str} (h : isPlainS z = true) : okS z = true := okS_iff.mpr fun c hc => by
  have := List.all_eq_true.mp h c hc
  unfold plainC at this
  simp only [Bool.and_eq_true, decide_eq_true_eq] at this
  omega
/-- a good tree at t -/
structure TreeG (K : PySem.W.Frag) (H : Hp) (t : Addr) (fs : List File) : Prop where
  at_ : TreeAt K H t fs
  good : goodF fs = true
theorem TreeG.kp {K : PySem.W.Frag} {H H' : Hp} {t : Addr} {fs : List File} (h : TreeG K H t fs) (e : Kp [] H H') : TreeG K H' t fs := ⟨h.at_.kp e, h.good⟩
theorem TreeG.ins {K : PySem.W.Frag} {H : Hp} {t : Addr} {fs : List File} (h : TreeG K H t fs) : ∃ dx d, H t = some (.ins (He.ga K "Tree") dx [("_files", .ref d)]) := by
  obtain ⟨⟨dx, d, _, hx, _⟩, _⟩ := h
  exact ⟨dx, d, hx⟩
theorem c_recvT {K : PySem.W.Frag} {H : Hp} {t : Addr} {fs : List File} {m : Str} {R : Hp → Prop} (h : TreeG K H t fs) (hm : ([("_files", V.non)] : List (Str × V)).lookup m = none) (q : R H) : RecvK K "Tree" m (.ref t) H R := by
  obtain ⟨dx, d, hx⟩ := h.ins
  refine c_recv hx ?_ q
  simp only [List.lookup] at hm ⊢
  split at hm
  · cases hm
  · rename_i hz; rfl
theorem ded_snoc (xs : List Str) (x : Str) : ded (xs ++ [x]) = if x ∈ ded xs then ded xs else ded xs ++ [x] := by
  have e : ded (xs ++ [x]) = stepT (ded xs) x := by show (xs ++ [x]).foldl stepT [] = _; rw [List.foldl_append]; rfl
  rw [e]
  unfold stepT
  by_cases h : x ∈ ded xs
  · rw [if_pos h, if_pos (List.any_eq_true.mpr ⟨x, h, by simp⟩)]
  · rw [if_neg h, if_neg (fun hz => by obtain ⟨y, hy, e⟩ := List.any_eq_true.mp hz; exact h ((beq_iff_eq.mp e) ▸ hy))]
section
variable {P : Program} {w : World} {K : PySem.W.Frag} {mg : Str → Option Value} {base : Heap}
def spIsQ (K : PySem.W.Frag) : Sp := fun vs H Q _ => ∃ (a : Addr) (x : Action), vs = [.ref a] ∧ ActAt K H a x ∧ Q (.bl x.isQ) H
def placesF (xs ys : List Str) : List Nat := (List.range ((xs.length : Int) - ys.length + 1).toNat).filter fun i => decide (cutL xs (some ((i : Nat) : Int)) (some ((i : Nat) + (ys.length : Int))) = ys)
def spPlaces (K : PySem.W.Frag) : Sp := fun vs H Q _ => ∃ (a b : Addr) (xs ys : List Str), vs = [.ref a, .ref b] ∧ SqT K H a (xs.map V.str) ∧ SqT K H b (ys.map V.str) ∧ (∀ y ∈ xs, okS y = true) ∧ (∀ y ∈ ys, okS y = true) ∧ xs.length ≤ 1000 ∧ ys.length ≤ 1000 ∧
  ∀ p H', H p = none → Kp [] H H' → H' p = some (.lst ((placesF xs ys).map fun i => V.int (i : Nat))) → Q (.ref p) H'
end
end K61



namespace K61
open PySem L2 Sa
theorem sub_len (x : Str) (i j : Nat) : (PySem.Builtin.Str.strSub x i j).length ≤ x.length := by
  show (x.cps.extract i j).size ≤ x.cps.size
  rw [Array.size_extract]
  omega
theorem part_len (x y : Str) : (Txt.partition x y).1.length ≤ x.length ∧ (Txt.partition x y).2.1.length ≤ y.length := by
  rcases PyProof.Rows.partition_whole x y with ⟨e, _⟩ | ⟨i, e, _⟩
  · rw [e]; exact ⟨Nat.le_refl _, Nat.zero_le _⟩
  · rw [e]; exact ⟨sub_len _ _ _, Nat.le_refl _⟩
theorem inside_small {fs : List File} (h : goodF fs = true) (z : Str) : (insideF fs z).length ≤ 20 ∧ ∀ p ∈ insideF fs z, p.length ≤ 1000 ∧ p ∈ pathsOf fs := by
  refine ⟨?_, fun p hp => ?_⟩
  · have := List.length_filter_le (fun y => isInsideS y z) (pathsOf fs)
    have h2 := good_len h
    have h3 : (pathsOf fs).length = fs.length := List.length_map ..
    unfold insideF
    omega
  · have := (List.mem_filter.mp hp).1
    exact ⟨good_path h p this, this⟩
theorem forN_dedlen (xs : List Str) : (ded xs).length ≤ xs.length := ded_le xs
section
variable {P : Program} {w : World} {K : PySem.W.Frag} {mg : Str → Option Value} {base : Heap}
def spNames (K : PySem.W.Frag) : Sp := fun vs H Q _ => ∃ (t : Addr) (z : Str) (fs : List File), vs = [.ref t, .str z] ∧ TreeG K H t fs ∧ z.length ≤ 1000 ∧ ∀ p H', Kp [] H H' → SqT K H' p ((namesF fs z).map V.str) → Q (.ref p) H'
def spRows (K : PySem.W.Frag) : Sp := fun vs H Q _ => ∃ (t : Addr) (z w : Str) (fs : List File), vs = [.ref t, .str z, .str w] ∧ TreeG K H t fs ∧ z.length ≤ 1000 ∧ ∀ p H', Kp [] H H' → Dt K H' (.ref p) (.tuple (foundF fs z w)) → Q (.ref p) H'
theorem foundPs_mem {fs : List File} {z p : Str} (h : p ∈ foundPs fs z) : ∃ ls, at? fs p = some ls := by
  have h2 := (sortS_perm _).subset h
  rcases List.mem_append.mp h2 with h3 | h3
  · have := (List.mem_filter.mp h3).1
    obtain ⟨f, hf, e⟩ := List.mem_map.mp this
    cases q : at? fs p with
    | some ls => exact ⟨ls, rfl⟩
    | none =>
      unfold at? at q
      rw [Option.map_eq_none_iff, List.find?_eq_none] at q
      have := q f hf
      rw [← e] at this
      simp at this
  · by_cases hz : (at? fs z).isSome = true
    · rw [if_pos hz] at h3
      rw [List.mem_singleton.mp h3]
      exact Option.isSome_iff_exists.mp hz
    · rw [if_neg hz] at h3; cases h3
def spAsk (K : PySem.W.Frag) : Sp := fun vs H Q _ => ∃ (t a : Addr) (x : Action) (fs : List File), vs = [.ref t, .ref a] ∧ TreeG K H t fs ∧ ActAt K H a x ∧ x.isQ = true ∧ x.sane ∧ ∀ v H', Kp [] H H' → Dt K H' v (askF fs x) → Q v H'
theorem two_of (u v : V) (r : List V) : cutL (u :: v :: r) none (some 2) = [u, v] := by
  unfold cutL
  have e1 : HT.sIx (u :: v :: r).length 0 none = 0 := rfl
  rw [e1, sIx_of (by decide), List.drop_zero, Nat.sub_zero]
  have e2 : min (2 : Int).toNat (u :: v :: r).length = 2 := by simp only [List.length_cons]; omega
  rw [e2]
  rfl
theorem isFile_non (o : Option (List Str)) : True := trivial
end
end K61



namespace K61
open PySem L2 Sa
/-! ## the plain model of deeds -/
def blockedF (fs : List File) (p : Str) : Bool := decide (0 < (insideF fs p).length) || decide (0 < (aboveF fs p).length)
def splicedL (ls old new : List Str) (i : Nat) : List Str := ls.take i ++ new ++ ls.drop (i + old.length)
def deedF (fs : List File) : Action → PyData × List File
  | .write p ls => if blockedF fs p then (wordD "blocked", fs) else if (at? fs p).isNone && decide (fs.length = 20) then (wordD "full", fs) else (wordD "done", sortF (withF fs p ls))
  | .remove p => if (at? fs p).isNone then (wordD "missing", fs) else (wordD "done", sortF (withoutF fs p))
  | .move p t => (match at? fs p with
    | none => (wordD "missing", fs)
    | some ls => if (at? (sortF (withoutF fs p)) t).isSome || blockedF (sortF (withoutF fs p)) t then (wordD "blocked", fs) else (wordD "done", sortF (withF (sortF (withoutF fs p)) t ls)))
  | .splice p old new => (match at? fs p with
    | none => (wordD "missing", fs)
    | some ls => (match placesF ls old with
      | [] => (wordD "absent", fs)
      | [i] => if decide ((12 : Int) < (ls.length : Int) - old.length + new.length) then (wordD "long", fs) else (wordD "done", sortF (withF fs p (splicedL ls old new i)))
      | _ => (wordD "ambiguous", fs)))
  | _ => (wordD "none", fs)
def actF (fs : List File) (x : Action) : PyData × List File := if x.isQ then (askF fs x, fs) else deedF fs x
/-! ## good files -/
structure GoodP (fs : List File) : Prop where
  len : fs.length ≤ 20
  once : Once fs
  path : ∀ f ∈ fs, isPathS f.1 = true
  lines : ∀ f ∈ fs, isLinesS f.2 = true
  apart : ∀ f ∈ fs, ∀ g ∈ fs, isInsideS f.1 g.1 = false
theorem fold_nodup : ∀ (xs σ : List Str), xs.Nodup → (∀ x ∈ xs, x ∉ σ) → xs.foldl stepT σ = σ ++ xs
  | [], σ, _, _ => by simp
  | x :: r, σ, h, hn => by
    obtain ⟨h1, h2⟩ := List.nodup_cons.mp h
    have e : stepT σ x = σ ++ [x] := by
      unfold stepT
      rw [if_neg fun hz => by obtain ⟨y, hy, e⟩ := List.any_eq_true.mp hz; exact hn x (List.mem_cons_self ..) ((beq_iff_eq.mp e) ▸ hy)]
    rw [List.foldl_cons, e, fold_nodup r (σ ++ [x]) h2 fun y hy hm => ?_, List.append_assoc]
    · rfl
    · rcases List.mem_append.mp hm with hm | hm
      · exact hn y (List.mem_cons_of_mem _ hy) hm
      · rw [List.mem_singleton.mp hm] at hy; exact h1 hy
theorem ded_nodup {xs : List Str} (h : xs.Nodup) : ded xs = xs := by
  have := fold_nodup xs [] h (by simp)
  exact this
theorem goodF_iff {fs : List File} : goodF fs = true ↔ GoodP fs := by
  constructor
  · intro h
    exact ⟨good_len h, goodF_once h, fun f hf => (good_row h hf).1, fun f hf => (good_row h hf).2.1, fun f hf g hg => (good_row h hf).2.2 g.1 (List.mem_map_of_mem hg)⟩
  · intro h
    unfold goodF
    rw [ded_nodup (xs := pathsOf fs) h.once]
    have e : (pathsOf fs).length = fs.length := List.length_map ..
    rw [e, decide_eq_true h.len, decide_eq_false (Nat.lt_irrefl _), Bool.not_false, Bool.true_and, Bool.true_and, List.all_eq_true]
    intro f hf
    unfold goodRow
    rw [h.path f hf, h.lines f hf, Bool.true_and, Bool.true_and, Bool.not_eq_true', List.any_eq_false]
    intro o ho
    obtain ⟨g, hg, rfl⟩ := List.mem_map.mp ho
    rw [h.apart f hf g hg]
    exact Bool.false_ne_true
theorem GoodP.perm {fs gs : List File} (h : GoodP fs) (p : fs.Perm gs) : GoodP gs :=
  ⟨by rw [← p.length_eq]; exact h.len, (p.map Prod.fst).nodup h.once, fun f hf => h.path f (p.symm.subset hf), fun f hf => h.lines f (p.symm.subset hf), fun f hf g hg => h.apart f (p.symm.subset hf) g (p.symm.subset hg)⟩
theorem GoodP.sort {fs : List File} (h : GoodP fs) : GoodP (sortF fs) := h.perm (sortF_perm fs).symm
theorem GoodP.without {fs : List File} (h : GoodP fs) (p : Str) : GoodP (withoutF fs p) := by
  have sub : ∀ f ∈ withoutF fs p, f ∈ fs := fun f hf => (List.mem_filter.mp hf).1
  exact ⟨Nat.le_trans (List.length_filter_le _ _) h.len, List.Nodup.sublist (List.Sublist.map _ List.filter_sublist) h.once, fun f hf => h.path f (sub f hf), fun f hf => h.lines f (sub f hf), fun f hf g hg => h.apart f (sub f hf) g (sub g hg)⟩
theorem starts_len {x y : Str} (h : Txt.startswith x y = true) : y.length ≤ x.length := by
  rw [← cut_starts, decide_eq_true_eq] at h
  have := cutS_len x none (some (y.length : Int))
  rw [h] at this
  exact this
theorem path_ne {p : Str} (h : isPathS p = true) : p ≠ PySem.Str.ofString "" := fun e => by
  rw [e] at h
  revert h
  decide +kernel
theorem self_out {p : Str} (h : isPathS p = true) : isInsideS p p = false := by
  unfold isInsideS
  rw [decide_eq_false (path_ne h), Bool.false_or]
  cases q : Txt.startswith p (p ++ PySem.Str.ofString "/") with
  | false => rfl
  | true =>
    have := starts_len q
    rw [str_app_len] at this
    have e1 : (PySem.Str.ofString "/").length = 1 := by decide
    omega
theorem nob {fs : List File} {p : Str} (h : blockedF fs p = false) : (∀ g ∈ fs, isInsideS g.1 p = false) ∧ ∀ g ∈ fs, isInsideS p g.1 = false := by
  unfold blockedF at h
  simp only [Bool.or_eq_false_iff, decide_eq_false_iff_not, Nat.not_lt, Nat.le_zero, List.length_eq_zero_iff] at h
  refine ⟨fun g hg => ?_, fun g hg => ?_⟩
  · have := List.filter_eq_nil_iff.mp h.1 g.1 (List.mem_map_of_mem hg)
    simpa using this
  · have := List.filter_eq_nil_iff.mp h.2 g.1 (List.mem_map_of_mem hg)
    simpa using this
theorem at_isSome {fs : List File} {p : Str} : (at? fs p).isSome = true ↔ p ∈ pathsOf fs := by
  unfold at? pathsOf
  rw [Option.isSome_map, List.find?_isSome, List.mem_map]
  constructor
  · rintro ⟨f, hf, e⟩; exact ⟨f, hf, by simpa using e⟩
  · rintro ⟨f, hf, e⟩; exact ⟨f, hf, by simpa using e⟩
theorem without_len {fs : List File} {p : Str} (h : p ∈ pathsOf fs) : (withoutF fs p).length < fs.length := by
  obtain ⟨f, hf, e⟩ := List.mem_map.mp h
  unfold withoutF
  refine List.length_filter_lt_length_iff_exists.mpr ⟨f, hf, ?_⟩
  simp [e]
theorem GoodP.withf {fs : List File} {p : Str} {ls : List Str} (h : GoodP fs) (hp : isPathS p = true) (hl : isLinesS ls = true) (nb : (∀ g ∈ fs, isInsideS g.1 p = false) ∧ ∀ g ∈ fs, isInsideS p g.1 = false)
    (hn : fs.length < 20 ∨ (at? fs p).isSome = true) : GoodP (withF fs p ls) := by
  have hw := h.without p
  have mem : ∀ f ∈ withF fs p ls, f ∈ withoutF fs p ∨ f = (p, ls) := fun f hf => by
    rcases List.mem_append.mp hf with hf | hf
    · exact .inl hf
    · exact .inr (List.mem_singleton.mp hf)
  have sub : ∀ f ∈ withoutF fs p, f ∈ fs := fun f hf => (List.mem_filter.mp hf).1
  refine ⟨?_, ?_, fun f hf => ?_, fun f hf => ?_, fun f hf g hg => ?_⟩
  · unfold withF
    rw [List.length_append, List.length_singleton]
    rcases hn with hn | hn
    · have := List.length_filter_le (fun f : File => !decide (f.1 = p)) fs
      unfold withoutF
      omega
    · have := without_len (at_isSome.mp hn)
      have := h.len
      omega
  · unfold withF Once
    rw [List.map_append, List.nodup_append]
    refine ⟨hw.once, by simp, fun a ha b hb => ?_⟩
    simp only [List.map_cons, List.map_nil, List.mem_singleton] at hb
    subst hb
    obtain ⟨f, hf, rfl⟩ := List.mem_map.mp ha
    have := (List.mem_filter.mp hf).2
    simpa using this
  · rcases mem f hf with hf | rfl
    · exact hw.path f hf
    · exact hp
  · rcases mem f hf with hf | rfl
    · exact hw.lines f hf
    · exact hl
  · rcases mem f hf with hf | rfl <;> rcases mem g hg with hg | rfl
    · exact hw.apart f hf g hg
    · exact nb.1 f (sub f hf)
    · exact nb.2 g (sub g hg)
    · exact self_out hp
theorem own_nob {fs : List File} {p : Str} (h : GoodP fs) (hp : p ∈ pathsOf fs) : (∀ g ∈ fs, isInsideS g.1 p = false) ∧ ∀ g ∈ fs, isInsideS p g.1 = false := by
  obtain ⟨f, hf, rfl⟩ := List.mem_map.mp hp
  exact ⟨fun g hg => h.apart g hg f hf, fun g hg => h.apart f hf g hg⟩
theorem places_lt {xs ys : List Str} {i : Nat} (h : i ∈ placesF xs ys) : i + ys.length ≤ xs.length := by
  have := List.mem_range.mp (List.mem_filter.mp h).1
  omega
theorem lines_splice {ls old new : List Str} {i : Nat} (h1 : isLinesS ls = true) (h2 : isLinesS new = true) (hi : i + old.length ≤ ls.length) (hn : ¬ (12 : Int) < (ls.length : Int) - old.length + new.length) : isLinesS (splicedL ls old new i) = true := by
  unfold isLinesS at h1 h2 ⊢
  simp only [Bool.and_eq_true, decide_eq_true_eq, List.all_eq_true] at h1 h2 ⊢
  unfold splicedL
  refine ⟨?_, fun y hy => ?_⟩
  · rw [List.length_append, List.length_append, List.length_take, List.length_drop]
    omega
  · rcases List.mem_append.mp hy with hy | hy
    · rcases List.mem_append.mp hy with hy | hy
      · exact h1.2 y (List.mem_of_mem_take hy)
      · exact h2.2 y hy
    · exact h1.2 y (List.mem_of_mem_drop hy)
/-- what an action within its bounds leaves is good -/
theorem GoodP.act {fs : List File} {x : Action} (h : GoodP fs) (hb : x.bad = none) : GoodP (actF fs x).2 := by
  unfold actF
  cases x with
  | write p ls =>
    simp only [Action.isQ, Bool.false_eq_true, if_false, deedF]
    simp only [Action.bad] at hb
    split at hb
    · rename_i hp
      split at hb
      · rename_i hl
        split
        · exact h
        · rename_i hbl
          split
          · exact h
          · rename_i hf
            refine (h.withf hp hl (nob (by simpa using hbl)) ?_).sort
            simp only [Bool.and_eq_true, decide_eq_true_eq, not_and] at hf
            cases q : at? fs p with
            | some _ => exact .inr rfl
            | none =>
              have := hf (by rw [q]; rfl)
              have := h.len
              exact .inl (by omega)
      · cases hb
    · cases hb
  | remove p =>
    simp only [Action.isQ, Bool.false_eq_true, if_false, deedF]
    split
    · exact h
    · exact (h.without p).sort
  | move p t =>
    simp only [Action.isQ, Bool.false_eq_true, if_false, deedF]
    simp only [Action.bad] at hb
    split at hb
    · rename_i hp
      split at hb
      · rename_i ht
        cases q : at? fs p with
        | none => exact h
        | some ls =>
          simp only
          split
          · exact h
          · rename_i hf
            simp only [Bool.or_eq_true, not_or, Bool.not_eq_true] at hf
            have hw := (h.without p).sort
            have hm := at_mem q
            refine (hw.withf ht (h.lines _ hm) (nob hf.2) (.inl ?_)).sort
            rw [sortF_len]
            have := without_len (List.mem_map_of_mem (f := Prod.fst) hm)
            have := h.len
            simp only at *
            omega
      · cases hb
    · cases hb
  | splice p old new =>
    simp only [Action.isQ, Bool.false_eq_true, if_false, deedF]
    simp only [Action.bad] at hb
    split at hb
    · rename_i hp
      split at hb
      · split at hb
        · rename_i hnew
          cases q : at? fs p with
          | none => exact h
          | some ls =>
            simp only
            have hm := at_mem q
            have hpm : p ∈ pathsOf fs := List.mem_map_of_mem (f := Prod.fst) hm
            split
            · exact h
            · rename_i i hpl
              split
              · exact h
              · rename_i hlong
                have hi := places_lt (xs := ls) (ys := old) (i := i) (by rw [hpl]; exact List.mem_singleton.mpr rfl)
                exact (h.withf hp (lines_splice (h.lines _ hm) hnew hi (by simpa using hlong)) (own_nob h hpm) (.inr (by rw [q]; rfl))).sort
            · exact h
        · cases hb
      · cases hb
    · cases hb
  | _ => exact h
end K61



namespace K61
open PySem L2 Sa
/-- what a deed hands back: the answer and the tree -/
def RetA (K : PySem.W.Frag) (H : Hp) (Q : VK) (r : PyData × List File) : Prop := ∀ p v t' H', Kp [] H H' → SqT K H' p [v, .ref t'] → Dt K H' v r.1 → TreeG K H' t' r.2 → Q (.ref p) H'
theorem RetA.kp {K : PySem.W.Frag} {H H1 : Hp} {Q : VK} {r : PyData × List File} (h : RetA K H Q r) (e : Kp [] H H1) : RetA K H1 Q r := fun p v t' H' e' h1 h2 h3 => h p v t' H' (e.trans e') h1 h2 h3
/-- the pair at hand -/
theorem RetA.now {K : PySem.W.Frag} {H H1 : Hp} {Q : VK} {r : PyData × List File} {v : V} {t' : Addr} (h : RetA K H Q r) (e : Kp [] H H1) (hv : Dt K H1 v r.1) (ht : TreeG K H1 t' r.2) : [v, V.ref t'].length ≤ sizeLine ∧ ∀ p, H1 p = none → Ret Q (.ref p) (upd H1 p (.tup [v, .ref t'])) :=
  ⟨by rw [sizeLine_eq]; exact Nat.le_of_ble_eq_true rfl, fun p hp => h p v t' _ (e.trans (Kp.new hp)) (SqT.of upd_same) (Dt.kp hv (Kp.new hp)) (ht.kp (Kp.new hp))⟩
theorem newT {K : PySem.W.Frag} {H : Hp} {t : Addr} {gs : List File} (h : TreeAt K H t (sortF gs)) (g : GoodP gs) : TreeG K H t (sortF gs) := ⟨h, goodF_iff.mpr g.sort⟩
section
variable {P : Program} {w : World} {K : PySem.W.Frag} {mg : Str → Option Value} {base : Heap}
def spBlocked (K : PySem.W.Frag) : Sp := fun vs H Q _ => ∃ (t : Addr) (p : Str) (fs : List File), vs = [.ref t, .str p] ∧ TreeG K H t fs ∧ p.length ≤ 1000 ∧ ∀ H', Kp [] H H' → Q (.bl (blockedF fs p)) H'
theorem posI {α : Type} (xs : List α) : decide ((0 : Int) < (xs.length : Int)) = decide (0 < xs.length) := by congr 1; exact propext ⟨fun h => by omega, fun h => by omega⟩
def spWrite (K : PySem.W.Frag) : Sp := fun vs H Q _ => ∃ (t l : Addr) (p : Str) (ls : List Str) (fs : List File), vs = [.ref t, .str p, .ref l] ∧ TreeG K H t fs ∧ isPathS p = true ∧ isLinesS ls = true ∧ SqT K H l (ls.map V.str) ∧ RetA K H Q (deedF fs (.write p ls))
theorem noE {K : PySem.W.Frag} {gs : List File} {p : Prop} (g : GoodP gs) (h : goodF gs = false) : p := by rw [goodF_iff.mpr g] at h; cases h
def spMove (K : PySem.W.Frag) : Sp := fun vs H Q _ => ∃ (t : Addr) (p z : Str) (fs : List File), vs = [.ref t, .str p, .str z] ∧ TreeG K H t fs ∧ isPathS p = true ∧ isPathS z = true ∧ RetA K H Q (deedF fs (.move p z))
def spSplice (K : PySem.W.Frag) : Sp := fun vs H Q _ => ∃ (t l m : Addr) (p : Str) (old new : List Str) (fs : List File), vs = [.ref t, .str p, .ref l, .ref m] ∧ TreeG K H t fs ∧ isPathS p = true ∧ isLinesS old = true ∧ isLinesS new = true ∧ SqT K H l (old.map V.str) ∧ SqT K H m (new.map V.str) ∧ RetA K H Q (deedF fs (.splice p old new))
def spAct (K : PySem.W.Frag) : Sp := fun vs H Q E => ∃ (t a : Addr) (x : Action) (fs : List File), vs = [.ref t, .ref a] ∧ TreeG K H t fs ∧ ActAt K H a x ∧ x.sane ∧ (x.bad = none → RetA K H Q (actF fs x)) ∧ (∀ nm, x.bad = some nm → RaisesE K H E nm)
end
end K61



namespace K61
open PySem L2 Sa
/-! the law's paths and lines -/
def pathNames : List Str := ["a", "b", "ab", "x1"]
def lineTexts : List Str := ["x", "y", "x y", "", "todo", "yx", "note the x", "12345678901234567890"]
/-- a path that the law draws -/
structure Pth (z : Str) : Prop where
  ex : ∃ ns : List Str, z = Txt.join (PySem.Str.ofString "/") ns ∧ 1 ≤ ns.length ∧ ns.length ≤ 3 ∧ ∀ n ∈ ns, n ∈ pathNames
theorem pathNames_len : ∀ n ∈ pathNames, n.length ≤ 2 := by decide +kernel
theorem sum_le {m : Nat} : ∀ {ns : List Str}, (∀ n ∈ ns, n.length ≤ m) → (ns.map (·.length)).sum ≤ ns.length * m
  | [], _ => Nat.zero_le _
  | n :: r, h => by
    have h1 := h n (List.mem_cons_self ..)
    have h2 := sum_le (ns := r) fun z hz => h z (List.mem_cons_of_mem _ hz)
    simp only [List.map_cons, List.sum_cons, List.length_cons, Nat.add_mul, Nat.one_mul]
    omega
theorem Pth.len {z : Str} (h : Pth z) : z.length ≤ 8 := by
  obtain ⟨ns, rfl, h1, h2, h3⟩ := h.ex
  rw [tjoin, ← join_len]
  have e1 := sum_le (m := 2) fun n hn => pathNames_len n (h3 n hn)
  have e2 : (PySem.Str.ofString "/").length = 1 := by decide
  rw [e2]
  omega
theorem pathNames_pos : ∀ n ∈ pathNames, 1 ≤ n.length := by decide +kernel
theorem Pth.pos {z : Str} (h : Pth z) : 1 ≤ z.length := by
  obtain ⟨ns, rfl, h1, h2, h3⟩ := h.ex
  rw [tjoin, ← join_len]
  cases ns with
  | nil => simp at h1
  | cons n r =>
    have := pathNames_pos n (h3 n (List.mem_cons_self ..))
    simp only [List.map_cons, List.sum_cons]
    omega
theorem Pth.parts {z : Str} (h : Pth z) (y : Str) : 1 ≤ (Txt.split z y).length := by
  cases e : Txt.split z y with
  | nil =>
    have j := StrLaws.join_split z y
    rw [e] at j
    have := h.pos
    rw [← j] at this
    exact absurd this (by show ¬ 1 ≤ 0; omega)
  | cons a r => simp
section
variable {P : Program} {w : World} {K : PySem.W.Frag} {mg : Str → Option Value} {base : Heap}
theorem sc__law_path : FnScope ["_law_box", "_law_depth", "_law_k"] ["_law_box"] (defScope s__law_path) := ⟨rfl, rfl, rfl, by decide +kernel, rfl, by decide +kernel, by decide +kernel⟩
theorem bn__law_path : BindN "_law_path" s__law_path ["_law_box"] := fun _ _ _ _ _ _ us hl => match us, hl with | [_], _ => rfl
def spPath : Sp := fun vs H Q _ => ∃ (b d : Addr), vs = [.ref b] ∧ Bx H b d ∧ ∀ z H', Pth z → Kp [b] H H' → Bx H' b d → Q (.str z) H'
theorem b__law_path (T : TX K mg) : Body P w K mg base "_law_path" s__law_path ["_law_box", "_law_depth", "_law_k"] 2 spPath := by
  intro cdv A outer s H vs Q E h X hr
  obtain ⟨b, d, rfl, B, q⟩ := h
  have D__law_draw : DefAt P w K mg base CX0 "_law_draw" 2 ["_law_box", "_law_many"] spDraw := D__law_draw T
  refine ⟨_, (pss_cons (ps_set (i := 1) sc__law_path.nd rfl (Or.inl rfl) (pe_ix (ix_U (K := K)) (pe_lst (pa_cons pe_int (pa_cons pe_int (pa_cons pe_int (pa_cons pe_int pa_nil))))) (pe_callA D__law_draw hr pass0 (pa_cons (pv 0) (pa_cons pe_int pa_nil))) (fun _ _ => rfl))) (pss_one (ps_ret (pe_joinU (K := K) pe_str (pe_lc (own := [("_law_k", 2)]) rfl sc__law_path.nd (pi_range1 rfl (T.free 31) (pa_cons (pv 1) pa_nil)) (blkOk_by (N := ["_law_box", "_law_depth", "_law_k"]) (sc := defScope s__law_path) (by decide +kernel)) (fun _ _ _ _ _ => (pg_name (i := 2) sc__law_path.nd rfl (Or.inl rfl))) (fun _ _ _ _ _ => pts_nil) (fun _ _ _ _ _ => (pe_ix (ix_U (K := K)) (pe_lst (pa_cons pe_str (pa_cons pe_str (pa_cons pe_str (pa_cons pe_str pa_nil))))) (pe_callA D__law_draw hr pass0 (pa_cons (pv 0) (pa_cons pe_int pa_nil))) (fun _ _ => rfl)))))))), ?_⟩
  walk_at "st"
  walk_at "nw"
  intro p H1 N
  walk_at "st"
  refine ⟨b, d, 4, rfl, B.nw N, by decide, fun i H2 h0 h1 e2 B2 => ?_⟩
  refine c_pickM (u := V.int) [1, 2, 2, 3] (B.pick N e2) h0 h1 fun dp hdp => ?_
  have hdp : 1 ≤ dp ∧ dp ≤ 3 := by
    simp only [List.mem_cons, List.not_mem_nil, or_false] at hdp
    omega
  walk_at "st"
  refine lcR_draw V.str (fun z => z ∈ pathNames) B2 (by omega) (fun i H' R S hi e B3 k => ?_) (fun Dl H' ns hD hlen hP e B3 hacc => ?_)
  · walk_at "st"
    refine ⟨rfl, ?_⟩
    walk_at "st"
    walk_at "nw"
    intro p2 H4 N4
    walk_at "st"
    refine ⟨b, d, 4, rfl, B3.nw N4, by decide, fun j H5 g0 g1 e5 B5 => ?_⟩
    exact c_pickM (u := V.str) pathNames (B3.pick N4 e5) g0 g1 fun z hz => k z H5 hz (N4.kp.trans e5) B5
  · have hp : Pth (Txt.join (PySem.Str.ofString "/") ns) := ⟨ns, rfl, by omega, by omega, hP⟩
    refine c_join (ys := ns) (SqL.of hacc) ?_ (q _ _ hp ((N.kp.trans e2).trans e) B3)
    have e1 := sum_le (m := 2) fun n hn => pathNames_len n (hP n hn)
    have e2 : (PySem.Str.ofString "/").length = 1 := by decide
    rw [e2]
    omega
theorem D__law_path (T : TX K mg) : DefAt P w K mg base CX0 "_law_path" 3 ["_law_box"] spPath :=
  def_of T 17 35 sc__law_path bn__law_path (fun vs H Q E h => by obtain ⟨b, d, rfl, _⟩ := h; rfl) (b__law_path T)
theorem sc__law_line : FnScope ["_law_box"] ["_law_box"] (defScope s__law_line) := ⟨rfl, rfl, rfl, by decide +kernel, rfl, by decide +kernel, by decide +kernel⟩
theorem bn__law_line : BindN "_law_line" s__law_line ["_law_box"] := fun _ _ _ _ _ _ us hl => match us, hl with | [_], _ => rfl
def spLine : Sp := fun vs H Q _ => ∃ (b d : Addr), vs = [.ref b] ∧ Bx H b d ∧ ∀ z H', z ∈ lineTexts → Kp [b] H H' → Bx H' b d → Q (.str z) H'
theorem b__law_line (T : TX K mg) : Body P w K mg base "_law_line" s__law_line ["_law_box"] 2 spLine := by
  intro cdv A outer s H vs Q E h X hr
  obtain ⟨b, d, rfl, B, q⟩ := h
  have D__law_draw : DefAt P w K mg base CX0 "_law_draw" 2 ["_law_box", "_law_many"] spDraw := D__law_draw T
  refine ⟨_, (pss_one (ps_ret (pe_ix (ix_U (K := K)) (pe_lst (pa_cons pe_str (pa_cons pe_str (pa_cons pe_str (pa_cons pe_str (pa_cons pe_str (pa_cons pe_str (pa_cons pe_str (pa_cons pe_str pa_nil))))))))) (pe_callA D__law_draw hr pass0 (pa_cons (pv 0) (pa_cons pe_int pa_nil))) (fun _ _ => rfl)))), ?_⟩
  walk_at "st"
  walk_at "nw"
  intro p H1 N
  walk_at "st"
  refine ⟨b, d, 8, rfl, B.nw N, by decide, fun i H2 h0 h1 e2 B2 => ?_⟩
  exact c_pickM (u := V.str) lineTexts (B.pick N e2) h0 h1 fun z hz => q z H2 hz (N.kp.trans e2) B2
theorem D__law_line (T : TX K mg) : DefAt P w K mg base CX0 "_law_line" 3 ["_law_box"] spLine :=
  def_of T 18 36 sc__law_line bn__law_line (fun vs H Q E h => by obtain ⟨b, d, rfl, _⟩ := h; rfl) (b__law_line T)
end
end K61



namespace K61
open PySem L2 Sa
/-! ## the law's files: a dict of paths and lines -/
def filesKv (ls : List (Addr × File)) : List (Key × V) := ls.map fun l => ((Sum.inr l.2.1 : Key), V.ref l.1)
structure FilesR (K : PySem.W.Frag) (H : Hp) (d : Addr) (fs : List File) : Prop where
  ex : ∃ ls : List (Addr × File), Rd H d (.dK (filesKv ls)) ∧ (∀ l ∈ ls, SqT K H l.1 (l.2.2.map V.str)) ∧ ls.map Prod.snd = fs
structure FilesAt (K : PySem.W.Frag) (H : Hp) (d : Addr) (fs : List File) : Prop where
  ex : ∃ ls : List (Addr × File), H d = some (.dK (filesKv ls)) ∧ (∀ l ∈ ls, SqT K H l.1 (l.2.2.map V.str)) ∧ ls.map Prod.snd = fs
section
variable {K : PySem.W.Frag} {H H' : Hp} {d b e : Addr} {fs : List File} {p : Str}
theorem FilesAt.r (h : FilesAt K H d fs) : FilesR K H d fs := by
  obtain ⟨ls, h1, h2, h3⟩ := h.ex
  exact ⟨ls, .inl h1, h2, h3⟩
theorem FilesAt.kp (h : FilesAt K H d fs) (e : Kp [] H H') : FilesAt K H' d fs := by
  obtain ⟨ls, h1, h2, h3⟩ := h.ex
  exact ⟨ls, e.at0 h1, fun l hl => SqT.kp e (h2 l hl), h3⟩
theorem FilesAt.ne (h : FilesAt K H d fs) (B : Bx H b e) : d ≠ b := fun z => by
  obtain ⟨ls, h1, _⟩ := h.ex
  obtain ⟨_, _, h2, _⟩ := B.ex
  rw [z, h2] at h1
  cases h1
theorem FilesAt.kb (h : FilesAt K H d fs) (B : Bx H b e) (k : Kp [b] H H') : FilesAt K H' d fs := by
  have n := h.ne B
  obtain ⟨ls, h1, h2, h3⟩ := h.ex
  exact ⟨ls, k.at1 n h1, fun l hl => SqT.kt (B.kt k) (h2 l hl), h3⟩
theorem find_at (ls : List (Addr × File)) (p : Str) : at? (ls.map Prod.snd) p = (ls.find? fun l => decide (l.2.1 = p)).map fun l => l.2.2 := by
  unfold at?
  rw [List.find?_map, Option.map_map]
  rfl
theorem filesKv_val (ls : List (Addr × File)) (p : Str) : valV (filesKv ls) (Sum.inr p) = (ls.find? fun l => decide (l.2.1 = p)).map fun l => V.ref l.1 := by
  unfold valV filesKv
  rw [List.find?_map, Option.map_map]
  congr 1
  congr 1
  funext l
  simp
theorem FilesR.get (h : FilesR K H d fs) {ls : List Str} (g : at? fs p = some ls) : ∃ a, DGet H d (.str p) (some (.ref a)) ∧ SqT K H a (ls.map V.str) := by
  obtain ⟨rs, h1, h2, rfl⟩ := h.ex
  rw [find_at] at g
  obtain ⟨l, hl, rfl⟩ := Option.map_eq_some_iff.mp g
  exact ⟨l.1, .inl ⟨_, Sum.inr p, h1, rfl, by rw [filesKv_val, hl]; rfl⟩, h2 l (List.mem_of_find?_eq_some hl)⟩
theorem FilesR.dget (h : FilesR K H d fs) (p : Str) : ∃ o, DGet H d (.str p) o ∧ o.isSome = (at? fs p).isSome := by
  obtain ⟨rs, h1, h2, rfl⟩ := h.ex
  refine ⟨_, .inl ⟨_, Sum.inr p, h1, rfl, rfl⟩, ?_⟩
  rw [filesKv_val, find_at, Option.isSome_map, Option.isSome_map]
theorem FilesAt.nil {K : PySem.W.Frag} (h : H d = some (.dK [])) : FilesAt K H d [] := ⟨[], h, by simp, rfl⟩
end
theorem c_dinF {K : PySem.W.Frag} {H : Hp} {d : Addr} {fs : List File} {p : Str} {Q : VK} (h : FilesR K H d fs) (q : Q (.bl (at? fs p).isSome) H) : DinK false (.ref d) (.str p) H Q := by
  obtain ⟨o, h1, h2⟩ := h.dget p
  refine ⟨d, o, rfl, h1, ?_⟩
  show Q (.bl o.isSome) H
  rw [h2]; exact q
theorem c_dninF {K : PySem.W.Frag} {H : Hp} {d : Addr} {fs : List File} {p : Str} {Q : VK} (h : FilesR K H d fs) (q : Q (.bl (!(at? fs p).isSome)) H) : DinK true (.ref d) (.str p) H Q := by
  obtain ⟨o, h1, h2⟩ := h.dget p
  refine ⟨d, o, rfl, h1, ?_⟩
  show Q (.bl (!o.isSome)) H
  rw [h2]; exact q
theorem c_dgetF {K : PySem.W.Frag} {H : Hp} {d : Addr} {fs : List File} {p : Str} {ls : List Str} {Q : VK} (h : FilesR K H d fs) (g : at? fs p = some ls) (q : ∀ a, SqT K H a (ls.map V.str) → Q (.ref a) H) : ∃ a v, V.ref d = .ref a ∧ DGet H a (.str p) (some v) ∧ Q v H := by
  obtain ⟨a, h1, h2⟩ := h.get g
  exact ⟨d, .ref a, rfl, h1, q a h2⟩
/-- sorted(files) -/
theorem c_sortedF {K : PySem.W.Frag} {H : Hp} {d : Addr} {fs : List File} {Q : VK} (h : FilesR K H d fs) (hn : fs.length ≤ 60) (q : ∀ p H', New H p (.lst ((pathsOf (sortF fs)).map V.str)) H' → Q (.ref p) H') : rSortedDU [.ref d] H Q := by
  obtain ⟨ls, h1, h2, rfl⟩ := h.ex
  refine ⟨d, _, pathsOf (ls.map Prod.snd), rfl, h1, ?_, by unfold pathsOf; rw [List.length_map]; omega, fun ys p hp hs hf => ?_⟩
  · unfold filesKv pathsOf
    rw [List.map_map, List.map_map, List.map_map]
    rfl
  · rw [sorted_keys hp hs]
    exact q p _ ⟨hf, rfl⟩
/-! ## paths -/
theorem name_no {z : Str} (h : isNameS z = true) : 47 ∉ z.cps.toList := fun hm => by
  unfold isNameS at h
  simp only [Bool.and_eq_true, List.all_eq_true] at h
  have := h.2 47 hm
  revert this
  decide +kernel
theorem name_ok {z : Str} (h : isNameS z = true) : okS z = true := okS_iff.mpr fun c hc => by
  unfold isNameS at h
  simp only [Bool.and_eq_true, List.all_eq_true, decide_eq_true_eq] at h
  have := h.2 c hc
  exact (by decide +kernel : ∀ c ∈ (PySem.Str.ofString "abcdefghijklmnopqrstuvwxyz0123456789").cps.toList, c < 1114112) c this
theorem slash1 : (PySem.Str.ofString "/").cps.toList = [47] := by decide +kernel
theorem slash2 : PySem.Str.ofString "/" = ⟨#[47]⟩ := by decide +kernel
theorem split_join1 {ns : List Str} (h0 : ns ≠ []) (hn : ∀ n ∈ ns, 47 ∉ n.cps.toList) : Txt.split (Txt.join (PySem.Str.ofString "/") ns) (PySem.Str.ofString "/") = ns :=
  TL.split_join (y := PySem.Str.ofString "/") (s := 47) (S := []) slash1 (by rw [slash2]; decide +kernel) h0 hn
theorem path_join {ns : List Str} (h0 : ns ≠ []) (h3 : ns.length ≤ 3) (hn : ∀ n ∈ ns, isNameS n = true) : isPathS (Txt.join (PySem.Str.ofString "/") ns) = true := by
  unfold isPathS
  rw [split_join1 h0 fun n h => name_no (hn n h), decide_eq_true h3, Bool.true_and, List.all_eq_true]
  exact hn
theorem split_ne {p : Str} (h : isPathS p = true) : Txt.split p (PySem.Str.ofString "/") ≠ [] := by
  rcases join_ne_nil (z := p) (y := PySem.Str.ofString "/") with h1 | h1
  · exact h1
  · exact absurd h1 (path_ne h)
theorem path_parts {p : Str} (h : isPathS p = true) : (Txt.split p (PySem.Str.ofString "/")).length ≤ 3 ∧ ∀ n ∈ Txt.split p (PySem.Str.ofString "/"), isNameS n = true := by
  unfold isPathS at h
  rw [Bool.and_eq_true, decide_eq_true_eq, List.all_eq_true] at h
  exact h
theorem name_path {n : Str} (h : isNameS n = true) : isPathS n = true := by
  have := path_join (ns := [n]) (by simp) (by simp) (by simpa using h)
  rw [tjoin] at this
  exact this
theorem mem_join {y : Str} {c : Nat} : ∀ {ys : List Str}, c ∈ (Str.join y ys).cps.toList → c ∈ y.cps.toList ∨ ∃ z ∈ ys, c ∈ z.cps.toList
  | [], h => by cases h
  | [x], h => .inr ⟨x, List.mem_singleton.mpr rfl, h⟩
  | x :: u :: r, h => by
    have h : c ∈ (x ++ y ++ Str.join y (u :: r)).cps.toList := h
    rw [cps_app, cps_app, List.mem_append, List.mem_append] at h
    rcases h with (h | h) | h
    · exact .inr ⟨x, List.mem_cons_self .., h⟩
    · exact .inl h
    · rcases mem_join h with h | ⟨z, hz, h⟩
      · exact .inl h
      · exact .inr ⟨z, List.mem_cons_of_mem _ hz, h⟩
theorem path_ok {p : Str} (h : isPathS p = true) : okS p = true := okS_iff.mpr fun c hc => by
  have j := StrLaws.join_split p (PySem.Str.ofString "/")
  rw [← j] at hc
  rcases mem_join hc with hc | ⟨z, hz, hc⟩
  · rw [slash1, List.mem_singleton] at hc
    omega
  · exact okS_iff.mp (name_ok ((path_parts h).2 z hz)) c hc
theorem Pth.path {z : Str} (h : Pth z) : isPathS z = true := by
  obtain ⟨ns, rfl, h1, h2, h3⟩ := h.ex
  exact path_join (by intro e; rw [e] at h1; simp at h1) h2 fun n hn => (by decide +kernel : ∀ n ∈ pathNames, isNameS n = true) n (h3 n hn)
theorem lineTexts_line : ∀ z ∈ lineTexts, isLineS z = true := by decide +kernel
section
variable {P : Program} {w : World} {K : PySem.W.Frag} {mg : Str → Option Value} {base : Heap}
def spLinesD (K : PySem.W.Frag) : Sp := fun vs H Q _ => ∃ (b d : Addr) (m : Int), vs = [.ref b, .int m] ∧ Bx H b d ∧ 0 ≤ m ∧ m ≤ 12 ∧ ∀ p ls H', isLinesS ls = true → (ls.length : Int) ≤ m → Kp [b] H H' → Bx H' b d → SqT K H' p (ls.map V.str) → Q (.ref p) H'
theorem sc__law_lines : FnScope ["_law_box", "_law_most", "_law_k"] ["_law_box", "_law_most"] (defScope s__law_lines) := ⟨rfl, rfl, rfl, by decide +kernel, rfl, by decide +kernel, by decide +kernel⟩
theorem bn__law_lines : BindN "_law_lines" s__law_lines ["_law_box", "_law_most"] := fun _ _ _ _ _ _ us hl => match us, hl with | [_, _], _ => rfl
theorem b__law_lines (T : TX K mg) : Body P w K mg base "_law_lines" s__law_lines ["_law_box", "_law_most", "_law_k"] 3 (spLinesD K) := by
  intro cdv A outer s H vs Q E h X hr
  obtain ⟨b, d, m, rfl, B, m0, m1, q⟩ := h
  have D__law_draw := D__law_draw (P := P) (w := w) (base := base) T; have D__law_line := D__law_line (P := P) (w := w) (base := base) T
  refine ⟨_, (pss_one (ps_ret (pe_callTy (cr_tuple (K := K)) rfl (T.free 37) (by decide +kernel) (pa_cons (pe_lc (own := [("_law_k", 2)]) rfl sc__law_lines.nd (pi_range1 rfl (T.free 31) (pa_cons (pe_callA D__law_draw hr pass0 (pa_cons (pv 0) (pa_cons (pe_op (op_addU (K := K)) (pv 1) pe_int) pa_nil))) pa_nil)) (blkOk_by (N := ["_law_box", "_law_most", "_law_k"]) (sc := defScope s__law_lines) (by decide +kernel)) (fun _ _ _ _ _ => (pg_name (i := 2) sc__law_lines.nd rfl (Or.inl rfl))) (fun _ _ _ _ _ => pts_nil) (fun _ _ _ _ _ => (pe_callA D__law_line hr pass0 (pa_cons (pv 0) pa_nil)))) pa_nil)))), ?_⟩
  walk_at "st"
  refine ⟨b, d, m + 1, rfl, B, by omega, fun i H1 h0 h1 e1 B1 => ?_⟩
  walk_at "st"
  refine lcR_draw V.str (fun z => z ∈ lineTexts) B1 (by omega) (fun i H' R S hi e B3 k => ?_) (fun Dl H' ns hD hlen hP e B3 hacc => ?_)
  · walk_at "st"
    refine ⟨rfl, ?_⟩
    walk_at "st"
    exact ⟨b, d, rfl, B3, fun z H4 hz e4 B4 => k z H4 hz e4 B4⟩
  · refine c_tupleL (SqL.of hacc) fun p H2 N => ?_
    refine q p ns H2 ?_ (by omega) ((e1.trans e).trans N.kp) (B3.nw N) (SqT.of N.at_)
    unfold isLinesS
    rw [decide_eq_true (by omega), Bool.true_and, List.all_eq_true]
    exact fun z hz => lineTexts_line z (hP z hz)
theorem D__law_lines (T : TX K mg) : DefAt P w K mg base CX0 "_law_lines" 4 ["_law_box", "_law_most"] (spLinesD K) :=
  def_of T 19 38 sc__law_lines bn__law_lines (by walk_at "len") (b__law_lines T)
def spSome (K : PySem.W.Frag) : Sp := fun vs H Q _ => ∃ (b d f : Addr) (fs : List File), vs = [.ref b, .ref f] ∧ Bx H b d ∧ FilesAt K H f fs ∧ GoodP fs ∧ ∀ z H', isPathS z = true → Kp [b] H H' → Bx H' b d → Q (.str z) H'
theorem sc__law_some_path : FnScope ["_law_box", "_law_files_here", "_law_paths"] ["_law_box", "_law_files_here"] (defScope s__law_some_path) := ⟨rfl, rfl, rfl, by decide +kernel, rfl, by decide +kernel, by decide +kernel⟩
theorem bn__law_some_path : BindN "_law_some_path" s__law_some_path ["_law_box", "_law_files_here"] := fun _ _ _ _ _ _ us hl => match us, hl with | [_, _], _ => rfl
theorem b__law_some_path (T : TX K mg) : Body P w K mg base "_law_some_path" s__law_some_path ["_law_box", "_law_files_here", "_law_paths"] 3 (spSome K) := by
  intro cdv A outer s H vs Q E h X hr
  obtain ⟨b, d, f, fs, rfl, B, F, G, q⟩ := h
  have D__law_draw := D__law_draw (P := P) (w := w) (base := base) T; have D__law_path := D__law_path (P := P) (w := w) (base := base) T
  refine ⟨_, (pss_cons (ps_set (i := 2) sc__law_some_path.nd rfl (Or.inl rfl) (pe_callB (cr_sortedDU rfl) rfl (T.free 43) (by decide +kernel) (pa_cons (pv 1) pa_nil))) (pss_cons (ps_if (PW.pt (pw_and (pt_cmpR (op_neU (K := K) hr.units) (pv 2) (pe_lst pa_nil) (nomark _)) (pw_and1 (pt_cmpR op_gtU (pe_callA D__law_draw hr pass0 (pa_cons (pv 0) (pa_cons pe_int pa_nil))) pe_int (nomark _))))) (pss_one (ps_ret (pe_ix (ix_U (K := K)) (pv 2) (pe_callA D__law_draw hr pass0 (pa_cons (pv 0) (pa_cons (pe_callB (cr_len (K := K)) rfl (T.free 2) PySem.boot_len (pa_cons (pv 2) pa_nil)) pa_nil))) (fun _ _ => rfl)))) pss_nil) (pss_one (ps_ret (pe_callA D__law_path hr pass0 (pa_cons (pv 0) pa_nil)))))), ?_⟩
  have gl := G.len
  walk_at "st"
  refine c_sortedF F.r (by omega) fun p H1 N1 => ?_
  walk_at "st"
  walk_at "nw"
  intro p2 H2 N2
  walk_at "st"
  have k2 : Kp [b] H H2 := N1.kp.trans N2.kp
  have B2 := (B.nw N1).nw N2
  have hps : ∀ y ∈ pathsOf (sortF fs), isPathS y = true := fun y hy => by
    obtain ⟨r, hr, rfl⟩ := List.mem_map.mp hy
    exact G.sort.path r hr
  have h1 : SqL K H2 p ((pathsOf (sortF fs)).map V.str) := SqL.of (N2.keep N1.at_)
  refine c_neLS (zs := []) h1 (SqL.of N2.at_) (fun y hy => path_ok (hps y hy)) (by simp) ?_
  walk_at "st"
  have alt : ∀ H3, Kp [b] H H3 → Bx H3 b d → spPath [.ref b] H3 Q E0 := fun H3 e3 B3 => ⟨b, d, rfl, B3, fun z H4 hz e4 B4 => q z H4 hz.path (e3.trans e4) B4⟩
  refine c_iteN (fun g => ?_) (fun g => ?_)
  · walk_at "st"
    refine ⟨b, d, 4, rfl, B2, by decide, fun i H3 h0 h1' e3 B3 => ?_⟩
    walk_at "st"
    have nb : p ≠ b := ((B.ne_new N1.fr).1)
    have h3 : SqL K H3 p ((pathsOf (sortF fs)).map V.str) := SqL.kp1 e3 nb h1
    refine c_ite (fun g1 => ?_) (fun g1 => ?_)
    · walk_at "st"
      have hpos : 0 < (pathsOf (sortF fs)).length := List.length_pos_iff.mpr g
      refine ⟨b, d, _, rfl, B3, by rw [List.length_map]; omega, fun j H4 j0 j1 e4 B4 => ?_⟩
      rw [List.length_map] at j1
      refine c_pickM (pathsOf (sortF fs)) (SqL.kp1 e4 nb h3) j0 j1 fun y hy => ?_
      exact q y H4 (hps y hy) ((k2.trans e3).trans e4) B4
    · walk_at "st"
      exact alt H3 (k2.trans e3) B3
  · walk_at "st"
    exact alt H2 k2 B2
theorem D__law_some_path (T : TX K mg) : DefAt P w K mg base CX0 "_law_some_path" 4 ["_law_box", "_law_files_here"] (spSome K) :=
  def_of T 30 50 sc__law_some_path bn__law_some_path (by walk_at "len") (b__law_some_path T)
def spPlace (K : PySem.W.Frag) : Sp := fun vs H Q _ => ∃ (b d f : Addr) (fs : List File), vs = [.ref b, .ref f] ∧ Bx H b d ∧ FilesAt K H f fs ∧ GoodP fs ∧ ∀ z H', isPlaceS z = true → Kp [b] H H' → Bx H' b d → Q (.str z) H'
theorem sc__law_place : FnScope ["_law_box", "_law_files_here", "_law_path_here", "_law_parts"] ["_law_box", "_law_files_here"] (defScope s__law_place) := ⟨rfl, rfl, rfl, by decide +kernel, rfl, by decide +kernel, by decide +kernel⟩
theorem bn__law_place : BindN "_law_place" s__law_place ["_law_box", "_law_files_here"] := fun _ _ _ _ _ _ us hl => match us, hl with | [_, _], _ => rfl
theorem b__law_place (T : TX K mg) : Body P w K mg base "_law_place" s__law_place ["_law_box", "_law_files_here", "_law_path_here", "_law_parts"] 4 (spPlace K) := by
  intro cdv A outer s H vs Q E h X hr
  obtain ⟨b, d, f, fs, rfl, B, F, G, q⟩ := h
  have D__law_draw := D__law_draw (P := P) (w := w) (base := base) T; have D__law_some_path := D__law_some_path (P := P) (w := w) (base := base) T
  refine ⟨_, (pss_cons (ps_set (i := 2) sc__law_place.nd rfl (Or.inl rfl) (pe_callA D__law_some_path hr pass0 (pa_cons (pv 0) (pa_cons (pv 1) pa_nil)))) (pss_cons (ps_set (i := 3) sc__law_place.nd rfl (Or.inl rfl) (pe_splitU (pv 2) pe_str)) (pss_one (ps_ret (pe_ix (ix_U (K := K)) (pe_lst (pa_cons pe_str (pa_cons (pv 2) (pa_cons (pe_ix (ix_U (K := K)) (pv 3) pe_int (fun _ _ => rfl)) (pa_cons (pe_joinU (K := K) pe_str (pe_slice (sl_U (K := K)) (pv 3) po_none (po_some pe_int))) pa_nil))))) (pe_callA D__law_draw hr pass0 (pa_cons (pv 0) (pa_cons pe_int pa_nil))) (fun _ _ => rfl)))))), ?_⟩
  walk_at "st"
  refine ⟨b, d, f, fs, rfl, B, F, G, fun z H1 hz e1 B1 => ?_⟩
  walk_at "st"
  have zl := path_len hz
  refine c_split (by decide) (by rw [sizeLine_eq]; omega) fun p H2 N2 => ?_
  walk_at "st"
  obtain ⟨n3, nn⟩ := path_parts hz
  have ne := split_ne hz
  generalize Txt.split z (PySem.Str.ofString "/") = ns at *
  cases ns with
  | nil => exact absurd rfl ne
  | cons n0 r =>
    refine c_ixL (v := .str n0) (SqL.of N2.at_) (atI_nat (j := 0) rfl) ?_
    walk_at "st"
    refine c_slL (SqL.of N2.at_) fun p3 H3 N3 => ?_
    have e2 : cutV ((n0 :: r).map V.str) none (some (2 : Int)) = ((n0 :: r).take 2).map V.str := by
      rw [cutV_eq, cutL_map]
      congr 1
      unfold cutL
      have e1 : HT.sIx (n0 :: r).length 0 none = 0 := rfl
      rw [e1, sIx_of (by decide), List.drop_zero, Nat.sub_zero]
      have e3 : (2 : Int).toNat = 2 := rfl
      rw [e3]
      by_cases h : 2 ≤ (n0 :: r).length
      · rw [Nat.min_eq_left h]
      · rw [Nat.min_eq_right (by omega), List.take_of_length_le (Nat.le_refl _), List.take_of_length_le (by omega)]
    have at3 := N3.at_
    rw [e2] at at3
    have nn2 : ∀ n ∈ (n0 :: r).take 2, isNameS n = true := fun n hn => nn n (List.mem_of_mem_take hn)
    refine c_join (ys := (n0 :: r).take 2) (SqL.of at3) ?_ ?_
    · have s := lenSum ((n0 :: r).take 2) 8 fun x hx => by
        have := nn2 x hx
        unfold isNameS at this
        simp only [Bool.and_eq_true, decide_eq_true_eq] at this
        exact this.1.2
      have l2 : ((n0 :: r).take 2).length ≤ 2 := by rw [List.length_take]; omega
      have e1 : (PySem.Str.ofString "/").length = 1 := by decide
      rw [e1]
      omega
    walk_at "st"
    walk_at "nw"
    intro p4 H4 N4
    walk_at "st"
    have k4 : Kp [b] H H4 := e1.trans ((N2.kp.trans N3.kp).trans N4.kp)
    have B4 := ((B1.nw N2).nw N3).nw N4
    refine ⟨b, d, 4, rfl, B4, by decide, fun i H5 h0 h1 e5 B5 => ?_⟩
    refine c_pickM (u := V.str) [PySem.Str.ofString "", z, n0, Txt.join (PySem.Str.ofString "/") ((n0 :: r).take 2)] ((B1.nw N2).nw N3 |>.pick N4 e5) h0 h1 fun y hy => ?_
    refine q y H5 ?_ (k4.trans e5) B5
    unfold isPlaceS
    simp only [List.mem_cons, List.not_mem_nil, or_false] at hy
    rcases hy with rfl | rfl | rfl | rfl
    · rfl
    · rw [hz, Bool.or_true]
    · rw [name_path (nn _ (List.mem_cons_self ..)), Bool.or_true]
    · rw [path_join (by simp) (by rw [List.length_take]; omega) nn2, Bool.or_true]
theorem D__law_place (T : TX K mg) : DefAt P w K mg base CX0 "_law_place" 5 ["_law_box", "_law_files_here"] (spPlace K) :=
  def_of T 31 51 sc__law_place bn__law_place (by walk_at "len") (b__law_place T)
end
end K61



namespace K61
open PySem L2 Sa
theorem place_len {z : Str} (h : isPlaceS z = true) : z.length ≤ 26 := by
  unfold isPlaceS at h
  rw [Bool.or_eq_true, decide_eq_true_eq] at h
  rcases h with rfl | h
  · decide
  · exact path_len h
theorem word_len {z : Str} (h : isWordS z = true) : z.length ≤ 12 := by
  unfold isWordS at h
  simp only [Bool.and_eq_true, decide_eq_true_eq] at h
  exact h.1.2
theorem lines_sane {ls : List Str} (h : isLinesS ls = true) : saneL ls := by
  obtain ⟨h1, h2⟩ := lines_len h
  exact ⟨by omega, fun y hy => by have := (h2 y hy).1; omega⟩
theorem path_sane {p : Str} (h : isPathS p = true) : saneS p := by have := path_len h; unfold saneS; omega
theorem place_sane {p : Str} (h : isPlaceS p = true) : saneS p := by have := place_len h; unfold saneS; omega
theorem word_sane {p : Str} (h : isWordS p = true) : saneS p := by have := word_len h; unfold saneS; omega
/-- an action within its bounds is of no great size -/
theorem bad_sane {x : Action} (h : x.bad = none) : x.sane := by
  cases x with
  | read p =>
    simp only [Action.bad] at h
    split at h
    · exact path_sane ‹_›
    · cases h
  | kind p =>
    simp only [Action.bad] at h
    split at h
    · exact place_sane ‹_›
    · cases h
  | list p =>
    simp only [Action.bad] at h
    split at h
    · exact place_sane ‹_›
    · cases h
  | count p =>
    simp only [Action.bad] at h
    split at h
    · exact place_sane ‹_›
    · cases h
  | remove p =>
    simp only [Action.bad] at h
    split at h
    · exact path_sane ‹_›
    · cases h
  | find p w =>
    simp only [Action.bad] at h
    split at h
    · split at h
      · exact ⟨place_sane ‹_›, word_sane ‹_›⟩
      · cases h
    · cases h
  | move p t =>
    simp only [Action.bad] at h
    split at h
    · split at h
      · exact ⟨path_sane ‹_›, path_sane ‹_›⟩
      · cases h
    · cases h
  | write p ls =>
    simp only [Action.bad] at h
    split at h
    · split at h
      · exact ⟨path_sane ‹_›, lines_sane ‹_›⟩
      · cases h
    · cases h
  | splice p old new =>
    simp only [Action.bad] at h
    split at h
    · split at h
      · split at h
        · rename_i h1 h2 h3
          rw [Bool.and_eq_true] at h2
          exact ⟨path_sane h1, lines_sane h2.1, lines_sane h3⟩
        · cases h
      · cases h
    · cases h
section
variable {P : Program} {w : World} {K : PySem.W.Frag} {mg : Str → Option Value} {base : Heap}
/-- an action is drawn -/
def spDrawn (K : PySem.W.Frag) (p : Action → Bool) : Sp := fun vs H Q _ => ∃ (b d f : Addr) (fs : List File), vs = [.ref b, .ref f] ∧ Bx H b d ∧ FilesAt K H f fs ∧ GoodP fs ∧ ∀ a x H', x.bad = none → p x = true → Kp [b] H H' → Bx H' b d → ActAt K H' a x → Q (.ref a) H'
theorem sc__law_question : FnScope ["_law_box", "_law_files_here", "_law_word"] ["_law_box", "_law_files_here"] (defScope s__law_question) := ⟨rfl, rfl, rfl, by decide +kernel, rfl, by decide +kernel, by decide +kernel⟩
theorem bn__law_question : BindN "_law_question" s__law_question ["_law_box", "_law_files_here"] := fun _ _ _ _ _ _ us hl => match us, hl with | [_, _], _ => rfl
theorem b__law_question (T : TX K mg) : Body P w K mg base "_law_question" s__law_question ["_law_box", "_law_files_here", "_law_word"] 5 (spDrawn K fun x => x.isQ) := by
  intro cdv A outer s H vs Q E h X hr
  obtain ⟨b, d, f, fs, rfl, B, F, G, q⟩ := h
  have D__law_draw := D__law_draw (P := P) (w := w) (base := base) T; have D__law_place := D__law_place (P := P) (w := w) (base := base) T; have D__law_some_path := D__law_some_path (P := P) (w := w) (base := base) T
  refine ⟨_, (pss_cons (ps_set (i := 2) sc__law_question.nd rfl (Or.inl rfl) (pe_ix (ix_U (K := K)) (pe_lst (pa_cons pe_str (pa_cons pe_str (pa_cons pe_str (pa_cons pe_str (pa_cons pe_str pa_nil)))))) (pe_callA D__law_draw hr pass0 (pa_cons (pv 0) (pa_cons pe_int pa_nil))) (fun _ _ => rfl))) (pss_cons (ps_if (pt_cmpR (op_eqU (K := K) hr.units) (pv 2) pe_str (nomark _)) (pss_one (ps_ret (pe_tup (pa_cons pe_str (pa_cons (pe_callA D__law_some_path hr pass0 (pa_cons (pv 0) (pa_cons (pv 1) pa_nil))) pa_nil))))) pss_nil) (pss_cons (ps_if (pt_cmpR (op_eqU (K := K) hr.units) (pv 2) pe_str (nomark _)) (pss_one (ps_ret (pe_tup (pa_cons pe_str (pa_cons (pe_callA D__law_place hr pass0 (pa_cons (pv 0) (pa_cons (pv 1) pa_nil))) (pa_cons (pe_ix (ix_U (K := K)) (pe_lst (pa_cons pe_str (pa_cons pe_str (pa_cons pe_str (pa_cons pe_str (pa_cons pe_str pa_nil)))))) (pe_callA D__law_draw hr pass0 (pa_cons (pv 0) (pa_cons pe_int pa_nil))) (fun _ _ => rfl)) pa_nil)))))) pss_nil) (pss_one (ps_ret (pe_tup (pa_cons (pv 2) (pa_cons (pe_callA D__law_place hr pass0 (pa_cons (pv 0) (pa_cons (pv 1) pa_nil))) pa_nil)))))))), ?_⟩
  walk_at "st"
  walk_at "nw"
  intro p1 H1 N1
  walk_at "st"
  refine ⟨b, d, 5, rfl, B.nw N1, by decide, fun i H2 h0 h1 e2 B2 => ?_⟩
  have k2 : Kp [b] H H2 := N1.kp.trans e2
  have F2 := F.kb B k2
  have pl : ∀ {Q1 : VK}, (∀ z H', isPlaceS z = true → Kp [b] H H' → Bx H' b d → Q1 (.str z) H') → spPlace K [.ref b, .ref f] H2 Q1 E0 := fun h => ⟨b, d, f, fs, rfl, B2, F2, G, fun z H' hz e' B' => h z H' hz (k2.trans e') B'⟩
  refine c_pickM (u := V.str) ["read", "kind", "list", "find", "count"] (B.pick N1 e2) h0 h1 fun y hy => ?_
  simp only [List.mem_cons, List.not_mem_nil, or_false] at hy
  rcases hy with rfl | rfl | rfl | rfl | rfl
  · walk_at "dc"
    refine ⟨b, d, f, fs, rfl, B2, F2, G, fun z H3 hz e3 B3 => ?_⟩
    walk_at "st"
    walk_at "nw"
    intro p4 H4 N4
    refine q p4 (.read z) H4 (by simp only [Action.bad, hz, if_true]) rfl ((k2.trans e3).trans N4.kp) (B3.nw N4) (SqT.of N4.at_)
  · walk_at "dc"
    refine pl fun z H3 hz e3 B3 => ?_
    walk_at "st"
    walk_at "nw"
    intro p4 H4 N4
    refine q p4 (.kind z) H4 (by simp only [Action.bad, hz, if_true]) rfl (e3.trans N4.kp) (B3.nw N4) (SqT.of N4.at_)
  · walk_at "dc"
    refine pl fun z H3 hz e3 B3 => ?_
    walk_at "st"
    walk_at "nw"
    intro p4 H4 N4
    refine q p4 (.list z) H4 (by simp only [Action.bad, hz, if_true]) rfl (e3.trans N4.kp) (B3.nw N4) (SqT.of N4.at_)
  · walk_at "dc"
    refine pl fun z H3 hz e3 B3 => ?_
    walk_at "st"
    walk_at "nw"
    intro p4 H4 N4
    walk_at "st"
    refine ⟨b, d, 5, rfl, B3.nw N4, by decide, fun j H5 j0 j1 e5 B5 => ?_⟩
    refine c_pickM (u := V.str) ["x", "y", " ", "todo", "x y"] (B3.pick N4 e5) j0 j1 fun y hy => ?_
    have hw : isWordS y = true := (by decide +kernel : ∀ y ∈ (["x", "y", " ", "todo", "x y"] : List Str), isWordS y = true) y hy
    walk_at "st"
    walk_at "nw"
    intro p6 H6 N6
    refine q p6 (.find z y) H6 (by simp only [Action.bad, hz, hw, if_true]) rfl (((e3.trans N4.kp).trans e5).trans N6.kp) (B5.nw N6) (SqT.of N6.at_)
  · walk_at "dc"
    refine pl fun z H3 hz e3 B3 => ?_
    walk_at "st"
    walk_at "nw"
    intro p4 H4 N4
    refine q p4 (.count z) H4 (by simp only [Action.bad, hz, if_true]) rfl (e3.trans N4.kp) (B3.nw N4) (SqT.of N4.at_)
theorem D__law_question (T : TX K mg) : DefAt P w K mg base CX0 "_law_question" 6 ["_law_box", "_law_files_here"] (spDrawn K fun x => x.isQ) :=
  def_of T 32 52 sc__law_question bn__law_question (by walk_at "len") (b__law_question T)
def spPart (K : PySem.W.Frag) : Sp := fun vs H Q _ => ∃ (b d l : Addr) (ls : List Str), vs = [.ref b, .ref l] ∧ Bx H b d ∧ SqT K H l (ls.map V.str) ∧ isLinesS ls = true ∧ ∀ p old H', isLinesS old = true → 0 < old.length → Kp [b] H H' → Bx H' b d → SqT K H' p (old.map V.str) → Q (.ref p) H'
theorem sc__law_part : FnScope ["_law_box", "_law_lines_here", "_law_at"] ["_law_box", "_law_lines_here"] (defScope s__law_part) := ⟨rfl, rfl, rfl, by decide +kernel, rfl, by decide +kernel, by decide +kernel⟩
theorem bn__law_part : BindN "_law_part" s__law_part ["_law_box", "_law_lines_here"] := fun _ _ _ _ _ _ us hl => match us, hl with | [_, _], _ => rfl
theorem b__law_part (T : TX K mg) : Body P w K mg base "_law_part" s__law_part ["_law_box", "_law_lines_here", "_law_at"] 3 (spPart K) := by
  intro cdv A outer s H vs Q E h X hr
  obtain ⟨b, d, l, ls, rfl, B, hl, hls, q⟩ := h
  have D__law_draw := D__law_draw (P := P) (w := w) (base := base) T; have D__law_line := D__law_line (P := P) (w := w) (base := base) T
  refine ⟨_, (pss_cons (ps_if (PW.pt (pw_and (pt_cmpR op_gtU (pe_callB (cr_len (K := K)) rfl (T.free 2) PySem.boot_len (pa_cons (pv 1) pa_nil)) pe_int (nomark _)) (pw_and1 (pt_cmpR op_gtU (pe_callA D__law_draw hr pass0 (pa_cons (pv 0) (pa_cons pe_int pa_nil))) pe_int (nomark _))))) (pss_cons (ps_set (i := 2) sc__law_part.nd rfl (Or.inl rfl) (pe_callA D__law_draw hr pass0 (pa_cons (pv 0) (pa_cons (pe_callB (cr_len (K := K)) rfl (T.free 2) PySem.boot_len (pa_cons (pv 1) pa_nil)) pa_nil)))) (pss_one (ps_ret (pe_slice (sl_U (K := K)) (pv 1) (po_some (pv 2)) (po_some (pe_op (op_addU (K := K)) (pe_op (op_addU (K := K)) (pv 2) pe_int) (pe_callA D__law_draw hr pass0 (pa_cons (pv 0) (pa_cons pe_int pa_nil))))))))) pss_nil) (pss_one (ps_ret (pe_tup (pa_cons (pe_callA D__law_line hr pass0 (pa_cons (pv 0) pa_nil)) pa_nil))))), ?_⟩
  obtain ⟨l1, l2⟩ := lines_len hls
  have alt : ∀ {H1 : Hp} {Q1 : VK}, Kp [b] H H1 → Bx H1 b d → (∀ z H', isLineS z = true → Kp [b] H H' → Bx H' b d → Q1 (.str z) H') → spLine [.ref b] H1 Q1 E0 := fun e1 B1 h => ⟨b, d, rfl, B1, fun z H' hz e' B' => h z H' (lineTexts_line z hz) (e1.trans e') B'⟩
  have one : ∀ z, isLineS z = true → isLinesS [z] = true := fun z hz => by unfold isLinesS; simp [hz]
  walk_at "st"
  refine c_ite (fun g => ?_) (fun g => ?_)
  · walk_at "st"
    refine ⟨b, d, 5, rfl, B, by decide, fun i H1 h0 h1 e1 B1 => ?_⟩
    walk_at "st"
    have hl1 := SqT.kt (B.kt e1) hl
    rw [List.length_map] at g
    refine c_ite (fun g1 => ?_) (fun g1 => ?_)
    · walk_at "st"
      refine ⟨b, d, _, rfl, B1, by rw [List.length_map]; omega, fun j H2 j0 j1 e2 B2 => ?_⟩
      rw [List.length_map] at j1
      walk_at "st"
      refine ⟨b, d, 2, rfl, B2, by decide, fun k H3 k0 k1 e3 B3 => ?_⟩
      walk_at "st"
      have e123 := (e1.trans e2).trans e3
      refine c_slT (SqT.kt (B.kt e123) hl) fun p H4 e4 hp => ?_
      rw [cutL_map] at hp
      refine q p _ H4 ?_ ?_ (e123.trans e4.mono) (B3.kp0 e4) hp
      · unfold isLinesS at hls ⊢
        simp only [Bool.and_eq_true, decide_eq_true_eq, List.all_eq_true] at hls ⊢
        refine ⟨?_, fun y hy => hls.2 y (List.mem_of_mem_drop (List.mem_of_mem_take hy))⟩
        unfold cutL
        rw [List.length_take, List.length_drop]
        omega
      · unfold cutL
        rw [List.length_take, List.length_drop, sIx_of (by omega), sIx_of (by omega)]
        omega
    · walk_at "st"
      refine alt e1 B1 fun z H2 hz e2 B2 => ?_
      walk_at "st"
      walk_at "nw"
      intro p H3 N3
      exact q p [z] H3 (one z hz) (by simp) (e2.trans N3.kp) (B2.nw N3) (SqT.of N3.at_)
  · walk_at "st"
    refine alt Kp.refl B fun z H2 hz e2 B2 => ?_
    walk_at "st"
    walk_at "nw"
    intro p H3 N3
    exact q p [z] H3 (one z hz) (by simp) (e2.trans N3.kp) (B2.nw N3) (SqT.of N3.at_)
theorem D__law_part (T : TX K mg) : DefAt P w K mg base CX0 "_law_part" 4 ["_law_box", "_law_lines_here"] (spPart K) :=
  def_of T 33 53 sc__law_part bn__law_part (by walk_at "len") (b__law_part T)
theorem sc__law_deed : FnScope ["_law_box", "_law_files_here", "_law_word", "_law_path_here", "_law_lines_here"] ["_law_box", "_law_files_here"] (defScope s__law_deed) := ⟨rfl, rfl, rfl, by decide +kernel, rfl, by decide +kernel, by decide +kernel⟩
theorem bn__law_deed : BindN "_law_deed" s__law_deed ["_law_box", "_law_files_here"] := fun _ _ _ _ _ _ us hl => match us, hl with | [_, _], _ => rfl
theorem b__law_deed (T : TX K mg) : Body P w K mg base "_law_deed" s__law_deed ["_law_box", "_law_files_here", "_law_word", "_law_path_here", "_law_lines_here"] 4 (spDrawn K fun x => !x.isQ) := by
  intro cdv A outer s H vs Q E h X hr
  obtain ⟨b, d, f, fs, rfl, B, F, G, q⟩ := h
  have D__law_draw := D__law_draw (P := P) (w := w) (base := base) T; have D__law_lines := D__law_lines (P := P) (w := w) (base := base) T; have D__law_part := D__law_part (P := P) (w := w) (base := base) T; have D__law_some_path := D__law_some_path (P := P) (w := w) (base := base) T
  refine ⟨_, (pss_cons (ps_set (i := 2) sc__law_deed.nd rfl (Or.inl rfl) (pe_ix (ix_U (K := K)) (pe_lst (pa_cons pe_str (pa_cons pe_str (pa_cons pe_str (pa_cons pe_str (pa_cons pe_str (pa_cons pe_str pa_nil))))))) (pe_callA D__law_draw hr pass0 (pa_cons (pv 0) (pa_cons pe_int pa_nil))) (fun _ _ => rfl))) (pss_cons (ps_set (i := 3) sc__law_deed.nd rfl (Or.inl rfl) (pe_callA D__law_some_path hr pass0 (pa_cons (pv 0) (pa_cons (pv 1) pa_nil)))) (pss_cons (ps_if (pt_cmpR (op_eqU (K := K) hr.units) (pv 2) pe_str (nomark _)) (pss_one (ps_ret (pe_tup (pa_cons pe_str (pa_cons (pv 3) (pa_cons (pe_callA D__law_lines hr pass0 (pa_cons (pv 0) (pa_cons pe_int pa_nil))) pa_nil)))))) pss_nil) (pss_cons (ps_if (pt_cmpR (op_eqU (K := K) hr.units) (pv 2) pe_str (nomark _)) (pss_one (ps_ret (pe_tup (pa_cons pe_str (pa_cons (pv 3) pa_nil))))) pss_nil) (pss_cons (ps_if (pt_cmpR (op_eqU (K := K) hr.units) (pv 2) pe_str (nomark _)) (pss_one (ps_ret (pe_tup (pa_cons pe_str (pa_cons (pv 3) (pa_cons (pe_callA D__law_some_path hr pass0 (pa_cons (pv 0) (pa_cons pe_dnewK pa_nil))) pa_nil)))))) pss_nil) (pss_cons (ps_set (i := 4) sc__law_deed.nd rfl (Or.inl rfl) (pe_tup pa_nil)) (Evl.pss_cut (ps_if (pt_cmp (pc_din (hu_of hr) (pv 3) (pv 1)) rfl) (pss_one (ps_set (i := 4) sc__law_deed.nd rfl (Or.inl rfl) (pe_dget (hu_of hr) (pv 1) (pv 3) (fun _ _ => rfl)))) pss_nil) (pss_one (ps_ret (pe_tup (pa_cons pe_str (pa_cons (pv 3) (pa_cons (pe_callA D__law_part hr pass0 (pa_cons (pv 0) (pa_cons (pv 4) pa_nil))) (pa_cons (pe_callA D__law_lines hr pass0 (pa_cons (pv 0) (pa_cons pe_int pa_nil))) pa_nil)))))))))))))), ?_⟩
  walk_at "st"
  walk_at "nw"
  intro p1 H1 N1
  walk_at "st"
  refine ⟨b, d, 6, rfl, B.nw N1, by decide, fun i H2 h0 h1 e2 B2 => ?_⟩
  have k2 : Kp [b] H H2 := N1.kp.trans e2
  have F2 := F.kb B k2
  refine c_pickM (u := V.str) ["write", "write", "remove", "move", "splice", "splice"] (B.pick N1 e2) h0 h1 fun y hy => ?_
  walk_at "st"
  refine ⟨b, d, f, fs, rfl, B2, F2, G, fun p H3 hp e3 B3 => ?_⟩
  have k3 := k2.trans e3
  have F3 := F2.kb B2 e3
  simp only [List.mem_cons, List.not_mem_nil, or_false] at hy
  rcases hy with rfl | rfl | rfl | rfl | rfl | rfl
  · walk_at "dc"
    refine ⟨b, d, 4, rfl, B3, by decide, by decide, fun l ls H4 hls _ e4 B4 hl => ?_⟩
    walk_at "st"
    walk_at "nw"
    intro p5 H5 N5
    refine q p5 (.write p ls) H5 (by simp only [Action.bad, hp, hls, if_true]) rfl ((k3.trans e4).trans N5.kp) (B4.nw N5) ⟨l, SqT.of N5.at_, SqT.kp N5.kp hl⟩
  · walk_at "dc"
    refine ⟨b, d, 4, rfl, B3, by decide, by decide, fun l ls H4 hls _ e4 B4 hl => ?_⟩
    walk_at "st"
    walk_at "nw"
    intro p5 H5 N5
    refine q p5 (.write p ls) H5 (by simp only [Action.bad, hp, hls, if_true]) rfl ((k3.trans e4).trans N5.kp) (B4.nw N5) ⟨l, SqT.of N5.at_, SqT.kp N5.kp hl⟩
  · walk_at "dc"
    walk_at "nw"
    intro p5 H5 N5
    refine q p5 (.remove p) H5 (by simp only [Action.bad, hp, if_true]) rfl (k3.trans N5.kp) (B3.nw N5) (SqT.of N5.at_)
  · walk_at "dc"
    refine c_dnew fun f0 H4 N4 => ?_
    walk_at "st"
    refine ⟨b, d, f0, [], rfl, B3.nw N4, FilesAt.nil N4.at_, ⟨by simp, .nil, by simp, by simp, by simp⟩, fun t H5 ht e5 B5 => ?_⟩
    walk_at "st"
    walk_at "nw"
    intro p6 H6 N6
    refine q p6 (.move p t) H6 (by simp only [Action.bad, hp, ht, if_true]) rfl (((k3.trans N4.kp).trans e5).trans N6.kp) (B5.nw N6) (SqT.of N6.at_)
  all_goals
    walk_at "dc"
    walk_at "nw"
    intro p4 H4 N4
    walk_at "st"
    refine c_cut (fun σ' H' => ∃ l ls, σ' = [some (.ref b), some (.ref f), some (.str "splice"), some (.str p), some (.ref l)] ∧ H4 = H' ∧ SqT K H' l (ls.map V.str) ∧ isLinesS ls = true) ?_ ?_
    · walk_at "st"
      refine c_dinF (F3.kp N4.kp).r ?_
      walk_at "st"
      refine c_iteB (fun g => ?_) (fun g => ?_)
      · obtain ⟨ls, g⟩ := Option.isSome_iff_exists.mp g
        walk_at "st"
        refine c_dgetF (F3.kp N4.kp).r g fun la hla => ?_
        walk_at "st"
        exact ⟨la, ls, rfl, rfl, hla, G.lines _ (at_mem g)⟩
      · walk_at "st"
        exact ⟨p4, [], rfl, rfl, SqT.of N4.at_, rfl⟩
    · rintro _ _ ⟨l, ls, rfl, rfl, hl, hls⟩
      walk_at "st"
      refine ⟨b, d, l, ls, rfl, B3.nw N4, hl, hls, fun po old H5 ho hpos e5 B5 hpo => ?_⟩
      walk_at "st"
      refine ⟨b, d, 3, rfl, B5, by decide, by decide, fun pn new H6 hn _ e6 B6 hpn => ?_⟩
      walk_at "st"
      walk_at "nw"
      intro p7 H7 N7
      refine q p7 (.splice p old new) H7 ?_ rfl ((((k3.trans N4.kp).trans e5).trans e6).trans N7.kp) (B6.nw N7) ⟨po, pn, SqT.of N7.at_, SqT.kp N7.kp (SqT.kt (B5.kt e6) hpo), SqT.kp N7.kp hpn⟩
      simp only [Action.bad, hp, ho, hn, decide_eq_true hpos, Bool.and_self, if_true]
theorem D__law_deed (T : TX K mg) : DefAt P w K mg base CX0 "_law_deed" 5 ["_law_box", "_law_files_here"] (spDrawn K fun x => !x.isQ) :=
  def_of T 34 54 sc__law_deed bn__law_deed (by walk_at "len") (b__law_deed T)
theorem sc__law_action : FnScope ["_law_box", "_law_files_here"] ["_law_box", "_law_files_here"] (defScope s__law_action) := ⟨rfl, rfl, rfl, by decide +kernel, rfl, by decide +kernel, by decide +kernel⟩
theorem bn__law_action : BindN "_law_action" s__law_action ["_law_box", "_law_files_here"] := fun _ _ _ _ _ _ us hl => match us, hl with | [_, _], _ => rfl
theorem b__law_action (T : TX K mg) : Body P w K mg base "_law_action" s__law_action ["_law_box", "_law_files_here"] 6 (spDrawn K fun _ => true) := by
  intro cdv A outer s H vs Q E h X hr
  obtain ⟨b, d, f, fs, rfl, B, F, G, q⟩ := h
  have D__law_deed := D__law_deed (P := P) (w := w) (base := base) T; have D__law_draw := D__law_draw (P := P) (w := w) (base := base) T; have D__law_question := D__law_question (P := P) (w := w) (base := base) T
  refine ⟨_, (pss_cons (ps_if (pt_cmpR (op_eqU (K := K) hr.units) (pe_callA D__law_draw hr pass0 (pa_cons (pv 0) (pa_cons pe_int pa_nil))) pe_int (nomark _)) (pss_one (ps_ret (pe_callA D__law_question hr pass0 (pa_cons (pv 0) (pa_cons (pv 1) pa_nil))))) pss_nil) (pss_one (ps_ret (pe_callA D__law_deed hr pass0 (pa_cons (pv 0) (pa_cons (pv 1) pa_nil)))))), ?_⟩
  walk_at "st"
  refine ⟨b, d, 2, rfl, B, by decide, fun i H1 h0 h1 e1 B1 => ?_⟩
  walk_at "st"
  refine c_ite (fun g => ?_) (fun g => ?_)
  · walk_at "st"
    exact ⟨b, d, f, fs, rfl, B1, F.kb B e1, G, fun a x H2 hb _ e2 B2 ha => q a x H2 hb rfl (e1.trans e2) B2 ha⟩
  · walk_at "st"
    exact ⟨b, d, f, fs, rfl, B1, F.kb B e1, G, fun a x H2 hb _ e2 B2 ha => q a x H2 hb rfl (e1.trans e2) B2 ha⟩
theorem D__law_action (T : TX K mg) : DefAt P w K mg base CX0 "_law_action" 7 ["_law_box", "_law_files_here"] (spDrawn K fun _ => true) :=
  def_of T 35 55 sc__law_action bn__law_action (by walk_at "len") (b__law_action T)
end
end K61



namespace K61
open PySem L2 Sa
/-! ## data that is small enough to be shown -/
structure Fit (n w : Nat) (d : PyData) : Prop where
  lay : PyData.canLay0 d = true
  dep : PyData.depth d ≤ n
  wt : PyData.weight d ≤ w
  shrt : PyData.intsShort 13 d = true
  show_ : PyData.showable d = true
structure FitAll (n w : Nat) (ds : List PyData) : Prop where
  lay : PyData.canLayAll0 ds = true
  dep : PyData.depthAll ds ≤ n
  wt : PyData.weightAll ds ≤ w
  shrt : PyData.intsShortAll 13 ds = true
  show_ : PyData.showableAll ds = true
theorem Fit.mono {n w n' w' : Nat} {d : PyData} (h : Fit n w d) (h1 : n ≤ n') (h2 : w ≤ w') : Fit n' w' d := ⟨h.lay, Nat.le_trans h.dep h1, Nat.le_trans h.wt h2, h.shrt, h.show_⟩
theorem Fit.none : Fit 0 0 .none := ⟨rfl, Nat.le_refl _, Nat.le_refl _, rfl, rfl⟩
theorem Fit.bool (b : Bool) : Fit 0 0 (.bool b) := ⟨rfl, Nat.le_refl _, Nat.le_refl _, rfl, rfl⟩
theorem Fit.str {z : Str} {w : Nat} (h : okS z = true) (hw : z.length ≤ w) : Fit 0 w (.str z) := ⟨by unfold PyData.canLay0; exact h, Nat.le_refl _, by unfold PyData.weight; exact hw, by simp only [PyData.intsShort], by simp only [PyData.showable]⟩
theorem nat_short : ∀ n ∈ List.range 1000, (PyData.shown (.int ((n : Nat) : Int))).length ≤ 13 ∧ ((n : Nat) : Int).natAbs.log2 < 1920 ∧ PyData.weight (.int ((n : Nat) : Int)) ≤ 10 := by decide +kernel
theorem Fit.nat {n : Nat} (h : n < 1000) : Fit 0 10 (.int (n : Nat)) := by
  obtain ⟨h1, h2, h3⟩ := nat_short n (List.mem_range.mpr h)
  exact ⟨by simp only [PyData.canLay0], Nat.le_refl _, h3, by simp only [PyData.intsShort, decide_eq_true_eq]; exact h1, by simp only [PyData.showable, decide_eq_true_eq]; exact h2⟩
theorem FitAll.nil {n : Nat} : FitAll n 0 [] := ⟨by simp only [PyData.canLayAll0], Nat.zero_le _, Nat.le_refl _, by simp only [PyData.intsShortAll], by simp only [PyData.showableAll]⟩
theorem FitAll.cons {n w v : Nat} {d : PyData} {ds : List PyData} (h : Fit n w d) (g : FitAll n v ds) : FitAll n (w + 1 + v) (d :: ds) :=
  ⟨by simp only [PyData.canLayAll0, h.lay, g.lay, Bool.and_self], by simp only [PyData.depthAll]; exact Nat.max_le.mpr ⟨h.dep, g.dep⟩, by simp only [PyData.weightAll]; have := h.wt; have := g.wt; omega, by simp only [PyData.intsShortAll, h.shrt, g.shrt, Bool.and_self], by simp only [PyData.showableAll, h.show_, g.show_, Bool.and_self]⟩
theorem FitAll.of {n w : Nat} : ∀ {ds : List PyData}, (∀ d ∈ ds, Fit n w d) → FitAll n ((w + 1) * ds.length) ds
  | [], _ => FitAll.nil
  | d :: r, h => by
    have g := FitAll.cons (h d (List.mem_cons_self ..)) (FitAll.of fun e he => h e (List.mem_cons_of_mem _ he))
    rw [List.length_cons, Nat.mul_add, Nat.mul_one]
    exact ⟨g.lay, g.dep, by have := g.wt; omega, g.shrt, g.show_⟩
theorem FitAll.mono {n w n' w' : Nat} {ds : List PyData} (h : FitAll n w ds) (h1 : n ≤ n') (h2 : w ≤ w') : FitAll n' w' ds := ⟨h.lay, Nat.le_trans h.dep h1, Nat.le_trans h.wt h2, h.shrt, h.show_⟩
theorem FitAll.tup {n w : Nat} {ds : List PyData} (h : FitAll n w ds) : Fit (n + 1) w (.tuple ds) :=
  ⟨by simp only [PyData.canLay0, h.lay], by simp only [PyData.depth]; have := h.dep; omega, by simp only [PyData.weight]; exact h.wt, by simp only [PyData.intsShort, h.shrt], by simp only [PyData.showable, h.show_]⟩
theorem FitAll.lst {n w : Nat} {ds : List PyData} (h : FitAll n w ds) : Fit (n + 1) w (.list ds) :=
  ⟨by simp only [PyData.canLay0, h.lay], by simp only [PyData.depth]; have := h.dep; omega, by simp only [PyData.weight]; exact h.wt, by simp only [PyData.intsShort, h.shrt], by simp only [PyData.showable, h.show_]⟩
theorem Fit.tup {n w m : Nat} {ds : List PyData} (h : ∀ d ∈ ds, Fit n w d) (hl : ds.length ≤ m) : Fit (n + 1) ((w + 1) * m) (.tuple ds) := ((FitAll.of h).mono (Nat.le_refl _) (Nat.mul_le_mul_left _ hl)).tup
theorem Fit.nice {n w : Nat} {d : PyData} (h : Fit n w d) (hn : n ≤ 64) (hw : w ≤ 1048576) : Nice d := by
  refine ⟨?_, h.shrt, h.show_⟩
  unfold PyData.layable0
  have e : (2 : Nat) ^ 20 = 1048576 := by decide
  rw [h.lay, decide_eq_true (Nat.le_trans h.dep hn), e, decide_eq_true (Nat.le_trans h.wt hw)]
  rfl
theorem Fit.shaped {n w : Nat} {d : PyData} (h : Fit n w d) (hn : n ≤ 64) : SeqAt.shaped d = true := by
  unfold SeqAt.shaped
  rw [h.lay, decide_eq_true (Nat.le_trans h.dep hn)]
  rfl
theorem Fit.strs {ys : List Str} {w m : Nat} (h : ∀ y ∈ ys, okS y = true ∧ y.length ≤ w) (hl : ys.length ≤ m) : Fit 1 ((w + 1) * m) (strsD ys) :=
  Fit.tup (fun d hd => by obtain ⟨y, hy, rfl⟩ := List.mem_map.mp hd; exact Fit.str (h y hy).1 (h y hy).2) (by rw [List.length_map]; exact hl)
/-! ## what answers are -/
theorem Fit.word {z : Str} (h : okS z = true) (hl : z.length ≤ 11) : Fit 1 12 (wordD z) := Fit.tup (m := 1) (fun d hd => by rw [List.mem_singleton.mp hd]; exact Fit.str h hl) (by simp)
theorem sub_ok {x : Str} {i j : Nat} (h : okS x = true) : okS (PySem.Builtin.Str.strSub x i j) = true := okS_iff.mpr fun c hc => by
  refine okS_iff.mp h c ?_
  have hc : c ∈ (x.cps.extract i j).toList := hc
  rw [Array.toList_extract] at hc
  exact List.mem_of_mem_drop (List.mem_of_mem_take hc)
theorem part_ok {x y : Str} (h : okS x = true) (hy : okS y = true) : okS (Txt.partition x y).1 = true ∧ okS (Txt.partition x y).2.1 = true := by
  rcases PyProof.Rows.partition_whole x y with ⟨e, _⟩ | ⟨i, e, _⟩
  · rw [e]; exact ⟨h, (by decide +kernel : okS Str.empty = true)⟩
  · rw [e]; exact ⟨sub_ok h, hy⟩
theorem cutS_ok {x : Str} {lo hi : Option Int} (h : okS x = true) : okS (cutS x lo hi) = true := okS_iff.mpr fun c hc => by
  refine okS_iff.mp h c ?_
  rw [txt_of x, cutS_txt, txt_cps] at hc
  exact List.mem_of_mem_drop (List.mem_of_mem_take hc)
theorem app_ok {x y : Str} (h : okS x = true) (hy : okS y = true) : okS (x ++ y) = true := okS_iff.mpr fun c hc => by
  rw [cps_app, List.mem_append] at hc
  exact hc.elim (okS_iff.mp h c) (okS_iff.mp hy c)
theorem first_ok {z p : Str} (h : okS p = true) (hl : p.length ≤ 26) : okS (firstN z p) = true ∧ (firstN z p).length ≤ 27 := by
  have c1 := cutS_ok (lo := some (startN z)) (hi := none) h
  obtain ⟨o1, o2⟩ := part_ok c1 (y := PySem.Str.ofString "/") (by decide +kernel)
  have l := part_len (cutS p (some (startN z)) none) (PySem.Str.ofString "/")
  have cl := cutS_len p (some (startN z)) none
  have e1 : (PySem.Str.ofString "/").length = 1 := by decide
  exact ⟨app_ok o1 o2, by unfold firstN; rw [str_app_len]; omega⟩
theorem ded_sub (xs : List Str) : ∀ x ∈ ded xs, x ∈ xs := by
  have : ∀ (xs σ : List Str), ∀ x ∈ xs.foldl stepT σ, x ∈ σ ∨ x ∈ xs := by
    intro xs
    induction xs with
    | nil => intro σ x hx; exact .inl hx
    | cons y r ih =>
      intro σ x hx
      rcases ih _ x hx with h | h
      · unfold stepT at h
        split at h
        · exact .inl h
        · rcases List.mem_append.mp h with h | h
          · exact .inl h
          · rw [List.mem_singleton.mp h]; exact .inr (List.mem_cons_self ..)
      · exact .inr (List.mem_cons_of_mem _ h)
  intro x hx
  rcases this xs [] x hx with h | h
  · cases h
  · exact h
theorem fit_rows {p w : Str} {ls : List Str} (hp : isPathS p = true) (hl : ls.length ≤ 12) : (rowsD p ls w).length ≤ 12 ∧ ∀ d ∈ rowsD p ls w, Fit 1 54 d := by
  unfold rowsD
  constructor
  · rw [List.length_map]
    have := List.length_filter_le (fun i => occS (ls.getD i Str.empty) w) (List.range ls.length)
    rw [List.length_range] at this
    omega
  · intro d hd
    obtain ⟨i, hi, rfl⟩ := List.mem_map.mp hd
    have hi : i < ls.length := List.mem_range.mp (List.mem_filter.mp hi).1
    refine Fit.tup (w := 26) (m := 2) (fun e he => ?_) (by simp)
    simp only [List.mem_cons, List.not_mem_nil, or_false] at he
    rcases he with rfl | rfl
    · exact Fit.str (path_ok hp) (path_len hp)
    · exact (Fit.nat (by omega)).mono (Nat.le_refl _) (by omega)
theorem flat_len {α β : Type} (f : α → List β) (m : Nat) : ∀ xs : List α, (∀ x ∈ xs, (f x).length ≤ m) → (xs.flatMap f).length ≤ m * xs.length
  | [], _ => by simp
  | x :: r, h => by
    have h1 := h x (List.mem_cons_self ..)
    have h2 := flat_len f m r fun y hy => h y (List.mem_cons_of_mem _ hy)
    rw [List.flatMap_cons, List.length_append, List.length_cons, Nat.mul_add, Nat.mul_one]
    omega
theorem inside_len {fs : List File} (h : GoodP fs) (z : Str) : (insideF fs z).length ≤ 20 := by
  have h1 := List.length_filter_le (fun y => isInsideS y z) (pathsOf fs)
  have h2 := h.len
  have h3 : (pathsOf fs).length = fs.length := List.length_map ..
  unfold insideF
  omega
theorem fit_two {w : Str} {d : PyData} {n m : Nat} (h : okS w = true) (hl : w.length ≤ 11) (hd : Fit n m d) (hm : 11 ≤ m) : Fit (n + 1) ((m + 1) * 2) (.tuple [.str w, d]) :=
  Fit.tup (fun e he => by
    simp only [List.mem_cons, List.not_mem_nil, or_false] at he
    rcases he with rfl | rfl
    · exact (Fit.str h hl).mono (Nat.zero_le _) hm
    · exact hd) (by simp)
theorem fit_ask {fs : List File} (h : GoodP fs) (x : Action) : Fit 3 30000 (askF fs x) := by
  have no : Fit 3 30000 (wordD "none") := (Fit.word (by decide +kernel) (by decide)).mono (by omega) (by omega)
  cases x with
  | read p =>
    simp only [askF]
    split
    · exact no
    · rename_i ls g
      obtain ⟨l1, l2⟩ := lines_len (h.lines _ (at_mem g))
      exact (fit_two (by decide +kernel) (by decide) (Fit.strs (w := 20) (m := 12) (fun y hy => ⟨plain_ok (l2 y hy).2, (l2 y hy).1⟩) l1) (by omega)).mono (by omega) (by omega)
  | kind z =>
    simp only [askF]
    split
    · exact (Fit.word (by decide +kernel) (by decide)).mono (by omega) (by omega)
    · split
      · exact (Fit.word (by decide +kernel) (by decide)).mono (by omega) (by omega)
      · exact no
  | list z =>
    simp only [askF]
    split
    · refine (fit_two (by decide +kernel) (by decide) (Fit.strs (ys := namesF fs z) (w := 27) (m := 20) (fun y hy => ?_) ?_) (by omega)).mono (by omega) (by omega)
      · have h1 := ded_sub _ y ((sortS_perm _).subset hy)
        obtain ⟨p, hp, rfl⟩ := List.mem_map.mp h1
        obtain ⟨f, hf, rfl⟩ := List.mem_map.mp (List.mem_filter.mp hp).1
        exact first_ok (path_ok (h.path f hf)) (path_len (h.path f hf))
      · unfold namesF
        rw [sortS_len]
        have := ded_le ((insideF fs z).map (firstN z))
        rw [List.length_map] at this
        have := inside_len h z
        omega
    · exact no
  | count z =>
    simp only [askF]
    split
    · have := inside_len h z
      exact (fit_two (by decide +kernel) (by decide) ((Fit.nat (n := (insideF fs z).length) (by omega)).mono (Nat.le_refl _) (by omega : 10 ≤ 11)) (by omega)).mono (by omega) (by omega)
    · exact no
  | find z w =>
    simp only [askF]
    split
    · have rows : ∀ p ∈ foundPs fs z, (rowsD p ((at? fs p).getD []) w).length ≤ 12 ∧ ∀ d ∈ rowsD p ((at? fs p).getD []) w, Fit 1 54 d := fun p hp => by
        obtain ⟨ls, hls⟩ := foundPs_mem hp
        rw [hls]
        exact fit_rows (h.path _ (at_mem hls)) (lines_len (h.lines _ (at_mem hls))).1
      have fl : (foundPs fs z).length ≤ 21 := by
        unfold foundPs
        rw [sortS_len, List.length_append]
        have := inside_len h z
        split
        · rw [List.length_singleton]; omega
        · rw [List.length_nil]; omega
      have h1 := flat_len (fun p => rowsD p ((at? fs p).getD []) w) 12 (foundPs fs z) fun p hp => (rows p hp).1
      refine (fit_two (by decide +kernel) (by decide) (Fit.tup (n := 1) (w := 54) (m := 252) (ds := foundF fs z w) (fun d hd => ?_) ?_) (by omega)).mono (by omega) (by omega)
      · obtain ⟨p, hp, hd⟩ := List.mem_flatMap.mp hd
        exact (rows p hp).2 d hd
      · unfold foundF
        omega
    · exact no
  | _ => exact no
theorem fit_act {fs : List File} (h : GoodP fs) (x : Action) : Fit 3 30000 (actF fs x).1 := by
  have wd : ∀ z : Str, z ∈ (["none", "done", "missing", "blocked", "full", "absent", "ambiguous", "long"] : List Str) → Fit 3 30000 (wordD z) := fun z hz => by
    have := (by decide +kernel : ∀ z ∈ (["none", "done", "missing", "blocked", "full", "absent", "ambiguous", "long"] : List Str), okS z = true ∧ z.length ≤ 11) z hz
    exact (Fit.word this.1 this.2).mono (by omega) (by omega)
  unfold actF
  split
  · exact fit_ask h x
  · cases x with
    | write p ls =>
      simp only [deedF]
      split
      · exact wd _ (by decide +kernel)
      · split <;> exact wd _ (by decide +kernel)
    | remove p =>
      simp only [deedF]
      split <;> exact wd _ (by decide +kernel)
    | move p t =>
      simp only [deedF]
      split
      · exact wd _ (by decide +kernel)
      · split <;> exact wd _ (by decide +kernel)
    | splice p old new =>
      simp only [deedF]
      split
      · exact wd _ (by decide +kernel)
      · split
        · exact wd _ (by decide +kernel)
        · split <;> exact wd _ (by decide +kernel)
        · exact wd _ (by decide +kernel)
    | _ => exact wd _ (by decide +kernel)
/-- rows of files as data -/
def fileD (f : File) : PyData := .tuple [.str f.1, strsD f.2]
def rowsOfD (fs : List File) : PyData := .tuple (fs.map fileD)
theorem fit_files {fs : List File} (h : GoodP fs) : Fit 3 20000 (rowsOfD fs) := by
  refine (Fit.tup (n := 2) (w := 600) (m := 20) (fun d hd => ?_) (by rw [List.length_map]; exact h.len)).mono (by omega) (by omega)
  obtain ⟨f, hf, rfl⟩ := List.mem_map.mp hd
  obtain ⟨l1, l2⟩ := lines_len (h.lines f hf)
  refine (Fit.tup (n := 1) (w := 252) (m := 2) (fun d hd => ?_) (by simp)).mono (by omega) (by omega)
  simp only [List.mem_cons, List.not_mem_nil, or_false] at hd
  rcases hd with rfl | rfl
  · exact (Fit.str (path_ok (h.path f hf)) (path_len (h.path f hf))).mono (by omega) (by omega)
  · exact (Fit.strs (w := 20) (m := 12) (fun y hy => ⟨plain_ok (l2 y hy).2, (l2 y hy).1⟩) l1).mono (by omega) (by omega)
theorem dt_rows {K : PySem.W.Frag} {H : Hp} {p : Addr} {fs : List File} (rs : List RowA) (h : SqT K H p (rs.map fun r => V.ref r.1)) (e : rs.map (fun r => r.2.2) = fs) (hr : ∀ r ∈ rs, RowOk K H r) : Dt K H (.ref p) (rowsOfD fs) := by
  subst e
  refine .tup h ?_
  clear h
  induction rs with
  | nil => exact .nil
  | cons r t ih =>
    have h1 := hr r (List.mem_cons_self ..)
    exact .cons (.tup h1.row (.cons (.str _) (.cons (dt_strs h1.lines) .nil))) (ih fun q hq => hr q (List.mem_cons_of_mem _ hq))
end K61




namespace K61
open PySem L2 Sa
theorem law_cut (x y : Str) : decide (cutS x none (some ((y.length : Int) + 1)) = y ++ PySem.Str.ofString "/") = Txt.startswith x (y ++ PySem.Str.ofString "/") := by
  rw [← cut_starts, str_app_len]
  have e1 : (PySem.Str.ofString "/").length = 1 := by decide
  rw [e1]
  rfl
def lawBlocked (ps : List Str) (p : Str) : Bool := ps.any fun o => !decide (o = p) && (isInsideS o p || isInsideS p o)
theorem lawBlocked_eq {fs : List File} {p : Str} (hp : isPathS p = true) : lawBlocked (pathsOf fs) p = blockedF fs p := by
  unfold lawBlocked blockedF insideF aboveF
  have e : ∀ q : Str → Bool, decide (0 < ((pathsOf fs).filter q).length) = (pathsOf fs).any q := fun q => by
    rw [Bool.eq_iff_iff, decide_eq_true_eq, List.any_eq_true, List.length_pos_iff_exists_mem]
    constructor
    · rintro ⟨a, ha⟩; exact ⟨a, (List.mem_filter.mp ha).1, (List.mem_filter.mp ha).2⟩
    · rintro ⟨a, h1, h2⟩; exact ⟨a, List.mem_filter.mpr ⟨h1, h2⟩⟩
  rw [e, e, Bool.eq_iff_iff, Bool.or_eq_true, List.any_eq_true, List.any_eq_true, List.any_eq_true]
  have so := self_out hp
  constructor
  · rintro ⟨o, h1, h2⟩
    rw [Bool.and_eq_true, Bool.or_eq_true] at h2
    exact h2.2.elim (fun h => .inl ⟨o, h1, h⟩) (fun h => .inr ⟨o, h1, h⟩)
  · have ne : ∀ o, isInsideS o p = true ∨ isInsideS p o = true → o ≠ p := fun o h e => by
      subst e
      rw [so] at h
      rcases h with h | h <;> cases h
    rintro (⟨o, h1, h2⟩ | ⟨o, h1, h2⟩)
    · exact ⟨o, h1, by rw [h2, decide_eq_false (ne o (.inl h2))]; rfl⟩
    · exact ⟨o, h1, by rw [h2, decide_eq_false (ne o (.inr h2)), Bool.or_true]; rfl⟩
theorem itn_ks {d : Addr} {od : Obj} {ls : List (Addr × File)} : Itn (Itk d od (filesKv ls)) ls.length (fun H => H d = some (.frz od (.dK (filesKv ls)))) (Yq ls fun l => V.str l.2.1) := itn_k (f := fun l : Addr × File => (Sum.inr l.2.1 : Key)) (g := fun l => V.ref l.1)
section
variable {P : Program} {w : World} {K : PySem.W.Frag} {mg : Str → Option Value} {base : Heap}
def spLInside : Sp := fun vs H Q _ => ∃ x y : Str, vs = [.str x, .str y] ∧ x.length ≤ 1000 ∧ y.length ≤ 1000 ∧ Q (.bl (isInsideS x y)) H
theorem sc__law_inside : FnScope ["_law_path_here", "_law_place_here"] ["_law_path_here", "_law_place_here"] (defScope s__law_inside) := ⟨rfl, rfl, rfl, by decide +kernel, rfl, by decide +kernel, by decide +kernel⟩
theorem bn__law_inside : BindN "_law_inside" s__law_inside ["_law_path_here", "_law_place_here"] := fun _ _ _ _ _ _ us hl => match us, hl with | [_, _], _ => rfl
theorem b__law_inside (T : TX K mg) : Body P w K mg base "_law_inside" s__law_inside ["_law_path_here", "_law_place_here"] 1 (spLInside) := by
  intro cdv A outer s H vs Q E h X hr
  obtain ⟨x, y, rfl, hx, hy, q⟩ := h
  refine ⟨_, (pss_one (ps_ret (pe_or (pe_cmpR (op_eqU (K := K) hr.units) (pv 1) pe_str (nomark _)) (pe_one (pe_cmpR (op_eqU (K := K) hr.units) (pe_slice (sl_U (K := K)) (pv 0) po_none (po_some (pe_op (op_addU (K := K)) (pe_callB (cr_len (K := K)) rfl (T.free 2) PySem.boot_len (pa_cons (pv 1) pa_nil)) pe_int))) (pe_op (op_addU (K := K)) (pv 1) pe_str) (nomark _)))))), ?_⟩
  unfold isInsideS at q
  have e1 : (PySem.Str.ofString "/").length = 1 := by decide
  walk_at "st"
  refine c_ite (fun g => ?_) (fun g => ?_)
  · walk_at "st"
    rw [decide_eq_true g, Bool.true_or] at q
    exact q
  · walk_at "st"
    rw [decide_eq_false g, Bool.false_or, ← law_cut] at q
    refine c_slS (by rw [sizeLine_eq]; omega) ?_
    walk_at "st"
    refine c_addS (by rw [sizeLine_eq]; omega) ?_
    walk_at "st"
    exact q
theorem D__law_inside (T : TX K mg) : DefAt P w K mg base CX0 "_law_inside" 2 ["_law_path_here", "_law_place_here"] (spLInside) :=
  def_of T 20 39 sc__law_inside bn__law_inside (by walk_at "len") (b__law_inside T)
def spLBlocked (K : PySem.W.Frag) : Sp := fun vs H Q _ => ∃ (f : Addr) (p : Str) (fs : List File), vs = [.ref f, .str p] ∧ FilesAt K H f fs ∧ (∀ o ∈ pathsOf fs, o.length ≤ 1000) ∧ p.length ≤ 1000 ∧ Q (.bl (lawBlocked (pathsOf fs) p)) H
def spLBlockedL (K : PySem.W.Frag) : Sp := fun vs H Q _ => ∃ (f : Addr) (p : Str) (ps : List Str), vs = [.ref f, .str p] ∧ SqL K H f (ps.map V.str) ∧ (∀ o ∈ ps, o.length ≤ 1000) ∧ p.length ≤ 1000 ∧ Q (.bl (lawBlocked ps p)) H
theorem lb_yes {ps : List Str} {p o : Str} (h : o ∈ ps) (h1 : o ≠ p) (h2 : (isInsideS o p || isInsideS p o) = true) : lawBlocked ps p = true := List.any_eq_true.mpr ⟨o, h, by rw [h2, decide_eq_false h1]; rfl⟩
theorem lb_snoc {ps : List Str} {p o : Str} {i : Nat} (h : ps[i]? = some o) (g : lawBlocked (ps.take i) p = false) (n : (!decide (o = p) && (isInsideS o p || isInsideS p o)) = false) : lawBlocked (ps.take (i + 1)) p = false := by
  unfold lawBlocked at g ⊢
  rw [take_succ' h, List.any_append, g, Bool.false_or, List.any_cons, n]
  rfl
theorem sc__law_blocked : FnScope ["_law_files_here", "_law_path_here", "_law_other"] ["_law_files_here", "_law_path_here"] (defScope s__law_blocked) := ⟨rfl, rfl, rfl, by decide +kernel, rfl, by decide +kernel, by decide +kernel⟩
theorem bn__law_blocked : BindN "_law_blocked" s__law_blocked ["_law_files_here", "_law_path_here"] := fun _ _ _ _ _ _ us hl => match us, hl with | [_, _], _ => rfl
theorem b__law_blocked (T : TX K mg) : Body P w K mg base "_law_blocked" s__law_blocked ["_law_files_here", "_law_path_here", "_law_other"] 2 (spLBlocked K) := by
  intro cdv A outer s H vs Q E h X hr
  obtain ⟨f, p, fs, rfl, F, hps, hp, q⟩ := h
  have D__law_inside := D__law_inside (P := P) (w := w) (base := base) T
  refine ⟨_, (pss_cons (ps_lock (ps_for PassesOwn.never rfl (pi_keys (pv 0)) (pg_name (i := 2) sc__law_blocked.nd rfl (Or.inl rfl)) (pss_one (ps_if (PW.pt (pw_and (pt_cmpR (op_neU (K := K) hr.units) (pv 2) (pv 1) (nomark _)) (pw_and1 (PW.pt (pw_or (pt_tru (K := K) (pe_callA D__law_inside hr pass0 (pa_cons (pv 2) (pa_cons (pv 1) pa_nil)))) (pw_or1 (pt_tru (K := K) (pe_callA D__law_inside hr pass0 (pa_cons (pv 1) (pa_cons (pv 2) pa_nil)))))))))) (pss_one (ps_ret pe_bl)) pss_nil)))) (pss_one (ps_ret pe_bl))), ?_⟩
  obtain ⟨ls, hf, hl, rfl⟩ := F.ex
  walk_at "st"
  refine c_lockF hf fun od => ?_
  have back : upd (upd H f (.frz od (.dK (filesKv ls)))) f (.dK (filesKv ls)) = H := by rw [lock_back, upd_self hf]
  walk_at "st"
  refine c_keysAt upd_same ?_
  refine forQ (itn_ks (ls := ls)) (fun i σ H' => ∃ v, σ = [some (.ref f), some (.str p), v] ∧ H' = upd H f (.frz od (.dK (filesKv ls))) ∧ lawBlocked ((pathsOf (ls.map Prod.snd)).take i) p = false) ⟨_, rfl, rfl, rfl⟩ (by rintro i σ H' ⟨_, _, rfl, _⟩; exact upd_same) ?_ ?_
  · rintro i x σ H' _ hi ⟨v, rfl, rfl, hg⟩ ⟨rfl, l, hl1, rfl⟩
    have ho : (pathsOf (ls.map Prod.snd))[i]? = some l.2.1 := by unfold pathsOf; rw [List.getElem?_map, List.getElem?_map, hl1]; rfl
    have hm := List.mem_of_getElem? ho
    have hlen := hps _ hm
    walk_at "st"
    have yes : l.2.1 ≠ p → (isInsideS l.2.1 p || isInsideS p l.2.1) = true → Q (.bl true) H := fun h1 h2 => by rw [lb_yes hm h1 h2] at q; exact q
    refine c_iteN (fun g1 => ?_) (fun g1 => ?_)
    · walk_at "st"
      refine ⟨_, _, rfl, hlen, hp, ?_⟩
      walk_at "st"
      refine c_iteB (fun g2 => ?_) (fun g2 => ?_)
      · walk_at "st"
        refine ⟨upd_same, ?_⟩
        rw [back]
        exact yes g1 (by rw [g2]; rfl)
      · walk_at "st"
        refine ⟨_, _, rfl, hp, hlen, ?_⟩
        walk_at "st"
        refine c_iteB (fun g3 => ?_) (fun g3 => ?_)
        · walk_at "st"
          refine ⟨upd_same, ?_⟩
          rw [back]
          exact yes g1 (by rw [g3, Bool.or_true])
        · walk_at "st"
          exact ⟨_, rfl, rfl, lb_snoc ho hg (by rw [g2, g3]; simp)⟩
    · walk_at "st"
      exact ⟨_, rfl, rfl, lb_snoc ho hg (by rw [decide_eq_true g1]; rfl)⟩
  · rintro σ H' ⟨v, rfl, rfl, hg⟩
    refine ⟨upd_same, ?_⟩
    rw [back]
    walk_at "st"
    rw [List.take_of_length_le (by unfold pathsOf; rw [List.length_map, List.length_map]; exact Nat.le_refl _)] at hg
    rw [hg] at q
    exact q
theorem D__law_blocked (T : TX K mg) : DefAt P w K mg base CX0 "_law_blocked" 3 ["_law_files_here", "_law_path_here"] (spLBlocked K) :=
  def_of T 21 40 sc__law_blocked bn__law_blocked (by walk_at "len") (b__law_blocked T)

theorem b__law_blocked__L (T : TX K mg) : Body P w K mg base "_law_blocked" s__law_blocked ["_law_files_here", "_law_path_here", "_law_other"] 2 (spLBlockedL K) := by
  intro cdv A outer s H vs Q E h X hr
  obtain ⟨f, p, ps, rfl, hf, hps, hp, q⟩ := h
  have D__law_inside := D__law_inside (P := P) (w := w) (base := base) T
  refine ⟨_, (pss_cons (ps_for PassesOwn.never rfl (pi_listU (K := K) (pv 0)) (pg_name (i := 2) sc__law_blocked.nd rfl (Or.inl rfl)) (pss_one (ps_if (PW.pt (pw_and (pt_cmpR (op_neU (K := K) hr.units) (pv 2) (pv 1) (nomark _)) (pw_and1 (PW.pt (pw_or (pt_tru (K := K) (pe_callA D__law_inside hr pass0 (pa_cons (pv 2) (pa_cons (pv 1) pa_nil)))) (pw_or1 (pt_tru (K := K) (pe_callA D__law_inside hr pass0 (pa_cons (pv 1) (pa_cons (pv 2) pa_nil)))))))))) (pss_one (ps_ret pe_bl)) pss_nil))) (pss_one (ps_ret pe_bl))), ?_⟩
  walk_at "st"
  refine forL (ps.map V.str) (fun i σ H' => ∃ v, σ = [some (.ref f), some (.str p), v] ∧ H' = H ∧ lawBlocked (ps.take i) p = false) ⟨_, rfl, rfl, rfl⟩ (by rintro i σ H' _ ⟨_, _, rfl, _⟩; exact hf) ?_ ?_
  · rintro i x σ H' hx ⟨v, rfl, rfl, hg⟩
    rw [List.getElem?_map] at hx
    obtain ⟨o, ho, rfl⟩ := Option.map_eq_some_iff.mp hx
    have hm := List.mem_of_getElem? ho
    have hlen := hps _ hm
    walk_at "st"
    have yes : o ≠ p → (isInsideS o p || isInsideS p o) = true → Q (.bl true) H' := fun h1 h2 => by rw [lb_yes hm h1 h2] at q; exact q
    refine c_iteN (fun g1 => ?_) (fun g1 => ?_)
    · walk_at "st"
      refine ⟨_, _, rfl, hlen, hp, ?_⟩
      walk_at "st"
      refine c_iteB (fun g2 => ?_) (fun g2 => ?_)
      · walk_at "st"
        exact yes g1 (by rw [g2]; rfl)
      · walk_at "st"
        refine ⟨_, _, rfl, hp, hlen, ?_⟩
        walk_at "st"
        refine c_iteB (fun g3 => ?_) (fun g3 => ?_)
        · walk_at "st"
          exact yes g1 (by rw [g3, Bool.or_true])
        · walk_at "st"
          exact ⟨_, rfl, rfl, lb_snoc ho hg (by rw [g2, g3]; simp)⟩
    · walk_at "st"
      exact ⟨_, rfl, rfl, lb_snoc ho hg (by rw [decide_eq_true g1]; rfl)⟩
  · rintro σ H' ⟨v, rfl, rfl, hg⟩
    walk_at "st"
    rw [List.take_of_length_le (by rw [List.length_map]; exact Nat.le_refl _)] at hg
    rw [hg] at q
    exact q
theorem D__law_blocked__L (T : TX K mg) : DefAt P w K mg base CX0 "_law_blocked" 3 ["_law_files_here", "_law_path_here"] (spLBlockedL K) :=
  def_of T 21 40 sc__law_blocked bn__law_blocked (by walk_at "len") (b__law_blocked__L T)
end
/-! ## a file put -/
def putR (fs : List File) (p : Str) (ls : List Str) : List File := if fs.any (fun f => decide (f.1 = p)) = true then fs.map (fun f => if f.1 = p then (p, ls) else f) else fs ++ [(p, ls)]
def putA (rs : List (Addr × File)) (p : Str) (a : Addr) (ls : List Str) : List (Addr × File) := if rs.any (fun r => decide (r.2.1 = p)) = true then rs.map (fun r => if r.2.1 = p then (a, (p, ls)) else r) else rs ++ [(a, (p, ls))]
theorem putA_snd (rs : List (Addr × File)) (p : Str) (a : Addr) (ls : List Str) : (putA rs p a ls).map Prod.snd = putR (rs.map Prod.snd) p ls := by
  unfold putA putR
  rw [List.any_map]
  have e : ((fun f : File => decide (f.1 = p)) ∘ Prod.snd) = fun r : Addr × File => decide (r.2.1 = p) := rfl
  rw [e]
  split
  · rw [List.map_map, List.map_map]
    congr 1
    funext r
    simp only [Function.comp]
    split <;> rfl
  · rw [List.map_append]; rfl
theorem putA_kv (rs : List (Addr × File)) (p : Str) (a : Addr) (ls : List Str) : filesKv (putA rs p a ls) = putK (filesKv rs) (Sum.inr p) (.ref a) := by
  unfold putA putK filesKv
  rw [List.any_map]
  have e : ((fun kv : Key × V => decide (kv.1 = (Sum.inr p : Key))) ∘ fun l : Addr × File => ((Sum.inr l.2.1 : Key), V.ref l.1)) = fun r : Addr × File => decide (r.2.1 = p) := by
    funext r
    simp
  rw [e]
  split
  · rw [List.map_map, List.map_map]
    congr 1
    funext r
    simp only [Function.comp, Sum.inr.injEq]
    split
    · rename_i h; rw [h]
    · rfl
  · rw [List.map_append]; rfl
theorem putR_perm {fs : List File} (h : Once fs) (p : Str) (ls : List Str) : (putR fs p ls).Perm (withF fs p ls) := by
  unfold putR withF withoutF
  split
  · rename_i hp
    induction fs with
    | nil => simp at hp
    | cons f r ih =>
      obtain ⟨h1, h2⟩ := List.nodup_cons.mp (show (f.1 :: r.map Prod.fst).Nodup from h)
      by_cases e : f.1 = p
      · have hr : ∀ g ∈ r, ¬ g.1 = p := fun g hg e2 => h1 (by rw [e, ← e2]; exact List.mem_map_of_mem (f := Prod.fst) hg)
        rw [List.map_cons, if_pos e, List.filter_cons_of_neg (by simp [e])]
        have e1 : r.map (fun f => if f.1 = p then (p, ls) else f) = r := by
          conv => rhs; rw [← List.map_id r]
          exact List.map_congr_left fun g hg => by rw [if_neg (hr g hg)]; rfl
        have e2 : r.filter (fun f => !decide (f.1 = p)) = r := List.filter_eq_self.mpr fun g hg => by rw [decide_eq_false (hr g hg)]; rfl
        rw [e1, e2]
        exact (List.perm_append_singleton (p, ls) r).symm
      · rw [List.map_cons, if_neg e, List.filter_cons_of_pos (by simp [e]), List.cons_append]
        refine List.Perm.cons f (ih h2 ?_)
        rw [List.any_cons, decide_eq_false e, Bool.false_or] at hp
        exact hp
  · rename_i hp
    have e2 : fs.filter (fun f => !decide (f.1 = p)) = fs := List.filter_eq_self.mpr fun g hg => by
      rw [List.any_eq_true] at hp
      cases q : decide (g.1 = p) with
      | false => rfl
      | true => exact absurd ⟨g, hg, q⟩ hp
    rw [e2]
theorem GoodP.put {fs : List File} {p : Str} {ls : List Str} (h : GoodP fs) (hp : isPathS p = true) (hl : isLinesS ls = true) (nb : lawBlocked (pathsOf fs) p = false) (hn : fs.length < 20 ∨ (at? fs p).isSome = true) : GoodP (putR fs p ls) :=
  (h.withf hp hl (nob (by rw [← lawBlocked_eq hp]; exact nb)) hn).perm (putR_perm h.once p ls).symm
theorem putR_len (fs : List File) (p : Str) (ls : List Str) : (putR fs p ls).length ≤ fs.length + 1 := by
  unfold putR
  split
  · rw [List.length_map]; omega
  · rw [List.length_append]; exact Nat.le_refl _
section
variable {K : PySem.W.Frag} {H : Hp} {f la : Addr} {fs : List File} {p : Str} {ls : List Str} {R : Hp → Prop}
/-- files[p] = lines -/
theorem c_putF (h : FilesAt K H f fs) (hn : fs.length ≤ 1000) (hl : SqT K H la (ls.map V.str)) (q : ∀ H', Kp [f] H H' → Kt H H' → FilesAt K H' f (putR fs p ls) → (∀ a o, a ≠ f → H' a = some o → H a = some o) → R H') : ∃ a H4, V.ref f = .ref a ∧ DPut H a (.str p) (.ref la) H4 ∧ R H4 := by
  obtain ⟨rs, h1, h2, rfl⟩ := h.ex
  have kt : ∀ o, Kt H (upd H f o) := fun o => Kt.upd1 (NoT.dK h1)
  refine c_dputAt h1 (by rw [sizeLine_eq]; unfold filesKv; rw [List.length_map] at hn ⊢; omega) ?_
  rw [← putA_kv rs p la ls]
  refine q _ (Kp.mut (by simp)) (kt _) ⟨putA rs p la ls, upd_same, fun r hr => ?_, putA_snd rs p la ls⟩ (fun a o ha ho => by rw [upd_ne ha] at ho; exact ho)
  unfold putA at hr
  split at hr
  · obtain ⟨r0, hr0, rfl⟩ := List.mem_map.mp hr
    split
    · exact SqT.kt (kt _) hl
    · exact SqT.kt (kt _) (h2 r0 hr0)
  · rcases List.mem_append.mp hr with hr | hr
    · exact SqT.kt (kt _) (h2 r hr)
    · rw [List.mem_singleton.mp hr]; exact SqT.kt (kt _) hl
end
section
variable {P : Program} {w : World} {K : PySem.W.Frag} {mg : Str → Option Value} {base : Heap}
def spFiles (K : PySem.W.Frag) : Sp := fun vs H Q _ => ∃ (b d : Addr) (m : Int), vs = [.ref b, .int m] ∧ Bx H b d ∧ 0 ≤ m ∧ m ≤ 12 ∧ ∀ f fs H', GoodP fs → (fs.length : Int) ≤ m → FilesAt K H' f fs → Kp [b] H H' → Bx H' b d → H f = none → Q (.ref f) H'
theorem sc__law_files : FnScope ["_law_box", "_law_most", "_law_files_here", "_law_turn", "_law_path_here", "_law_lines_here"] ["_law_box", "_law_most"] (defScope s__law_files) := ⟨rfl, rfl, rfl, by decide +kernel, rfl, by decide +kernel, by decide +kernel⟩
theorem bn__law_files : BindN "_law_files" s__law_files ["_law_box", "_law_most"] := fun _ _ _ _ _ _ us hl => match us, hl with | [_, _], _ => rfl
theorem b__law_files (T : TX K mg) : Body P w K mg base "_law_files" s__law_files ["_law_box", "_law_most", "_law_files_here", "_law_turn", "_law_path_here", "_law_lines_here"] 4 (spFiles K) := by
  intro cdv A outer s H vs Q E h X hr
  obtain ⟨b, d, m, rfl, B, m0, m1, q⟩ := h
  have D__law_blocked := D__law_blocked (P := P) (w := w) (base := base) T; have D__law_draw := D__law_draw (P := P) (w := w) (base := base) T; have D__law_lines := D__law_lines (P := P) (w := w) (base := base) T; have D__law_path := D__law_path (P := P) (w := w) (base := base) T
  refine ⟨_, (pss_cons (ps_set (i := 2) sc__law_files.nd rfl (Or.inl rfl) pe_dnewK) (pss_cons (ps_for PassesOwn.never rfl (pi_range1 rfl (T.free 31) (pa_cons (pe_callA D__law_draw hr pass0 (pa_cons (pv 0) (pa_cons (pe_op (op_addU (K := K)) (pv 1) pe_int) pa_nil))) pa_nil)) (pg_name (i := 3) sc__law_files.nd rfl (Or.inl rfl)) (pss_cons (ps_set (i := 4) sc__law_files.nd rfl (Or.inl rfl) (pe_callA D__law_path hr pass0 (pa_cons (pv 0) pa_nil))) (pss_cons (ps_set (i := 5) sc__law_files.nd rfl (Or.inl rfl) (pe_callA D__law_lines hr pass0 (pa_cons (pv 0) (pa_cons pe_int pa_nil)))) (pss_one (ps_if (pt_not (pt_tru (K := K) (pe_callA D__law_blocked hr pass0 (pa_cons (pv 2) (pa_cons (pv 4) pa_nil))))) (pss_one (ps_dput (hu_of hr) (pv 2) (pv 4) (pv 5) rfl)) pss_nil))))) (pss_one (ps_ret (pv 2))))), ?_⟩
  walk_at "st"
  refine c_dnew fun f H1 N1 => ?_
  walk_at "st"
  refine ⟨b, d, m + 1, rfl, B.nw N1, by omega, fun n H2 n0 n1 e2 B2 => ?_⟩
  walk_at "st"
  have nf := B.ne_new N1.fr
  have F1 : FilesAt K H1 f [] := FilesAt.nil N1.at_
  have F2 := F1.kb (B.nw N1) e2
  refine forR (fun i σ H' => ∃ v3 v4 v5 fs, σ = [some (.ref b), some (.int m), some (.ref f), v3, v4, v5] ∧ FilesAt K H' f fs ∧ GoodP fs ∧ fs.length ≤ i ∧ Kp [b] H H' ∧ Bx H' b d) ⟨_, _, _, [], rfl, F2, ⟨by simp, .nil, by simp, by simp, by simp⟩, Nat.le_refl _, (N1.kp (ms := [b])).trans e2, B2⟩ ?_ ?_
  · rintro i σ H3 hi ⟨v3, v4, v5, fs, rfl, F3, G3, hl, e3, B3⟩
    have gl := G3.len
    walk_at "st"
    refine ⟨b, d, rfl, B3, fun z H4 hz e4 B4 => ?_⟩
    walk_at "st"
    refine ⟨b, d, 4, rfl, B4, by decide, by decide, fun la lns H5 hls _ e5 B5 hla => ?_⟩
    walk_at "st"
    have F5 := (F3.kb B3 e4).kb B4 e5
    have hz8 := hz.len
    refine ⟨f, z, fs, rfl, F5, fun o ho => by
      obtain ⟨r, hr, rfl⟩ := List.mem_map.mp ho
      have := path_len (G3.path r hr)
      omega, by omega, ?_⟩
    walk_at "st"
    refine c_iteNB (fun g => ?_) (fun g => ?_)
    · walk_at "st"
      refine c_putF F5 (by omega) hla fun H6 e6 kt6 F6 back => ?_
      walk_at "st"
      refine ⟨_, _, _, _, rfl, F6, G3.put hz.path hls g (.inl (by omega)), by have := putR_len fs z lns; omega, ?_, ?_⟩
      · intro a o ha ho
        have hne : a ≠ f := fun e => by rw [e, N1.fr] at ho; cases ho
        exact e6 a o (by simpa using hne) (((e3.trans e4).trans e5) a o ha ho)
      · obtain ⟨at_, ds, b1, b2, b3⟩ := B5.ex
        exact ⟨at_, ds, e6 b _ (by simpa using (Ne.symm nf.1)) b1, e6 d _ (by simpa using (Ne.symm nf.2)) b2, b3⟩
    · walk_at "st"
      exact ⟨_, _, _, _, rfl, F5, G3, by omega, (e3.trans e4).trans e5, B5⟩
  · rintro σ H3 ⟨v3, v4, v5, fs, rfl, F3, G3, hl, e3, B3⟩
    walk_at "st"
    exact q f fs H3 G3 (by omega) F3 e3 B3 N1.fr
theorem D__law_files (T : TX K mg) : DefAt P w K mg base CX0 "_law_files" 5 ["_law_box", "_law_most"] (spFiles K) :=
  def_of T 22 41 sc__law_files bn__law_files (by walk_at "len") (b__law_files T)
def spLRows (K : PySem.W.Frag) : Sp := fun vs H Q _ => ∃ (f : Addr) (fs : List File), vs = [.ref f] ∧ FilesAt K H f fs ∧ Once fs ∧ fs.length ≤ 60 ∧ ∀ p H' (rs : List RowA), Kp [] H H' → SqT K H' p (rs.map fun r => V.ref r.1) → rs.map (fun r => r.2.2) = sortF fs → (∀ r ∈ rs, RowOk K H' r) → Q (.ref p) H'
theorem sc__law_rows : FnScope ["_law_files_here", "_law_path_here"] ["_law_files_here"] (defScope s__law_rows) := ⟨rfl, rfl, rfl, by decide +kernel, rfl, by decide +kernel, by decide +kernel⟩
theorem bn__law_rows : BindN "_law_rows" s__law_rows ["_law_files_here"] := fun _ _ _ _ _ _ us hl => match us, hl with | [_], _ => rfl
theorem b__law_rows (T : TX K mg) : Body P w K mg base "_law_rows" s__law_rows ["_law_files_here", "_law_path_here"] 1 (spLRows K) := by
  intro cdv A outer s H vs Q E h X hr
  obtain ⟨f, fs, rfl, F, ho, hn, q⟩ := h
  refine ⟨_, (pss_one (ps_ret (pe_callTy (cr_tuple (K := K)) rfl (T.free 37) (by decide +kernel) (pa_cons (pe_lc (own := [("_law_path_here", 1)]) rfl sc__law_rows.nd (pi_listU (K := K) (pe_callB (cr_sortedDU rfl) rfl (T.free 43) (by decide +kernel) (pa_cons (pv 0) pa_nil))) (blkOk_by (N := ["_law_files_here", "_law_path_here"]) (sc := defScope s__law_rows) (by decide +kernel)) (fun _ _ _ _ _ => (pg_name (i := 1) sc__law_rows.nd rfl (Or.inl rfl))) (fun _ _ _ _ _ => pts_nil) (fun _ _ _ _ _ => (pe_tup (pa_cons (pv 1) (pa_cons (pe_dget (hu_of hr) (pv 0) (pv 1) (fun _ _ => rfl)) pa_nil))))) pa_nil)))), ?_⟩
  obtain ⟨ls, hf, hls, rfl⟩ := id F.ex
  walk_at "st"
  refine c_sortedF F.r hn fun p H1 N1 => ?_
  have hn2 : ls.length ≤ 60 := by rw [List.length_map] at hn; exact hn
  walk_at "st"
  generalize hfs : sortF (ls.map Prod.snd) = fs at *
  have hmem : ∀ r ∈ fs, r ∈ ls.map Prod.snd := fun r hr => (sortF_perm (ls.map Prod.snd)).subset (hfs ▸ hr)
  have hlen : fs.length = ls.length := by rw [← hfs, sortF_len, List.length_map]
  let d0 : File := (Str.empty, [])
  have hp1 : SqL K H1 p (fs.map fun r => V.str r.1) := by
    have := N1.at_
    unfold pathsOf at this
    rw [List.map_map] at this
    exact SqL.of this
  refine lcQ_new (itn_l (ys := fs) (u := fun r => V.str r.1)) (fun i => .tup [.str (fs.getD i d0).1, .ref (linesAt ls (fs.getD i d0).1)]) (by omega) (fun H' e => SqL.kp e hp1) (fun i y H' H'' R S hi e z k => ?_) (fun D qs H2 hD e2 hacc hql hqs => ?_)
  · obtain ⟨rfl, r, hr, rfl⟩ := z
    have k0 : Kp [] H H'' := N1.kp.trans e
    obtain ⟨l, hl1, rfl, hl3, hl4⟩ := linesAt_ok ho (hmem r (List.mem_of_getElem? hr))
    walk_at "st"
    refine ⟨rfl, ?_⟩
    walk_at "st"
    refine ⟨f, .ref l.1, rfl, .inl ⟨_, Sum.inr l.2.1, .inl (k0.at0 hf), rfl, by rw [filesKv_val, hl3]; rfl⟩, ?_⟩
    walk_at "st"
    walk_at "nw"
    intro q4 H4 N
    refine k q4 H4 N.fr N.kp ?_
    rw [N.at_, getD_of (d := d0) hr, hl4]
  walk_at "st"
  refine c_tupleL (SqL.of hacc) fun p3 H3 N3 => ?_
  have kk : Kp [] H H3 := (N1.kp.trans e2).trans N3.kp
  refine q p3 H3 (List.zipWith (fun q f => (q, linesAt ls f.1, f)) qs fs) kk ?_ ?_ ?_
  · have : (List.zipWith (fun q f => (q, linesAt ls f.1, f)) qs fs).map (fun r : RowA => V.ref r.1) = qs.map V.ref := by
      rw [List.map_zipWith]
      apply List.ext_getElem?
      intro i
      rw [List.getElem?_zipWith, List.getElem?_map]
      by_cases hi : i < qs.length
      · rw [List.getElem?_eq_getElem hi, List.getElem?_eq_getElem (by omega)]
        rfl
      · rw [List.getElem?_eq_none (by omega)]
        rfl
    rw [this]
    exact SqT.of N3.at_
  · rw [List.map_zipWith]
    apply List.ext_getElem?
    intro i
    rw [List.getElem?_zipWith]
    by_cases hi : i < fs.length
    · rw [List.getElem?_eq_getElem hi, List.getElem?_eq_getElem (by omega)]
    · rw [List.getElem?_eq_none (l := fs) (by omega), List.getElem?_eq_none (l := qs) (by omega)]
  · intro r hr
    obtain ⟨i, hi, e⟩ := List.mem_iff_getElem.mp hr
    rw [List.getElem_zipWith] at e
    subst e
    rw [List.length_zipWith] at hi
    have hiq : i < qs.length := by omega
    have hif : i < fs.length := by omega
    obtain ⟨_, a2⟩ := hqs i _ (List.getElem?_eq_getElem hiq)
    rw [getD_of (d := d0) (List.getElem?_eq_getElem hif)] at a2
    obtain ⟨l, hl1, hl2, hl3, hl4⟩ := linesAt_ok ho (hmem _ (List.getElem_mem hif))
    refine ⟨SqT.of (N3.keep a2), ?_⟩
    show SqT K H3 (linesAt ls (fs[i]).1) ((fs[i]).2.map V.str)
    rw [hl4, ← hl2]
    exact SqT.kp kk (hls l hl1)
theorem D__law_rows (T : TX K mg) : DefAt P w K mg base CX0 "_law_rows" 2 ["_law_files_here"] (spLRows K) :=
  def_of T 62 91 sc__law_rows bn__law_rows (by walk_at "len") (b__law_rows T)
end
end K61



namespace K61
open PySem L2 Sa
/-! ## what the files say, in whatever order they lie -/
theorem paths_perm {fs gs : List File} (h : fs.Perm gs) : (pathsOf fs).Perm (pathsOf gs) := h.map Prod.fst
theorem any_perm {α : Type} {xs ys : List α} (h : xs.Perm ys) (p : α → Bool) : xs.any p = ys.any p := by
  rw [Bool.eq_iff_iff, List.any_eq_true, List.any_eq_true]
  exact ⟨fun ⟨a, h1, h2⟩ => ⟨a, h.subset h1, h2⟩, fun ⟨a, h1, h2⟩ => ⟨a, h.symm.subset h1, h2⟩⟩
theorem folder_any (fs : List File) (z : Str) : isFolderF fs z = (decide (z = PySem.Str.ofString "") || (pathsOf fs).any fun y => isInsideS y z) := by
  unfold isFolderF
  congr 1
  rw [Bool.eq_iff_iff, decide_eq_true_eq, List.any_eq_true, List.length_pos_iff_exists_mem]
  exact ⟨fun ⟨a, ha⟩ => ⟨a, (List.mem_filter.mp ha).1, (List.mem_filter.mp ha).2⟩, fun ⟨a, h1, h2⟩ => ⟨a, List.mem_filter.mpr ⟨h1, h2⟩⟩⟩
theorem folder_perm {fs gs : List File} (h : fs.Perm gs) (z : Str) : isFolderF fs z = isFolderF gs z := by rw [folder_any, folder_any, any_perm (paths_perm h)]
theorem ded_nodup' (xs : List Str) : (ded xs).Nodup := by
  have : ∀ (xs σ : List Str), σ.Nodup → (xs.foldl stepT σ).Nodup := by
    intro xs
    induction xs with
    | nil => intro σ h; exact h
    | cons x r ih =>
      intro σ h
      refine ih _ ?_
      unfold stepT
      split
      · exact h
      · rename_i hx
        rw [List.nodup_append]
        refine ⟨h, by simp, fun a ha b hb => ?_⟩
        rw [List.mem_singleton.mp hb]
        intro e
        exact hx (List.any_eq_true.mpr ⟨a, ha, by simp [e]⟩)
  exact this xs [] .nil
theorem ded_mem (xs : List Str) : ∀ x ∈ xs, x ∈ ded xs := by
  have : ∀ (xs σ : List Str), ∀ x, (x ∈ σ ∨ x ∈ xs) → x ∈ xs.foldl stepT σ := by
    intro xs
    induction xs with
    | nil => intro σ x h; rcases h with h | h; exact h; cases h
    | cons y r ih =>
      intro σ x h
      refine ih _ x ?_
      unfold stepT
      rcases h with h | h
      · refine .inl ?_
        split
        · exact h
        · exact List.mem_append_left _ h
      · rcases List.mem_cons.mp h with rfl | h
        · refine .inl ?_
          split
          · rename_i hx
            obtain ⟨a, ha, e⟩ := List.any_eq_true.mp hx
            rw [← beq_iff_eq.mp e]; exact ha
          · exact List.mem_append_right _ (List.mem_singleton.mpr rfl)
        · exact .inr h
  exact fun x hx => this xs [] x (.inr hx)
theorem ded_perm {xs ys : List Str} (h : xs.Perm ys) : (ded xs).Perm (ded ys) :=
  (List.perm_ext_iff_of_nodup (ded_nodup' xs) (ded_nodup' ys)).mpr fun a => ⟨fun ha => ded_mem ys a (h.subset (ded_sub xs a ha)), fun ha => ded_mem xs a (h.symm.subset (ded_sub ys a ha))⟩
theorem inside_perm {fs gs : List File} (h : fs.Perm gs) (z : Str) : (insideF fs z).Perm (insideF gs z) := (paths_perm h).filter _
theorem names_perm {fs gs : List File} (h : fs.Perm gs) (z : Str) : namesF fs z = namesF gs z := sortS_congr (ded_perm ((inside_perm h z).map _))
theorem foundPs_eq {fs : List File} (G : GoodP fs) (ha : Asc fs) (z : Str) : foundPs fs z = (pathsOf fs).filter fun p => decide (p = z) || isInsideS p z := by
  unfold foundPs
  refine sorted_eq ((sortS_perm _).trans ?_) (sortS_asc _) (List.Pairwise.filter _ ha)
  have nd : (pathsOf fs).Nodup := G.once
  refine (List.perm_ext_iff_of_nodup ?_ (nd.filter _)).mpr fun a => ?_
  · rw [List.nodup_append]
    refine ⟨nd.filter _, by split <;> simp, fun a h1 b h2 e => ?_⟩
    split at h2
    · rename_i hz
      rw [List.mem_singleton.mp h2] at e
      subst e
      obtain ⟨g, hg, e2⟩ := List.mem_map.mp (at_isSome.mp hz)
      have h3 := (List.mem_filter.mp h1).2
      have h4 := self_out (G.path g hg)
      rw [e2] at h4
      rw [h4] at h3
      cases h3
    · cases h2
  · rw [List.mem_append, List.mem_filter]
    constructor
    · rintro (h | h)
      · obtain ⟨h1, h2⟩ := List.mem_filter.mp h
        exact ⟨h1, by rw [h2, Bool.or_true]⟩
      · split at h
        · rename_i hz
          rw [List.mem_singleton.mp h]
          exact ⟨at_isSome.mp hz, by simp⟩
        · cases h
    · rintro ⟨h1, h2⟩
      rcases Bool.or_eq_true _ _ |>.mp h2 with h2 | h2
      · have e := of_decide_eq_true h2
        subst e
        exact .inr (by rw [if_pos (at_isSome.mpr h1)]; exact List.mem_singleton.mpr rfl)
      · exact .inl (List.mem_filter.mpr ⟨h1, h2⟩)
/-! ## the first name behind a place, by split -/
theorem spl_par : ∀ (cs acc : List Nat), TL.spl [47] 0 acc cs = (match TL.par [47] acc cs with
    | none => [acc ++ cs]
    | some (p, q) => p :: TL.spl [47] 0 [] q)
  | [], acc => by rw [TL.spl_nil]; show _ = [acc ++ []]; rw [List.append_nil]
  | c :: r, acc => by
    by_cases h : TL.pre [47] (c :: r) = true
    · rw [TL.spl_hit h, TL.par_hit h]
      rfl
    · have h : TL.pre [47] (c :: r) = false := by simpa using h
      rw [TL.spl_miss h, TL.par_miss h, spl_par r (acc ++ [c])]
      cases TL.par [47] (acc ++ [c]) r with
      | none => simp
      | some pq => rfl
theorem spl_ne (cs acc : List Nat) : TL.spl [47] 0 acc cs ≠ [] := by
  rw [spl_par]
  cases TL.par [47] acc cs <;> simp
theorem split_first (r : Str) : ∃ a t, Txt.split r (PySem.Str.ofString "/") = a :: t ∧ a.length ≤ r.length ∧ (if decide ((1 : Int) < ((a :: t).length : Int)) = true then a ++ PySem.Str.ofString "/" else a) = (Txt.partition r (PySem.Str.ofString "/")).1 ++ (Txt.partition r (PySem.Str.ofString "/")).2.1 := by
  have es : Txt.split r (PySem.Str.ofString "/") = (TL.spl [47] 0 [] r.cps.toList).map SX.S := by
    have := SX.split_S (a := r.cps.toList) (b := [47]) (by simp) (by decide)
    rw [SX.S_tl] at this
    rw [slash2]
    exact this
  have hmem : ∀ a, a ∈ Txt.split r (PySem.Str.ofString "/") → a.length ≤ r.length := fun a ha => split_part ha
  rw [es] at hmem ⊢
  rw [spl_par] at hmem ⊢
  cases q : TL.par [47] [] r.cps.toList with
  | none =>
    have ep := SX.partition_none (a := r.cps.toList) (b := [47]) (by simp) q
    rw [SX.S_tl] at ep
    rw [q] at hmem
    refine ⟨SX.S ([] ++ r.cps.toList), [], rfl, hmem _ (List.mem_singleton.mpr rfl), ?_⟩
    rw [slash2, ep]
    show SX.S ([] ++ r.cps.toList) = r ++ SX.S []
    rw [List.nil_append, SX.S_tl]
    exact str_ext (by rw [cps_app]; simp)
  | some pq =>
    obtain ⟨p1, q1⟩ := pq
    have ep := SX.partition_some (a := r.cps.toList) (b := [47]) (by simp) q
    rw [SX.S_tl] at ep
    rw [q] at hmem
    refine ⟨SX.S p1, (TL.spl [47] 0 [] q1).map SX.S, rfl, hmem _ (List.mem_cons_self ..), ?_⟩
    rw [slash2, ep, if_pos]
    rw [decide_eq_true_eq, List.length_cons, List.length_map]
    have := List.length_pos_iff.mpr (spl_ne q1 [])
    omega
theorem cut_zero (x : Str) : cutS x (some 0) none = x := by
  rw [txt_of x, cutS_txt, sIx_of (by decide)]
  show txt ((x.cps.toList.drop (min 0 _)).take (x.cps.toList.length - min 0 _)) = _
  rw [Nat.zero_min, List.drop_zero, Nat.sub_zero, List.take_length]
section
variable {P : Program} {w : World} {K : PySem.W.Frag} {mg : Str → Option Value} {base : Heap}
def spLFolder (K : PySem.W.Frag) : Sp := fun vs H Q _ => ∃ (f : Addr) (z : Str) (fs : List File), vs = [.ref f, .str z] ∧ FilesAt K H f fs ∧ (∀ o ∈ pathsOf fs, o.length ≤ 1000) ∧ z.length ≤ 1000 ∧ Q (.bl (isFolderF fs z)) H
theorem sc__law_is_folder : FnScope ["_law_files_here", "_law_place_here", "_law_path_here"] ["_law_files_here", "_law_place_here"] (defScope s__law_is_folder) := ⟨rfl, rfl, rfl, by decide +kernel, rfl, by decide +kernel, by decide +kernel⟩
theorem bn__law_is_folder : BindN "_law_is_folder" s__law_is_folder ["_law_files_here", "_law_place_here"] := fun _ _ _ _ _ _ us hl => match us, hl with | [_, _], _ => rfl
theorem b__law_is_folder (T : TX K mg) : Body P w K mg base "_law_is_folder" s__law_is_folder ["_law_files_here", "_law_place_here", "_law_path_here"] 2 (spLFolder K) := by
  intro cdv A outer s H vs Q E h X hr
  obtain ⟨f, z, fs, rfl, F, hps, hz, q⟩ := h
  have D__law_inside := D__law_inside (P := P) (w := w) (base := base) T
  refine ⟨_, (pss_cons (ps_lock (ps_for PassesOwn.never rfl (pi_keys (pv 0)) (pg_name (i := 2) sc__law_is_folder.nd rfl (Or.inl rfl)) (pss_one (ps_if (pt_tru (K := K) (pe_callA D__law_inside hr pass0 (pa_cons (pv 2) (pa_cons (pv 1) pa_nil)))) (pss_one (ps_ret pe_bl)) pss_nil)))) (pss_one (ps_ret (pe_cmpR (op_eqU (K := K) hr.units) (pv 1) pe_str (nomark _))))), ?_⟩
  obtain ⟨ls, hf, hl, rfl⟩ := F.ex
  rw [folder_any] at q
  walk_at "st"
  refine c_lockF hf fun od => ?_
  have back : upd (upd H f (.frz od (.dK (filesKv ls)))) f (.dK (filesKv ls)) = H := by rw [lock_back, upd_self hf]
  walk_at "st"
  refine c_keysAt upd_same ?_
  refine forQ (itn_ks (ls := ls)) (fun i σ H' => ∃ v, σ = [some (.ref f), some (.str z), v] ∧ H' = upd H f (.frz od (.dK (filesKv ls))) ∧ ((pathsOf (ls.map Prod.snd)).take i).any (fun y => isInsideS y z) = false) ⟨_, rfl, rfl, rfl⟩ (by rintro i σ H' ⟨_, _, rfl, _⟩; exact upd_same) ?_ ?_
  · rintro i x σ H' _ hi ⟨v, rfl, rfl, hg⟩ ⟨rfl, l, hl1, rfl⟩
    have ho : (pathsOf (ls.map Prod.snd))[i]? = some l.2.1 := by unfold pathsOf; rw [List.getElem?_map, List.getElem?_map, hl1]; rfl
    have hm := List.mem_of_getElem? ho
    have hlen := hps _ hm
    walk_at "st"
    refine ⟨_, _, rfl, hlen, hz, ?_⟩
    walk_at "st"
    refine c_iteB (fun g2 => ?_) (fun g2 => ?_)
    · walk_at "st"
      refine ⟨upd_same, ?_⟩
      rw [back]
      rw [List.any_eq_true.mpr ⟨_, hm, g2⟩, Bool.or_true] at q
      exact q
    · walk_at "st"
      refine ⟨_, rfl, rfl, ?_⟩
      rw [take_succ' ho, List.any_append, hg, Bool.false_or, List.any_cons, g2]
      rfl
  · rintro σ H' ⟨v, rfl, rfl, hg⟩
    refine ⟨upd_same, ?_⟩
    rw [back]
    walk_at "st"
    rw [List.take_of_length_le (by unfold pathsOf; rw [List.length_map, List.length_map]; exact Nat.le_refl _)] at hg
    rw [hg, Bool.or_false] at q
    exact q
theorem D__law_is_folder (T : TX K mg) : DefAt P w K mg base CX0 "_law_is_folder" 3 ["_law_files_here", "_law_place_here"] (spLFolder K) :=
  def_of T 23 42 sc__law_is_folder bn__law_is_folder (by walk_at "len") (b__law_is_folder T)
def spLNames (K : PySem.W.Frag) : Sp := fun vs H Q _ => ∃ (f : Addr) (z : Str) (fs : List File), vs = [.ref f, .str z] ∧ FilesAt K H f fs ∧ (∀ o ∈ pathsOf fs, o.length ≤ 1000) ∧ fs.length ≤ 60 ∧ z.length ≤ 1000 ∧ ∀ p H', Kp [] H H' → SqT K H' p ((namesF fs z).map V.str) → Q (.ref p) H'
theorem sc__law_names : FnScope ["_law_files_here", "_law_place_here", "_law_names_here", "_law_path_here", "_law_rest", "_law_parts", "_law_name"] ["_law_files_here", "_law_place_here"] (defScope s__law_names) := ⟨rfl, rfl, rfl, by decide +kernel, rfl, by decide +kernel, by decide +kernel⟩
theorem bn__law_names : BindN "_law_names" s__law_names ["_law_files_here", "_law_place_here"] := fun _ _ _ _ _ _ us hl => match us, hl with | [_, _], _ => rfl
theorem b__law_names (T : TX K mg) : Body P w K mg base "_law_names" s__law_names ["_law_files_here", "_law_place_here", "_law_names_here", "_law_path_here", "_law_rest", "_law_parts", "_law_name"] 2 (spLNames K) := by
  intro cdv A outer s H vs Q E h X hr
  obtain ⟨f, z, fs, rfl, F, hps, hn, hz, q⟩ := h
  have D__law_inside := D__law_inside (P := P) (w := w) (base := base) T
  refine ⟨_, (pss_cons (ps_set (i := 2) sc__law_names.nd rfl (Or.inl rfl) (pe_lst pa_nil)) (pss_cons (ps_lock (ps_for PassesOwn.never rfl (pi_keys (pv 0)) (pg_name (i := 3) sc__law_names.nd rfl (Or.inl rfl)) (pss_one (ps_if (pt_tru (K := K) (pe_callA D__law_inside hr pass0 (pa_cons (pv 3) (pa_cons (pv 1) pa_nil)))) (pss_cons (ps_set (i := 4) sc__law_names.nd rfl (Or.inl rfl) (pv 3)) (Evl.pss_cut (ps_if (pt_cmpR (op_neU (K := K) hr.units) (pv 1) pe_str (nomark _)) (pss_one (ps_set (i := 4) sc__law_names.nd rfl (Or.inl rfl) (pe_slice (sl_U (K := K)) (pv 3) (po_some (pe_op (op_addU (K := K)) (pe_callB (cr_len (K := K)) rfl (T.free 2) PySem.boot_len (pa_cons (pv 1) pa_nil)) pe_int)) po_none))) pss_nil) (pss_cons (ps_set (i := 5) sc__law_names.nd rfl (Or.inl rfl) (pe_splitU (pv 4) pe_str)) (pss_cons (ps_set (i := 6) sc__law_names.nd rfl (Or.inl rfl) (pe_ix (ix_U (K := K)) (pv 5) pe_int (fun _ _ => rfl))) (Evl.pss_cut (ps_if (pt_cmpR op_gtU (pe_callB (cr_len (K := K)) rfl (T.free 2) PySem.boot_len (pa_cons (pv 5) pa_nil)) pe_int (nomark _)) (pss_one (ps_set (i := 6) sc__law_names.nd rfl (Or.inl rfl) (pe_op (op_addU (K := K)) (pv 6) pe_str))) pss_nil) (pss_one (ps_if (pt_cmpR (op_notInU (K := K)) (pv 6) (pv 2) rfl) (pss_one (ps_expr (pe_appendU (K := K) (pv 2) (pv 6)))) pss_nil))))))) pss_nil)))) (pss_one (ps_ret (pe_callTy (cr_tuple (K := K)) rfl (T.free 37) (by decide +kernel) (pa_cons (pe_callB cr_sortedS rfl (T.free 43) (by decide +kernel) (pa_cons (pv 2) pa_nil)) pa_nil)))))), ?_⟩
  walk_at "st"
  walk_at "nw"
  intro l H1 N1
  have F1 := F.kp N1.kp
  obtain ⟨ls, hf, hl, rfl⟩ := F1.ex
  have hn2 : ls.length ≤ 60 := by rw [List.length_map] at hn; exact hn
  walk_at "st"
  refine c_lockF hf fun od => ?_
  have nfl : f ≠ l := fun e => by rw [e, N1.at_] at hf; cases hf
  have hlL : upd H1 f (.frz od (.dK (filesKv ls))) l = some (.lst []) := upd_other (Ne.symm nfl) N1.at_
  walk_at "st"
  refine c_keysAt upd_same ?_
  have e1 : (PySem.Str.ofString "/").length = 1 := by decide
  refine forQ (itn_ks (ls := ls)) (fun i σ H' => ∃ v3 v4 v5 v6, σ = [some (.ref f), some (.str z), some (.ref l), v3, v4, v5, v6] ∧ Kp [l] (upd H1 f (.frz od (.dK (filesKv ls)))) H' ∧
    H' l = some (.lst ((ded ((((pathsOf (ls.map Prod.snd)).take i).filter fun y => isInsideS y z).map (firstN z))).map V.str))) ⟨_, _, _, _, rfl, Kp.refl, hlL⟩ (by rintro i σ H' ⟨_, _, _, _, _, e, _⟩; exact e.at1 nfl upd_same) ?_ ?_
  · rintro i x σ _ H' hi ⟨v3, v4, v5, v6, rfl, e, hacc⟩ ⟨rfl, r, hl1, rfl⟩
    have ho : (pathsOf (ls.map Prod.snd))[i]? = some r.2.1 := by unfold pathsOf; rw [List.getElem?_map, List.getElem?_map, hl1]; rfl
    have hm := List.mem_of_getElem? ho
    have hlen := hps _ hm
    have et : ((pathsOf (ls.map Prod.snd)).take (i + 1)).filter (fun y => isInsideS y z) = ((pathsOf (ls.map Prod.snd)).take i).filter (fun y => isInsideS y z) ++ if isInsideS r.2.1 z then [r.2.1] else [] := by
      rw [take_succ' ho, List.filter_append]
      congr 1
      by_cases h : isInsideS r.2.1 z = true <;> simp [h]
    have dl : (ded ((((pathsOf (ls.map Prod.snd)).take i).filter fun y => isInsideS y z).map (firstN z))).length ≤ 60 := by
      have h1 := ded_le ((((pathsOf (ls.map Prod.snd)).take i).filter fun y => isInsideS y z).map (firstN z))
      have h2 := List.length_filter_le (fun y => isInsideS y z) ((pathsOf (ls.map Prod.snd)).take i)
      rw [List.length_map] at h1
      rw [List.length_take] at h2
      omega
    walk_at "st"
    refine ⟨_, _, rfl, hlen, hz, ?_⟩
    walk_at "st"
    refine c_iteB (fun g => ?_) (fun g => ?_)
    · walk_at "st"
      have cl := cutS_len r.2.1 (some (startN z)) none
      refine c_cut (fun σ' H'' => σ' = [some (.ref f), some (.str z), some (.ref l), some (.str r.2.1), some (.str (cutS r.2.1 (some (startN z)) none)), v5, v6] ∧ H' = H'') ?_ ?_
      · walk_at "st"
        refine c_iteN (fun g1 => ?_) (fun g1 => ?_)
        · walk_at "st"
          refine c_slS (by rw [sizeLine_eq]; omega) ?_
          walk_at "st"
          refine ⟨?_, rfl⟩
          unfold startN
          rw [decide_eq_false g1]
          rfl
        · walk_at "st"
          refine ⟨?_, rfl⟩
          unfold startN
          rw [decide_eq_true g1, if_pos rfl, cut_zero]
          rfl
      rintro _ _ ⟨rfl, rfl⟩
      walk_at "st"
      refine c_split (by decide) (by rw [sizeLine_eq]; omega) fun p2 H2 N2 => ?_
      walk_at "st"
      obtain ⟨a0, t0, es, al, ef⟩ := split_first (cutS r.2.1 (some (startN z)) none)
      have N2' := N2
      rw [es] at N2'
      refine c_ixL (v := .str a0) (SqL.of N2'.at_) (atI_nat (j := 0) rfl) ?_
      walk_at "st"
      have k2 : Kp [l] (upd H1 f (.frz od (.dK (filesKv ls)))) H2 := e.trans N2.kp
      have hacc2 := N2.keep hacc
      refine c_cut (fun σ' H'' => σ' = [some (.ref f), some (.str z), some (.ref l), some (.str r.2.1), some (.str (cutS r.2.1 (some (startN z)) none)), some (.ref p2), some (.str (firstN z r.2.1))] ∧ H2 = H'') ?_ ?_
      · walk_at "st"
        rw [List.length_map]
        have ef2 : firstN z r.2.1 = (if decide ((1 : Int) < ((a0 :: t0).length : Int)) = true then a0 ++ PySem.Str.ofString "/" else a0) := ef.symm
        rw [ef2]
        refine c_ite (fun g1 => ?_) (fun g1 => ?_)
        · walk_at "st"
          refine c_addS (by rw [sizeLine_eq]; omega) ?_
          walk_at "st"
          exact ⟨by rw [decide_eq_true g1]; rfl, rfl⟩
        · walk_at "st"
          exact ⟨by rw [decide_eq_false g1]; rfl, rfl⟩
      rintro _ _ ⟨rfl, rfl⟩
      walk_at "st"
      refine c_notInSs (.inl (SqL.of hacc2)) ?_
      walk_at "st"
      refine c_iteN (fun g1 => ?_) (fun g1 => ?_)
      · walk_at "st"
        refine ⟨_, _, _, _, rfl, k2.trans (Kp.mut (by simp)), ?_⟩
        rw [upd_same, et, if_pos g, List.map_append]
        show _ = some (HO.lst ((ded (_ ++ [firstN z r.2.1])).map V.str))
        rw [ded_snoc, if_neg g1, List.map_append]
        rfl
      · walk_at "st"
        refine ⟨_, _, _, _, rfl, k2, ?_⟩
        rw [et, if_pos g, List.map_append]
        show _ = some (HO.lst ((ded (_ ++ [firstN z r.2.1])).map V.str))
        rw [ded_snoc, if_pos g1]
        exact hacc2
    · walk_at "st"
      refine ⟨_, _, _, _, rfl, e, ?_⟩
      rw [et, g]
      simpa using hacc
  · rintro σ H' ⟨v3, v4, v5, v6, rfl, e, hacc⟩
    rw [List.take_of_length_le (by unfold pathsOf; rw [List.length_map, List.length_map]; exact Nat.le_refl _)] at hacc
    refine ⟨e.at1 nfl upd_same, ?_⟩
    have k1 : Kp [l] H1 (upd H' f (.dK (filesKv ls))) := lock_kpm hf nfl e
    have k0 : Kp [] H (upd H' f (.dK (filesKv ls))) := Kp.drop_fresh ((N1.kp (ms := [l])).trans k1) N1.fr
    have dl : (ded (((pathsOf (ls.map Prod.snd)).filter fun y => isInsideS y z).map (firstN z))).length ≤ 60 := by
      have h1 := ded_le (((pathsOf (ls.map Prod.snd)).filter fun y => isInsideS y z).map (firstN z))
      have h2 := List.length_filter_le (fun y => isInsideS y z) (pathsOf (ls.map Prod.snd))
      unfold pathsOf at h1 h2 ⊢
      rw [List.length_map] at h1
      rw [List.length_map, List.length_map] at h2
      omega
    walk_at "st"
    refine c_sortedS (SqL.of (upd_other (Ne.symm nfl) hacc)) (by omega) fun p4 H4 N4 => ?_
    walk_at "st"
    refine c_tupleL (SqL.of N4.at_) fun p5 H5 N5 => ?_
    exact q p5 H5 ((k0.trans N4.kp).trans N5.kp) (SqT.of N5.at_)
theorem D__law_names (T : TX K mg) : DefAt P w K mg base CX0 "_law_names" 3 ["_law_files_here", "_law_place_here"] (spLNames K) :=
  def_of T 24 44 sc__law_names bn__law_names (by walk_at "len") (b__law_names T)
end
end K61



namespace K61
open PySem L2 Sa
theorem c_dgetR {K : PySem.W.Frag} {H : Hp} {d : Addr} {fs : List File} {p : Str} {ls : List Str} {Q : VK} (h : FilesR K H d fs) (g : at? fs p = some ls) (q : ∀ a, SqT K H a (ls.map V.str) → Q (.ref a) H) : DGetK (.ref d) (.str p) H Q := c_dgetF h g q
local macro_rules | `(tactic| walk_at "s1") => `(tactic| first | (with_reducible apply c_dgetK))
local macro_rules | `(tactic| walk_at "s1") => `(tactic| (with_reducible apply c_raiseO))
theorem TreeG.kb {K : PySem.W.Frag} {H H' : Hp} {t b d : Addr} {fs : List File} (h : TreeG K H t fs) (B : Bx H b d) (e : Kp [b] H H') : TreeG K H' t fs := by
  obtain ⟨⟨dx, dd, ls, h1, h2, h3, h4, h5⟩, g⟩ := h
  obtain ⟨_, _, hb, _⟩ := B.ex
  have n1 : t ≠ b := fun z => by rw [z, hb] at h1; cases h1
  have n2 : dd ≠ b := fun z => by rw [z, hb] at h2; cases h2
  exact ⟨⟨dx, dd, ls, e.at1 n1 h1, e.at1 n2 h2, fun l hl => SqT.kt (B.kt e) (h3 l hl), h4, h5⟩, g⟩
theorem at_sort {fs : List File} (G : GoodP fs) (p : Str) : at? (sortF fs) p = at? fs p := at_perm G.sort.once (sortF_perm fs) p
theorem c_intB {b : Bool} {H : Hp} {Q : VK} (q : Q (.int (if b then 1 else 0)) H) : rIntU [.bl b] H Q := .inr ⟨b, rfl, q⟩
section
variable {P : Program} {w : World} {K : PySem.W.Frag} {mg : Str → Option Value} {base : Heap}
def spLFound (K : PySem.W.Frag) : Sp := fun vs H Q _ => ∃ (f : Addr) (z wd : Str) (fs : List File), vs = [.ref f, .str z, .str wd] ∧ FilesAt K H f fs ∧ GoodP fs ∧ z.length ≤ 1000 ∧ ∀ p H', Kp [] H H' → Dt K H' (.ref p) (.tuple (foundF (sortF fs) z wd)) → Q (.ref p) H'
theorem sc__law_found : FnScope ["_law_files_here", "_law_place_here", "_law_word", "_law_rows_here", "_law_path_here", "_law_k"] ["_law_files_here", "_law_place_here", "_law_word"] (defScope s__law_found) := ⟨rfl, rfl, rfl, by decide +kernel, rfl, by decide +kernel, by decide +kernel⟩
theorem bn__law_found : BindN "_law_found" s__law_found ["_law_files_here", "_law_place_here", "_law_word"] := fun _ _ _ _ _ _ us hl => match us, hl with | [_, _, _], _ => rfl
theorem b__law_found (T : TX K mg) : Body P w K mg base "_law_found" s__law_found ["_law_files_here", "_law_place_here", "_law_word", "_law_rows_here", "_law_path_here", "_law_k"] 2 (spLFound K) := by
  intro cdv A outer s H vs Q E h X hr
  obtain ⟨f, z, wd, fs, rfl, F, G, hz, q⟩ := h
  have D__law_inside := D__law_inside (P := P) (w := w) (base := base) T
  refine ⟨_, (pss_cons (ps_set (i := 3) sc__law_found.nd rfl (Or.inl rfl) (pe_lst pa_nil)) (pss_cons (ps_for PassesOwn.never rfl (pi_listU (K := K) (pe_callB (cr_sortedDU rfl) rfl (T.free 43) (by decide +kernel) (pa_cons (pv 0) pa_nil))) (pg_name (i := 4) sc__law_found.nd rfl (Or.inl rfl)) (pss_one (ps_if (PW.pt (pw_or (pt_cmpR (op_eqU (K := K) hr.units) (pv 4) (pv 1) (nomark _)) (pw_or1 (pt_tru (K := K) (pe_callA D__law_inside hr pass0 (pa_cons (pv 4) (pa_cons (pv 1) pa_nil))))))) (pss_one (ps_for PassesOwn.never rfl (pi_range1 rfl (T.free 31) (pa_cons (pe_callB (cr_len (K := K)) rfl (T.free 2) PySem.boot_len (pa_cons (pe_dget (hu_of hr) (pv 0) (pv 4) (fun _ _ => rfl)) pa_nil)) pa_nil)) (pg_name (i := 5) sc__law_found.nd rfl (Or.inl rfl)) (pss_one (ps_if (pt_cmpR (op_inU (K := K)) (pv 2) (pe_ix (ix_U (K := K)) (pe_dget (hu_of hr) (pv 0) (pv 4) (fun _ _ => rfl)) (pv 5) (fun _ _ => rfl)) rfl) (pss_one (ps_expr (pe_appendU (K := K) (pv 3) (pe_tup (pa_cons (pv 4) (pa_cons (pv 5) pa_nil)))))) pss_nil)))) pss_nil))) (pss_one (ps_ret (pe_callTy (cr_tuple (K := K)) rfl (T.free 37) (by decide +kernel) (pa_cons (pv 3) pa_nil)))))), ?_⟩
  have gl := G.len
  have ef : foundF (sortF fs) z wd = ((pathsOf (sortF fs)).filter fun p => decide (p = z) || isInsideS p z).flatMap fun p => rowsD p ((at? fs p).getD []) wd := by
    unfold foundF
    rw [foundPs_eq G.sort (sortF_asc fs)]
    congr 1
    funext p
    rw [at_sort G]
  rw [ef] at q
  walk_at "st"
  walk_at "nw"
  intro l H1 N1
  walk_at "st"
  have F1 := F.kp N1.kp
  refine c_sortedF F1.r (by omega) fun sp H2 N2 => ?_
  walk_at "st"
  have hps : ∀ y ∈ pathsOf (sortF fs), isPathS y = true ∧ ∃ ls, at? fs y = some ls := fun y hy => by
    have hy2 : y ∈ pathsOf fs := (paths_perm (sortF_perm fs)).subset hy
    obtain ⟨r, hr, rfl⟩ := List.mem_map.mp hy
    exact ⟨G.sort.path r hr, Option.isSome_iff_exists.mp (at_isSome.mpr hy2)⟩
  have hsp : SqL K H2 sp ((pathsOf (sortF fs)).map V.str) := SqL.of N2.at_
  have nl : sp ≠ l := (ne_of_none N1.at_ N2.fr).symm
  have pn : (pathsOf (sortF fs)).length ≤ 20 := by unfold pathsOf; rw [List.length_map, sortF_len]; omega
  refine forQ (itn_l (ys := pathsOf (sortF fs)) (u := V.str)) (fun i σ H' => ∃ v4 v5 ws, σ = [some (.ref f), some (.str z), some (.str wd), some (.ref l), v4, v5] ∧ Kp [] H H' ∧ SqL K H' sp ((pathsOf (sortF fs)).map V.str) ∧
    H' l = some (.lst ws) ∧ DtAll K H' ws ((((pathsOf (sortF fs)).take i).filter fun p => decide (p = z) || isInsideS p z).flatMap fun p => rowsD p ((at? fs p).getD []) wd) ∧ ws.length ≤ 12 * i) ⟨_, _, [], rfl, N1.kp.trans N2.kp, hsp, N2.keep N1.at_, .nil, by simp⟩ (by rintro i σ H' ⟨_, _, _, _, _, h, _⟩; exact h) ?_ ?_
  · rintro i x σ _ H3 hi ⟨v4, v5, ws, rfl, e3, hsp3, hl3, hws, hwl⟩ ⟨rfl, p, hp, rfl⟩
    obtain ⟨hpp, lns, hlns⟩ := hps p (List.mem_of_getElem? hp)
    have plen := path_len hpp
    have lls : lns.length ≤ 12 := (lines_len (G.lines _ (at_mem hlns))).1
    have et : ((pathsOf (sortF fs)).take (i + 1)).filter (fun p => decide (p = z) || isInsideS p z) = ((pathsOf (sortF fs)).take i).filter (fun p => decide (p = z) || isInsideS p z) ++ if (decide (p = z) || isInsideS p z) = true then [p] else [] := by
      rw [take_succ' hp, List.filter_append]
      congr 1
      by_cases h : (decide (p = z) || isInsideS p z) = true
      · rw [if_pos h]; exact List.filter_eq_self.mpr (fun a ha => by rw [List.mem_singleton.mp ha]; exact h)
      · rw [if_neg h]; exact List.filter_eq_nil_iff.mpr (fun a ha => by rw [List.mem_singleton.mp ha]; exact h)
    have skip : (decide (p = z) || isInsideS p z) = false → ∃ u4 u5 ws, ([some (.ref f), some (.str z), some (.str wd), some (.ref l), some (.str p), v5] : St) = [some (.ref f), some (.str z), some (.str wd), some (.ref l), u4, u5] ∧ Kp [] H H3 ∧ SqL K H3 sp ((pathsOf (sortF fs)).map V.str) ∧
        H3 l = some (.lst ws) ∧ DtAll K H3 ws ((((pathsOf (sortF fs)).take (i + 1)).filter fun p => decide (p = z) || isInsideS p z).flatMap fun p => rowsD p ((at? fs p).getD []) wd) ∧ ws.length ≤ 12 * (i + 1) := fun h => by
      refine ⟨_, _, ws, rfl, e3, hsp3, hl3, ?_, by omega⟩
      rw [et, h, if_neg Bool.false_ne_true, List.append_nil]
      exact hws
    walk_at "st"
    refine c_ite (fun g => ?_) (fun g => ?_)
    rotate_left
    · walk_at "st"
      refine ⟨_, _, rfl, by omega, hz, ?_⟩
      walk_at "st"
      refine c_iteB (fun g1 => ?_) (fun g1 => ?_)
      rotate_left
      · walk_at "st"
        exact skip (by rw [decide_eq_false g, g1]; rfl)
      have hP : (decide (p = z) || isInsideS p z) = true := by rw [g1, Bool.or_true]
      walk_at "st"
      refine c_dgetR (F.kp e3).r hlns fun la hla => ?_
      walk_at "st"
      rw [List.length_map]
      refine c_r1F (by omega) ?_
      refine forR (fun j σ H' => ∃ v5 ws2, σ = [some (.ref f), some (.str z), some (.str wd), some (.ref l), some (.str p), v5] ∧ Kp [] H H' ∧ SqL K H' sp ((pathsOf (sortF fs)).map V.str) ∧ H' l = some (.lst (ws ++ ws2)) ∧ DtAll K H' ws ((((pathsOf (sortF fs)).take i).filter fun p => decide (p = z) || isInsideS p z).flatMap fun p => rowsD p ((at? fs p).getD []) wd) ∧
        DtAll K H' ws2 (((List.range j).filter fun i => occS (lns.getD i Str.empty) wd).map fun i => .tuple [.str p, .int (i : Nat)]) ∧ ws2.length ≤ j) ⟨_, [], rfl, e3, hsp3, by rw [List.append_nil]; exact hl3, hws, .nil, by simp⟩ ?_ ?_
      · rintro j σ H4 hj ⟨v5, ws2, rfl, e4, hsp4, hl4, hw1, hw2, hwl2⟩
        have hj : j < lns.length := by have : ((lns.length : Int)).toNat = lns.length := Int.toNat_natCast _; omega
        walk_at "st"
        rw [Int.zero_add]
        refine c_dgetR (F.kp e4).r hlns fun lb hlb => ?_
        walk_at "st"
        refine c_ixT hlb (atI_strs (by omega) (by omega)) ?_
        rw [Int.toNat_natCast]
        walk_at "st"
        refine c_inT ?_
        walk_at "st"
        refine c_iteB (fun g2 => ?_) (fun g2 => ?_)
        · walk_at "st"
          walk_at "nw"
          intro T5 H5 N5
          have hl5 := N5.keep hl4
          refine ⟨l, _, _, rfl, rfl, hl5, by rw [sizeLine_eq, List.length_append]; omega, ?_⟩
          walk_at "st"
          have kt : Kt H5 (upd H5 l (.lst (ws ++ ws2 ++ [V.ref T5]))) := Kt.upd1 (NoT.lst hl5)
          refine ⟨_, ws2 ++ [V.ref T5], rfl, (e4.trans N5.kp).fresh_mut N1.fr, SqL.other nl (SqL.kp N5.kp hsp4), by rw [upd_same, List.append_assoc], DtAll.kt (N5.kp.kt.trans kt) hw1, ?_, by rw [List.length_append, List.length_singleton]; omega⟩
          rw [range_filter_succ, if_pos g2, List.map_append]
          exact dta_snoc (DtAll.kt (N5.kp.kt.trans kt) hw2) (.tup (SqT.kt kt (SqT.of N5.at_)) (.cons (.str p) (.cons (.int _) .nil)))
        · walk_at "st"
          refine ⟨_, ws2, rfl, e4, hsp4, hl4, hw1, ?_, by omega⟩
          rw [range_filter_succ, g2, if_neg Bool.false_ne_true, List.append_nil]
          exact hw2
      · rintro σ H4 ⟨v5, ws2, rfl, e4, hsp4, hl4, hw1, hw2, hwl2⟩
        rw [Int.toNat_natCast] at hw2 hwl2
        walk_at "st"
        refine ⟨_, _, ws ++ ws2, rfl, e4, hsp4, hl4, ?_, by rw [List.length_append]; omega⟩
        rw [et, if_pos hP, List.flatMap_append]
        refine dta_app hw1 ?_
        show DtAll _ _ _ (rowsD p ((at? fs p).getD []) wd ++ [])
        rw [hlns, List.append_nil]
        exact hw2
    have hP : (decide (p = z) || isInsideS p z) = true := by rw [decide_eq_true g]; rfl
    walk_at "st"
    refine c_dgetR (F.kp e3).r hlns fun la hla => ?_
    walk_at "st"
    rw [List.length_map]
    refine c_r1F (by omega) ?_
    refine forR (fun j σ H' => ∃ v5 ws2, σ = [some (.ref f), some (.str z), some (.str wd), some (.ref l), some (.str p), v5] ∧ Kp [] H H' ∧ SqL K H' sp ((pathsOf (sortF fs)).map V.str) ∧ H' l = some (.lst (ws ++ ws2)) ∧ DtAll K H' ws ((((pathsOf (sortF fs)).take i).filter fun p => decide (p = z) || isInsideS p z).flatMap fun p => rowsD p ((at? fs p).getD []) wd) ∧
      DtAll K H' ws2 (((List.range j).filter fun i => occS (lns.getD i Str.empty) wd).map fun i => .tuple [.str p, .int (i : Nat)]) ∧ ws2.length ≤ j) ⟨_, [], rfl, e3, hsp3, by rw [List.append_nil]; exact hl3, hws, .nil, by simp⟩ ?_ ?_
    · rintro j σ H4 hj ⟨v5, ws2, rfl, e4, hsp4, hl4, hw1, hw2, hwl2⟩
      have hj : j < lns.length := by have : ((lns.length : Int)).toNat = lns.length := Int.toNat_natCast _; omega
      walk_at "st"
      rw [Int.zero_add]
      refine c_dgetR (F.kp e4).r hlns fun lb hlb => ?_
      walk_at "st"
      refine c_ixT hlb (atI_strs (by omega) (by omega)) ?_
      rw [Int.toNat_natCast]
      walk_at "st"
      refine c_inT ?_
      walk_at "st"
      refine c_iteB (fun g2 => ?_) (fun g2 => ?_)
      · walk_at "st"
        walk_at "nw"
        intro T5 H5 N5
        have hl5 := N5.keep hl4
        refine ⟨l, _, _, rfl, rfl, hl5, by rw [sizeLine_eq, List.length_append]; omega, ?_⟩
        walk_at "st"
        have kt : Kt H5 (upd H5 l (.lst (ws ++ ws2 ++ [V.ref T5]))) := Kt.upd1 (NoT.lst hl5)
        refine ⟨_, ws2 ++ [V.ref T5], rfl, (e4.trans N5.kp).fresh_mut N1.fr, SqL.other nl (SqL.kp N5.kp hsp4), by rw [upd_same, List.append_assoc], DtAll.kt (N5.kp.kt.trans kt) hw1, ?_, by rw [List.length_append, List.length_singleton]; omega⟩
        rw [range_filter_succ, if_pos g2, List.map_append]
        exact dta_snoc (DtAll.kt (N5.kp.kt.trans kt) hw2) (.tup (SqT.kt kt (SqT.of N5.at_)) (.cons (.str p) (.cons (.int _) .nil)))
      · walk_at "st"
        refine ⟨_, ws2, rfl, e4, hsp4, hl4, hw1, ?_, by omega⟩
        rw [range_filter_succ, g2, if_neg Bool.false_ne_true, List.append_nil]
        exact hw2
    · rintro σ H4 ⟨v5, ws2, rfl, e4, hsp4, hl4, hw1, hw2, hwl2⟩
      rw [Int.toNat_natCast] at hw2 hwl2
      walk_at "st"
      refine ⟨_, _, ws ++ ws2, rfl, e4, hsp4, hl4, ?_, by rw [List.length_append]; omega⟩
      rw [et, if_pos hP, List.flatMap_append]
      refine dta_app hw1 ?_
      show DtAll _ _ _ (rowsD p ((at? fs p).getD []) wd ++ [])
      rw [hlns, List.append_nil]
      exact hw2
  · rintro σ H3 ⟨v4, v5, ws, rfl, e3, hsp3, hl3, hws, hwl⟩
    rw [List.take_length] at hws
    walk_at "st"
    refine c_tupleL (SqL.of hl3) fun p5 H5 N5 => ?_
    exact q p5 H5 (e3.trans N5.kp) (.tup (SqT.of N5.at_) (DtAll.kp hws N5.kp))
theorem D__law_found (T : TX K mg) : DefAt P w K mg base CX0 "_law_found" 3 ["_law_files_here", "_law_place_here", "_law_word"] (spLFound K) :=
  def_of T 25 45 sc__law_found bn__law_found (by walk_at "len") (b__law_found T)
def spLAsked (K : PySem.W.Frag) : Sp := fun vs H Q _ => ∃ (f a : Addr) (x : Action) (fs : List File), vs = [.ref f, .ref a] ∧ FilesAt K H f fs ∧ GoodP fs ∧ ActAt K H a x ∧ x.isQ = true ∧ x.sane ∧ ∀ v H', Kp [] H H' → Dt K H' v (askF (sortF fs) x) → Q v H'
theorem sc__law_asked : FnScope ["_law_files_here", "_law_action_here", "_law_place_here", "_law_path_here"] ["_law_files_here", "_law_action_here"] (defScope s__law_asked) := ⟨rfl, rfl, rfl, by decide +kernel, rfl, by decide +kernel, by decide +kernel⟩
theorem bn__law_asked : BindN "_law_asked" s__law_asked ["_law_files_here", "_law_action_here"] := fun _ _ _ _ _ _ us hl => match us, hl with | [_, _], _ => rfl
theorem b__law_asked (T : TX K mg) : Body P w K mg base "_law_asked" s__law_asked ["_law_files_here", "_law_action_here", "_law_place_here", "_law_path_here"] 3 (spLAsked K) := by
  intro cdv A outer s H vs Q E h X hr
  obtain ⟨f, a, x, fs, rfl, F, G, ha, hq, hs, q⟩ := h
  have D__law_found := D__law_found (P := P) (w := w) (base := base) T; have D__law_inside := D__law_inside (P := P) (w := w) (base := base) T; have D__law_is_folder := D__law_is_folder (P := P) (w := w) (base := base) T; have D__law_names := D__law_names (P := P) (w := w) (base := base) T
  refine ⟨_, (pss_cons (ps_set (i := 2) sc__law_asked.nd rfl (Or.inr rfl) (pe_ix (ix_U (K := K)) (pv 1) pe_int (fun _ _ => rfl))) (pss_cons (ps_if (pt_cmpR (op_eqU (K := K) hr.units) (pe_ix (ix_U (K := K)) (pv 1) pe_int (fun _ _ => rfl)) pe_str (nomark _)) (pss_cons (ps_if (pt_cmp (pc_din (hu_of hr) (pv 2) (pv 0)) rfl) (pss_one (ps_ret (pe_tup (pa_cons pe_str (pa_cons (pe_dget (hu_of hr) (pv 0) (pv 2) (fun _ _ => rfl)) pa_nil))))) pss_nil) (pss_one (ps_ret (pe_tup (pa_cons pe_str pa_nil))))) pss_nil) (pss_cons (ps_if (pt_cmpR (op_eqU (K := K) hr.units) (pe_ix (ix_U (K := K)) (pv 1) pe_int (fun _ _ => rfl)) pe_str (nomark _)) (pss_cons (ps_if (pt_cmp (pc_din (hu_of hr) (pv 2) (pv 0)) rfl) (pss_one (ps_ret (pe_tup (pa_cons pe_str pa_nil)))) pss_nil) (pss_one (ps_ret (pe_ix (ix_U (K := K)) (pe_lst (pa_cons (pe_tup (pa_cons pe_str pa_nil)) (pa_cons (pe_tup (pa_cons pe_str pa_nil)) pa_nil))) (pe_callTy cr_int rfl (T.free 32) (by decide +kernel) (pa_cons (pe_callA D__law_is_folder hr pass0 (pa_cons (pv 0) (pa_cons (pv 2) pa_nil))) pa_nil)) (fun _ _ => rfl))))) pss_nil) (pss_cons (ps_if (pt_cmpR (op_eqU (K := K) hr.units) (pe_ix (ix_U (K := K)) (pv 1) pe_int (fun _ _ => rfl)) pe_str (nomark _)) (pss_cons (ps_if (PW.pt (pw_or (pt_cmp (pc_din (hu_of hr) (pv 2) (pv 0)) rfl) (pw_or1 (pt_tru (K := K) (pe_callA D__law_is_folder hr pass0 (pa_cons (pv 0) (pa_cons (pv 2) pa_nil))))))) (pss_one (ps_ret (pe_tup (pa_cons pe_str (pa_cons (pe_callA D__law_found hr pass0 (pa_cons (pv 0) (pa_cons (pv 2) (pa_cons (pe_ix (ix_U (K := K)) (pv 1) pe_int (fun _ _ => rfl)) pa_nil)))) pa_nil))))) pss_nil) (pss_one (ps_ret (pe_tup (pa_cons pe_str pa_nil))))) pss_nil) (pss_cons (ps_if (pt_not (pt_tru (K := K) (pe_callA D__law_is_folder hr pass0 (pa_cons (pv 0) (pa_cons (pv 2) pa_nil))))) (pss_one (ps_ret (pe_tup (pa_cons pe_str pa_nil)))) pss_nil) (pss_cons (ps_if (pt_cmpR (op_eqU (K := K) hr.units) (pe_ix (ix_U (K := K)) (pv 1) pe_int (fun _ _ => rfl)) pe_str (nomark _)) (pss_one (ps_ret (pe_tup (pa_cons pe_str (pa_cons (pe_callA D__law_names hr pass0 (pa_cons (pv 0) (pa_cons (pv 2) pa_nil))) pa_nil))))) pss_nil) (pss_one (ps_ret (pe_tup (pa_cons pe_str (pa_cons (pe_callB (cr_len (K := K)) rfl (T.free 2) PySem.boot_len (pa_cons (pe_lock (pe_lc (own := [("_law_path_here", 3)]) rfl sc__law_asked.nd (pi_keys (pv 0)) (blkOk_by (N := ["_law_files_here", "_law_action_here", "_law_place_here", "_law_path_here"]) (sc := defScope s__law_asked) (by decide +kernel)) (fun _ _ _ _ _ => (pg_name (i := 3) sc__law_asked.nd rfl (Or.inl rfl))) (fun _ _ _ _ _ => (pts_one (pt_tru (K := K) (pe_callA D__law_inside hr pass0 (pa_cons (pv 3) (pa_cons (pv 2) pa_nil)))))) (fun _ _ _ _ _ => (pv 3)))) pa_nil)) pa_nil))))))))))), ?_⟩
  have gl := G.len
  have hps : ∀ o ∈ pathsOf fs, o.length ≤ 1000 := fun o ho => by
    obtain ⟨r, hr, rfl⟩ := List.mem_map.mp ho
    have := path_len (G.path r hr)
    omega
  have word1 : ∀ {H1 : Hp} {p : Addr} {H2 : Hp} {z : Str}, Kp [] H H1 → New H1 p (.tup [.str z]) H2 → askF (sortF fs) x = wordD z → Q (.ref p) H2 := fun e N h => q _ _ (e.trans N.kp) (by rw [h]; exact .tup (SqT.of N.at_) (.cons (.str _) .nil))
  have efol : ∀ z, isFolderF (sortF fs) z = isFolderF fs z := fun z => folder_perm (sortF_perm fs) z
  have fold : ∀ {H1 : Hp} {z : Str} {Q1 : VK}, Kp [] H H1 → z.length ≤ 1000 → Q1 (.bl (isFolderF (sortF fs) z)) H1 → spLFolder K [.ref f, .str z] H1 Q1 E0 := fun e hz h => ⟨f, _, fs, rfl, F.kp e, hps, hz, by rw [← efol]; exact h⟩
  cases x with
  | read p =>
    walk_at "dc"
    refine c_dinF F.r ?_
    walk_at "st"
    refine c_iteB (fun g => ?_) (fun g => ?_)
    · obtain ⟨ls, g⟩ := Option.isSome_iff_exists.mp g
      walk_at "st"
      refine c_dgetR F.r g fun la hla => ?_
      walk_at "st"
      walk_at "nw"
      intro p1 H1 N1
      refine q _ H1 N1.kp ?_
      simp only [askF, at_sort G, g]
      exact .tup (SqT.of N1.at_) (.cons (.str _) (.cons (dt_strs (SqT.kp N1.kp hla)) .nil))
    · walk_at "st"
      walk_at "nw"
      intro p1 H1 N1
      have g : at? fs p = none := by simpa using g
      exact word1 Kp.refl N1 (by simp only [askF, at_sort G, g])
  | kind z =>
    have hz : z.length ≤ 1000 := hs
    walk_at "dc"
    refine c_dinF F.r ?_
    walk_at "st"
    refine c_iteB (fun g => ?_) (fun g => ?_)
    · walk_at "st"
      walk_at "nw"
      intro p1 H1 N1
      exact word1 Kp.refl N1 (by simp only [askF, at_sort G, g]; rfl)
    · walk_at "st"
      walk_at "nw"
      intro p1 H1 N1
      walk_at "st"
      walk_at "nw"
      intro p2 H2 N2
      walk_at "st"
      walk_at "nw"
      intro p3 H3 N3
      have e3 : Kp [] H H3 := (N1.kp.trans N2.kp).trans N3.kp
      walk_at "st"
      refine fold e3 hz ?_
      walk_at "st"
      refine c_intB ?_
      walk_at "st"
      cases g2 : isFolderF (sortF fs) z with
      | false =>
        refine c_ixL (SqL.of N3.at_) (v := .ref p1) rfl ?_
        refine q _ H3 e3 ?_
        simp only [askF, at_sort G, g, g2]
        exact .tup (SqT.of (N3.keep (N2.keep N1.at_))) (.cons (.str _) .nil)
      | true =>
        refine c_ixL (SqL.of N3.at_) (v := .ref p2) rfl ?_
        refine q _ H3 e3 ?_
        simp only [askF, at_sort G, g, g2]
        exact .tup (SqT.of (N3.keep N2.at_)) (.cons (.str _) .nil)
  | find z wd =>
    have hz : z.length ≤ 1000 := hs.1
    have fin : ∀ {H1 : Hp} {Q1 : VK}, Kp [] H H1 → (∀ p H', Kp [] H H' → Dt K H' (.ref p) (.tuple (foundF (sortF fs) z wd)) → Q1 (.ref p) H') → spLFound K [.ref f, .str z, .str wd] H1 Q1 E0 := fun e h => ⟨f, z, wd, fs, rfl, F.kp e, G, hz, fun p H' e' hd => h p H' (e.trans e') hd⟩
    walk_at "dc"
    refine c_dinF F.r ?_
    walk_at "st"
    refine c_iteB (fun g => ?_) (fun g => ?_)
    · walk_at "st"
      refine fin Kp.refl fun p H1 e1 hd => ?_
      walk_at "st"
      walk_at "nw"
      intro p2 H2 N2
      refine q _ H2 (e1.trans N2.kp) ?_
      simp only [askF, at_sort G, g, Bool.true_or, if_true]
      exact .tup (SqT.of N2.at_) (.cons (.str _) (.cons (Dt.kp hd N2.kp) .nil))
    · walk_at "st"
      refine fold Kp.refl hz ?_
      walk_at "st"
      refine c_iteB (fun g2 => ?_) (fun g2 => ?_)
      · walk_at "st"
        refine fin Kp.refl fun p H1 e1 hd => ?_
        walk_at "st"
        walk_at "nw"
        intro p2 H2 N2
        refine q _ H2 (e1.trans N2.kp) ?_
        simp only [askF, at_sort G, g, g2, Bool.or_true, if_true]
        exact .tup (SqT.of N2.at_) (.cons (.str _) (.cons (Dt.kp hd N2.kp) .nil))
      · walk_at "st"
        walk_at "nw"
        intro p1 H1 N1
        exact word1 Kp.refl N1 (by simp only [askF, at_sort G, g, g2]; rfl)
  | list z =>
    have hz : z.length ≤ 1000 := hs
    walk_at "dc"
    refine fold Kp.refl hz ?_
    walk_at "dc"
    refine c_iteNB (fun g => ?_) (fun g => ?_)
    · walk_at "st"
      walk_at "nw"
      intro p1 H1 N1
      exact word1 Kp.refl N1 (by simp only [askF, g]; rfl)
    · walk_at "dc"
      refine ⟨f, z, fs, rfl, F, hps, by omega, hz, fun p H1 e1 hp => ?_⟩
      walk_at "st"
      walk_at "nw"
      intro p2 H2 N2
      refine q _ H2 (e1.trans N2.kp) ?_
      simp only [askF, g, if_true]
      rw [names_perm (sortF_perm fs)]
      exact .tup (SqT.of N2.at_) (.cons (.str _) (.cons (dt_strs (SqT.kp N2.kp hp)) .nil))
  | count z =>
    have hz : z.length ≤ 1000 := hs
    walk_at "dc"
    refine fold Kp.refl hz ?_
    walk_at "dc"
    refine c_iteNB (fun g => ?_) (fun g => ?_)
    · walk_at "st"
      walk_at "nw"
      intro p1 H1 N1
      exact word1 Kp.refl N1 (by simp only [askF, g]; rfl)
    · walk_at "dc"
      obtain ⟨ls, hf, hl, hfs⟩ := id F.ex
      refine c_lockE hf fun od => ?_
      walk_at "st"
      refine c_keysAtC upd_same ?_
      have hll : ls.length = fs.length := by rw [← hfs, List.length_map]
      have gd : ∀ i l, ls[i]? = some l → (pathsOf fs).getD i Str.empty = l.2.1 ∧ l.2.1 ∈ pathsOf fs := fun i l h => by
        have : (pathsOf fs)[i]? = some l.2.1 := by rw [← hfs]; unfold pathsOf; rw [List.getElem?_map, List.getElem?_map, h]; rfl
        exact ⟨getD_of this, List.mem_of_getElem? this⟩
      refine lcQ_fil (itn_ks (ls := ls)) (fun i => V.str ((pathsOf fs).getD i Str.empty)) (fun i => isInsideS ((pathsOf fs).getD i Str.empty) z) (by omega) (fun H' e => e.at0 upd_same) (fun i x H' H'' R S hi e y k1 k2 => ?_) (fun D H1 hD e hacc => ?_)
      · obtain ⟨rfl, l, hl1, rfl⟩ := y
        obtain ⟨ge, gm⟩ := gd i l hl1
        rw [ge] at k1 k2
        walk_at "st"
        refine ⟨rfl, ?_⟩
        walk_at "st"
        refine ⟨_, _, rfl, hps _ gm, hz, ?_⟩
        walk_at "st"
        refine c_iteB (fun g2 => ?_) (fun g2 => ?_)
        · walk_at "st"
          exact k1 g2 _ Kp.refl
        · exact k2 g2 _ Kp.refl
      · refine ⟨e.at0 upd_same, ?_⟩
        have nd : D ≠ f := fun z => by rw [z, upd_same] at hD; cases hD
        have k0 := lock_kp hf e
        have hacc2 := upd_other (u := HO.dK (filesKv ls)) nd hacc
        walk_at "st"
        walk_at "nw"
        intro p2 H2 N2
        refine q _ H2 (k0.trans N2.kp) ?_
        simp only [askF, g, if_true]
        have el : ((((List.range ls.length).filter fun i => isInsideS ((pathsOf fs).getD i Str.empty) z).map fun i => V.str ((pathsOf fs).getD i Str.empty)).length : Nat) = (insideF (sortF fs) z).length := by
          rw [(inside_perm (sortF_perm fs) z).length_eq, List.length_map]
          unfold insideF
          have e1 : (pathsOf fs) = (List.range ls.length).map fun i => (pathsOf fs).getD i Str.empty := by
            have h1 : ls.length = (pathsOf fs).length := by rw [hll]; unfold pathsOf; rw [List.length_map]
            rw [h1]
            have := range_getD (pathsOf fs) Str.empty id
            simpa using this.symm
          conv => rhs; rw [e1, List.filter_map, List.length_map]
          rfl
        have at2 := N2.at_
        rw [el] at at2
        exact .tup (SqT.of at2) (.cons (.str _) (.cons (.int _) .nil))
  | _ => cases hq
theorem D__law_asked (T : TX K mg) : DefAt P w K mg base CX0 "_law_asked" 4 ["_law_files_here", "_law_action_here"] (spLAsked K) :=
  def_of T 26 46 sc__law_asked bn__law_asked (by walk_at "len") (b__law_asked T)
end
end K61



namespace K61
open PySem L2 Sa
section
variable {P : Program} {w : World} {K : PySem.W.Frag} {mg : Str → Option Value} {base : Heap}
theorem sc__law_alike : FnScope ["_law_one", "_law_two"] ["_law_one", "_law_two"] (defScope s__law_alike) := ⟨rfl, rfl, rfl, by decide +kernel, rfl, by decide +kernel, by decide +kernel⟩
theorem bn__law_alike : BindN "_law_alike" s__law_alike ["_law_one", "_law_two"] := fun _ _ _ _ _ _ us hl => match us, hl with | [_, _], _ => rfl
def spAlike (K : PySem.W.Frag) : Sp := fun vs H Q _ => ∃ (x y : V) (d : PyData), vs = [x, y] ∧ Dp K H x d ∧ Dp K H y d ∧ Nice d ∧ Q (.bl true) H
theorem b__law_alike (T : TX K mg) : BodyG P w K mg base "_law_alike" s__law_alike ["_law_one", "_law_two"] 1 (spAlike K) := by
  intro cdv A outer s H vs Q E h X hr hg
  obtain ⟨x, y, d, rfl, hx, hy, nd, q⟩ := h
  refine ⟨_, (pss_one (ps_ret (pe_cmpR (op_eqU (K := K) hr.units) (pe_callB (cr_reprD (K := K) hg (un100 hr)) rfl (T.free 59) (by decide +kernel) (pa_cons (pv 0) pa_nil)) (pe_callB (cr_reprD (K := K) hg (un100 hr)) rfl (T.free 59) (by decide +kernel) (pa_cons (pv 1) pa_nil)) (nomark _)))), ?_⟩
  walk_at "st"
  refine c_repr hx nd ?_
  walk_at "st"
  refine c_repr hy nd ?_
  walk_at "st"
  rw [decide_eq_true rfl]
  exact q
theorem D__law_alike (T : TX K mg) : DefG P w K mg base "_law_alike" 2 ["_law_one", "_law_two"] (spAlike K) :=
  defG_of T 38 60 sc__law_alike bn__law_alike (fun vs H Q E h => by obtain ⟨b, d, _, rfl, _⟩ := h; rfl) (b__law_alike T)
end
end K61



namespace K61
open PySem L2 Sa
local macro_rules | `(tactic| walk_at "s1") => `(tactic| first | (with_reducible apply c_dgetK))
local macro_rules | `(tactic| walk_at "s1") => `(tactic| (with_reducible apply c_raiseO))
def rLenD : List V → Hp → VK → Prop := fun xs H Q => ∃ (a : Addr) (kvs : List (Key × V)), xs = [.ref a] ∧ Rd H a (.dK kvs) ∧ Q (.int kvs.length) H
theorem cr_lenD {X : Cx} : CallR X (.builtin "len") rLenD := by
  intro pins s σ H vs us Q I r h
  obtain ⟨a, kvs, rfl, e, q⟩ := h
  obtain ⟨u, rfl, ru⟩ := vals1 r
  cases ru
  exact d_len I e fun t s' I' => ⟨.int _, H, I', ⟨t, rfl⟩, q⟩
theorem c_lenF {K : PySem.W.Frag} {H : Hp} {f : Addr} {fs : List File} {Q : VK} (h : FilesR K H f fs) (q : Q (.int fs.length) H) : rLenD [.ref f] H Q := by
  obtain ⟨ls, h1, h2, rfl⟩ := h.ex
  refine ⟨f, _, rfl, h1, ?_⟩
  rw [List.length_map] at q
  unfold filesKv
  rw [List.length_map]
  exact q
/-! ## the plain model, in whatever order the files lie -/
def refuseF (fs : List File) : Action → Str
  | .write p _ => if blockedF fs p then "blocked" else if (at? fs p).isNone && decide (fs.length = 20) then "full" else ""
  | .remove p => if (at? fs p).isNone then "missing" else ""
  | .move p t => (match at? fs p with
    | none => "missing"
    | some _ => if (at? (withoutF fs p) t).isSome || blockedF (withoutF fs p) t then "blocked" else "")
  | .splice p old new => (match at? fs p with
    | none => "missing"
    | some ls => (match placesF ls old with
      | [] => "absent"
      | [_] => if decide ((12 : Int) < (ls.length : Int) - old.length + new.length) then "long" else ""
      | _ => "ambiguous"))
  | _ => ""
def laterF (fs : List File) : Action → List File
  | .write p ls => withF fs p ls
  | .remove p => withoutF fs p
  | .move p t => withF (withoutF fs p) t ((at? fs p).getD [])
  | .splice p old new => withF fs p (splicedL ((at? fs p).getD []) old new ((placesF ((at? fs p).getD []) old).getD 0 0))
  | _ => fs
theorem above_perm {fs gs : List File} (h : fs.Perm gs) (z : Str) : (aboveF fs z).Perm (aboveF gs z) := (paths_perm h).filter _
theorem blocked_perm {fs gs : List File} (h : fs.Perm gs) (z : Str) : blockedF fs z = blockedF gs z := by
  unfold blockedF
  rw [(inside_perm h z).length_eq, (above_perm h z).length_eq]
theorem without_perm {fs gs : List File} (h : fs.Perm gs) (p : Str) : (withoutF fs p).Perm (withoutF gs p) := h.filter _
theorem once_without {fs : List File} (h : Once fs) (p : Str) : Once (withoutF fs p) := List.Nodup.sublist (List.Sublist.map _ List.filter_sublist) h
theorem not_in_without (fs : List File) (p : Str) : p ∉ pathsOf (withoutF fs p) := fun h => by
  obtain ⟨f, hf, rfl⟩ := List.mem_map.mp h
  have := (List.mem_filter.mp hf).2
  simp at this
theorem once_with {fs : List File} (h : Once fs) (p : Str) (ls : List Str) : Once (withF fs p ls) := by
  unfold Once withF
  rw [List.map_append, List.nodup_append]
  refine ⟨once_without h p, by simp, fun a ha b hb => ?_⟩
  simp only [List.map_cons, List.map_nil, List.mem_singleton] at hb
  rw [hb]
  intro e
  rw [e] at ha
  exact not_in_without fs p ha
theorem sort_with {fs : List File} (h : Once fs) (p : Str) (ls : List Str) : sortF (withF (sortF fs) p ls) = sortF (withF fs p ls) :=
  sortF_congr ((without_perm (sortF_perm fs) p).append_right _) (once_with (sortF_once h) p ls)
theorem sort_without {fs : List File} (h : Once fs) (p : Str) : sortF (withoutF (sortF fs) p) = sortF (withoutF fs p) := sortF_congr (without_perm (sortF_perm fs) p) (once_without (sortF_once h) p)
theorem at_perm' {fs gs : List File} (h : Once fs) (p : fs.Perm gs) (z : Str) : at? fs z = at? gs z := at_perm h p z
theorem deed_eq {fs : List File} (G : GoodP fs) {x : Action} (hq : x.isQ = false) : (refuseF fs x = "" → deedF (sortF fs) x = (wordD "done", sortF (laterF fs x))) ∧ (refuseF fs x ≠ "" → deedF (sortF fs) x = (wordD (refuseF fs x), sortF fs)) := by
  have lit : ∀ z : Str, z ∈ (["none", "done", "missing", "blocked", "full", "absent", "ambiguous", "long"] : List Str) → z ≠ ("" : Str) := by decide +kernel
  cases x with
  | write p ls =>
    simp only [deedF, refuseF, laterF, blocked_perm (sortF_perm fs), at_sort G, sortF_len]
    split
    · exact ⟨fun h => absurd h (lit _ (by decide +kernel)), fun _ => rfl⟩
    · split
      · exact ⟨fun h => absurd h (lit _ (by decide +kernel)), fun _ => rfl⟩
      · exact ⟨fun _ => by rw [sort_with G.once], fun h => absurd rfl h⟩
  | remove p =>
    simp only [deedF, refuseF, laterF, at_sort G]
    split
    · exact ⟨fun h => absurd h (lit _ (by decide +kernel)), fun _ => rfl⟩
    · exact ⟨fun _ => by rw [sort_without G.once], fun h => absurd rfl h⟩
  | move p t =>
    simp only [deedF, refuseF, laterF, at_sort G]
    cases q : at? fs p with
    | none => simp only; exact ⟨fun h => absurd h (lit _ (by decide +kernel)), fun _ => by first | rfl | trivial⟩
    | some ls =>
      simp only [sort_without G.once]
      have pm := sortF_perm (withoutF fs p)
      rw [at_perm' (sortF_once (once_without G.once p)) pm, blocked_perm pm]
      split
      · exact ⟨fun h => absurd h (lit _ (by decide +kernel)), fun _ => rfl⟩
      · exact ⟨fun _ => by rw [sort_with (once_without G.once p)]; rfl, fun h => absurd rfl h⟩
  | splice p old new =>
    simp only [deedF, refuseF, laterF, at_sort G]
    cases q : at? fs p with
    | none => simp only; exact ⟨fun h => absurd h (lit _ (by decide +kernel)), fun _ => by first | rfl | trivial⟩
    | some ls =>
      simp only [Option.getD_some]
      cases hp : placesF ls old with
      | nil => simp only; exact ⟨fun h => absurd h (lit _ (by decide +kernel)), fun _ => by first | rfl | trivial⟩
      | cons i r =>
        cases r with
        | nil =>
          simp only
          split
          · exact ⟨fun h => absurd h (lit _ (by decide +kernel)), fun _ => rfl⟩
          · exact ⟨fun _ => by rw [sort_with G.once]; rfl, fun h => absurd rfl h⟩
        | cons j r => simp only; exact ⟨fun h => absurd h (lit _ (by decide +kernel)), fun _ => by first | rfl | trivial⟩
  | _ => cases hq
section
variable {P : Program} {w : World} {K : PySem.W.Frag} {mg : Str → Option Value} {base : Heap}
theorem sc__law_spots : FnScope ["_law_lines_here", "_law_old", "_law_k"] ["_law_lines_here", "_law_old"] (defScope s__law_spots) := ⟨rfl, rfl, rfl, by decide +kernel, rfl, by decide +kernel, by decide +kernel⟩
theorem bn__law_spots : BindN "_law_spots" s__law_spots ["_law_lines_here", "_law_old"] := fun _ _ _ _ _ _ us hl => match us, hl with | [_, _], _ => rfl
theorem b__law_spots (T : TX K mg) : Body P w K mg base "_law_spots" s__law_spots ["_law_lines_here", "_law_old", "_law_k"] 1 (spPlaces K) := by
  intro cdv A outer s H vs Q E h X hr
  obtain ⟨a, b, xs, ys, rfl, ha, hb, ox, oy, lx, ly, q⟩ := h
  refine ⟨_, (pss_one (ps_ret (pe_lc (own := [("_law_k", 2)]) rfl sc__law_spots.nd (pi_range1 rfl (T.free 31) (pa_cons (pe_op (op_addU (K := K)) (pe_op op_subU (pe_callB (cr_len (K := K)) rfl (T.free 2) PySem.boot_len (pa_cons (pv 0) pa_nil)) (pe_callB (cr_len (K := K)) rfl (T.free 2) PySem.boot_len (pa_cons (pv 1) pa_nil))) pe_int) pa_nil)) (blkOk_by (N := ["_law_lines_here", "_law_old", "_law_k"]) (sc := defScope s__law_spots) (by decide +kernel)) (fun _ _ _ _ _ => (pg_name (i := 2) sc__law_spots.nd rfl (Or.inl rfl))) (fun _ _ _ _ _ => (pts_one (pt_cmpR (op_eqU (K := K) hr.units) (pe_slice (sl_U (K := K)) (pv 0) (po_some (pv 2)) (po_some (pe_op (op_addU (K := K)) (pv 2) (pe_callB (cr_len (K := K)) rfl (T.free 2) PySem.boot_len (pa_cons (pv 1) pa_nil))))) (pv 1) (nomark _)))) (fun _ _ _ _ _ => (pv 2))))), ?_⟩
  walk_at "st"
  rw [List.length_map, List.length_map]
  refine c_r1C (by omega) ?_
  refine lcQ_fil (itn_r (lo := 0)) (fun i => V.int (i : Nat)) (fun i => decide (cutL xs (some ((i : Nat) : Int)) (some ((i : Nat) + (ys.length : Int))) = ys)) (by omega) (fun _ _ => trivial) (fun i x H' H'' R S hi e y k1 k2 => ?_) (fun Dl H1 hD e hacc => ?_)
  · obtain ⟨rfl, rfl⟩ := y
    walk_at "st"
    refine ⟨rfl, ?_⟩
    walk_at "st"
    refine c_lenT (SqT.kp e hb) ?_
    walk_at "st"
    refine c_slT (SqT.kp e ha) fun p H2 e2 hp => ?_
    walk_at "st"
    rw [cutL_map, List.length_map, Int.zero_add] at hp
    refine c_eqTS hp (SqT.kp (e.trans e2) hb) (fun y hy => ox y ?_) oy ?_
    · unfold cutL at hy
      exact List.mem_of_mem_drop (List.mem_of_mem_take hy)
    walk_at "st"
    refine c_ite (fun g => ?_) (fun g => ?_)
    · walk_at "st"
      rw [Int.zero_add]
      exact k1 (decide_eq_true g) _ e2
    · exact k2 (decide_eq_false g) _ e2
  · exact q Dl H1 hD e hacc
theorem D__law_spots (T : TX K mg) : DefAt P w K mg base CX0 "_law_spots" 2 ["_law_lines_here", "_law_old"] (spPlaces K) :=
  def_of T 27 47 sc__law_spots bn__law_spots (by walk_at "len") (b__law_spots T)
def spLRefusal (K : PySem.W.Frag) : Sp := fun vs H Q _ => ∃ (f a : Addr) (x : Action) (fs : List File), vs = [.ref f, .ref a] ∧ FilesAt K H f fs ∧ GoodP fs ∧ ActAt K H a x ∧ x.isQ = false ∧ x.bad = none ∧ ∀ H', Kp [] H H' → Q (.str (refuseF fs x)) H'
theorem sc__law_refusal : FnScope ["_law_files_here", "_law_action_here", "_law_path_here", "_law_rest", "_law_spots_here", "_law_other"] ["_law_files_here", "_law_action_here"] (defScope s__law_refusal) := ⟨rfl, rfl, rfl, by decide +kernel, rfl, by decide +kernel, by decide +kernel⟩
theorem bn__law_refusal : BindN "_law_refusal" s__law_refusal ["_law_files_here", "_law_action_here"] := fun _ _ _ _ _ _ us hl => match us, hl with | [_, _], _ => rfl
theorem b__law_refusal (T : TX K mg) : Body P w K mg base "_law_refusal" s__law_refusal ["_law_files_here", "_law_action_here", "_law_path_here", "_law_rest", "_law_spots_here", "_law_other"] 3 (spLRefusal K) := by
  intro cdv A outer s H vs Q E h X hr
  obtain ⟨f, a, x, fs, rfl, F, G, ha, hq, hb, q⟩ := h
  have D__law_blocked := D__law_blocked (P := P) (w := w) (base := base) T; have D__law_blocked__L := D__law_blocked__L (P := P) (w := w) (base := base) T; have D__law_spots := D__law_spots (P := P) (w := w) (base := base) T
  refine ⟨_, (pss_cons (ps_set (i := 2) sc__law_refusal.nd rfl (Or.inr rfl) (pe_ix (ix_U (K := K)) (pv 1) pe_int (fun _ _ => rfl))) (pss_cons (ps_if (pt_cmpR (op_eqU (K := K) hr.units) (pe_ix (ix_U (K := K)) (pv 1) pe_int (fun _ _ => rfl)) pe_str (nomark _)) (pss_cons (ps_if (pt_tru (K := K) (pe_callA D__law_blocked hr pass0 (pa_cons (pv 0) (pa_cons (pv 2) pa_nil)))) (pss_one (ps_ret pe_str)) pss_nil) (pss_one (ps_ret (pe_ix (ix_U (K := K)) (pe_lst (pa_cons pe_str (pa_cons pe_str pa_nil))) (pe_callTy cr_int rfl (T.free 32) (by decide +kernel) (pa_cons (pe_and (pe_cmp (pc_dnotin (hu_of hr) (pv 2) (pv 0)) rfl) (pe_one (pe_cmpR (op_eqU (K := K) hr.units) (pe_callB cr_lenD rfl (T.free 2) PySem.boot_len (pa_cons (pv 0) pa_nil)) pe_int (nomark _)))) pa_nil)) (fun _ _ => rfl))))) pss_nil) (pss_cons (ps_if (pt_cmp (pc_dnotin (hu_of hr) (pv 2) (pv 0)) rfl) (pss_one (ps_ret pe_str)) pss_nil) (pss_cons (ps_if (pt_cmpR (op_eqU (K := K) hr.units) (pe_ix (ix_U (K := K)) (pv 1) pe_int (fun _ _ => rfl)) pe_str (nomark _)) (pss_cons (ps_lock (ps_setLc (i := 3) (own := [("_law_other", 5)]) rfl sc__law_refusal.nd rfl rfl (sw_true rfl rfl rfl (by decide +kernel)) (pi_keys (pv 0)) (blkOk_by (N := ["_law_files_here", "_law_action_here", "_law_path_here", "_law_rest", "_law_spots_here", "_law_other"]) (sc := defScope s__law_refusal) (by decide +kernel)) (fun _ _ _ _ _ => (pg_name (i := 5) sc__law_refusal.nd rfl (Or.inl rfl))) (fun _ _ _ _ _ => (pts_one (pt_cmpR (op_neU (K := K) hr.units) (pv 5) (pv 2) (nomark _)))) (fun _ _ _ _ _ => (pv 5)))) (pss_one (ps_if (PW.pt (pw_or (pt_cmpR (op_inU (K := K)) (pe_ix (ix_U (K := K)) (pv 1) pe_int (fun _ _ => rfl)) (pv 3) rfl) (pw_or1 (pt_tru (K := K) (pe_callA D__law_blocked__L hr pass0 (pa_cons (pv 3) (pa_cons (pe_ix (ix_U (K := K)) (pv 1) pe_int (fun _ _ => rfl)) pa_nil))))))) (pss_one (ps_ret pe_str)) pss_nil))) pss_nil) (pss_cons (ps_if (pt_cmpR (op_eqU (K := K) hr.units) (pe_ix (ix_U (K := K)) (pv 1) pe_int (fun _ _ => rfl)) pe_str (nomark _)) (pss_cons (ps_set (i := 4) sc__law_refusal.nd rfl (Or.inl rfl) (pe_callA D__law_spots hr pass0 (pa_cons (pe_dget (hu_of hr) (pv 0) (pv 2) (fun _ _ => rfl)) (pa_cons (pe_ix (ix_U (K := K)) (pv 1) pe_int (fun _ _ => rfl)) pa_nil)))) (pss_cons (ps_if (pt_cmpR (op_neU (K := K) hr.units) (pe_callB (cr_len (K := K)) rfl (T.free 2) PySem.boot_len (pa_cons (pv 4) pa_nil)) pe_int (nomark _)) (pss_one (ps_ret (pe_ix (ix_U (K := K)) (pe_lst (pa_cons pe_str (pa_cons pe_str pa_nil))) (pe_callTy cr_int rfl (T.free 32) (by decide +kernel) (pa_cons (pe_cmpR (op_eqU (K := K) hr.units) (pv 4) (pe_lst pa_nil) (nomark _)) pa_nil)) (fun _ _ => rfl)))) pss_nil) (pss_one (ps_if (pt_cmpR op_gtU (pe_op (op_addU (K := K)) (pe_op op_subU (pe_callB (cr_len (K := K)) rfl (T.free 2) PySem.boot_len (pa_cons (pe_dget (hu_of hr) (pv 0) (pv 2) (fun _ _ => rfl)) pa_nil)) (pe_callB (cr_len (K := K)) rfl (T.free 2) PySem.boot_len (pa_cons (pe_ix (ix_U (K := K)) (pv 1) pe_int (fun _ _ => rfl)) pa_nil))) (pe_callB (cr_len (K := K)) rfl (T.free 2) PySem.boot_len (pa_cons (pe_ix (ix_U (K := K)) (pv 1) pe_int (fun _ _ => rfl)) pa_nil))) pe_int (nomark _)) (pss_one (ps_ret pe_str)) pss_nil)))) pss_nil) (pss_one (ps_ret pe_str))))))), ?_⟩
  have gl := G.len
  have hps : ∀ o ∈ pathsOf fs, o.length ≤ 1000 := fun o ho => by
    obtain ⟨r, hr, rfl⟩ := List.mem_map.mp ho
    have := path_len (G.path r hr)
    omega
  cases x with
  | write p ls =>
    obtain ⟨l, ha, hl⟩ := ha
    have hp : isPathS p = true := by
      simp only [Action.bad] at hb
      split at hb
      · assumption
      · cases hb
    have pl := path_len hp
    walk_at "dc"
    refine ⟨f, p, fs, rfl, F, hps, by omega, ?_⟩
    rw [lawBlocked_eq hp]
    walk_at "st"
    refine c_iteB (fun g => ?_) (fun g => ?_)
    · walk_at "st"
      have g2 := q H Kp.refl
      simp only [refuseF, g, if_true] at g2
      exact g2
    · walk_at "st"
      walk_at "nw"
      intro p1 H1 N1
      have g2 := q H1 N1.kp
      simp only [refuseF, g, Bool.false_eq_true, if_false] at g2
      walk_at "st"
      refine c_dninF (F.kp N1.kp).r ?_
      walk_at "st"
      have fin : ∀ b : Bool, ((at? fs p).isNone && decide (fs.length = 20)) = b → rIx K (.ref p1) (.int (if b then 1 else 0)) H1 Q := fun b hb => by
        rw [hb] at g2
        cases b with
        | false => exact c_ixL (SqL.of N1.at_) (v := .str "") rfl g2
        | true => exact c_ixL (SqL.of N1.at_) (v := .str "full") rfl g2
      cases ga : at? fs p with
      | some ls' =>
        walk_at "dc"
        refine c_intB ?_
        walk_at "st"
        rw [ga] at g2
        exact g2
      | none =>
        walk_at "dc"
        refine c_lenF (F.kp N1.kp).r ?_
        walk_at "st"
        refine c_intB ?_
        walk_at "st"
        refine fin _ ?_
        rw [ga]
        show decide (fs.length = 20) = decide ((fs.length : Int) = 20)
        congr 1
        exact propext ⟨fun h => by omega, fun h => by omega⟩
  | remove p =>
    walk_at "dc"
    refine c_dninF F.r ?_
    walk_at "st"
    have g2 := q H Kp.refl
    cases ga : at? fs p with
    | some ls' =>
      simp only [refuseF, ga] at g2
      walk_at "dc"
      exact g2
    | none =>
      simp only [refuseF, ga] at g2
      walk_at "dc"
      exact g2
  | move p t =>
    have ht : isPathS t = true := by
      simp only [Action.bad] at hb
      split at hb
      · split at hb
        · assumption
        · cases hb
      · cases hb
    have tl := path_len ht
    walk_at "dc"
    refine c_dninF F.r ?_
    walk_at "st"
    cases ga : at? fs p with
    | none =>
      have g2 := q H Kp.refl
      simp only [refuseF, ga] at g2
      walk_at "dc"
      exact g2
    | some ls' =>
      walk_at "dc"
      obtain ⟨ls, hf, hl, hfs⟩ := id F.ex
      refine c_lockF hf fun od => ?_
      walk_at "st"
      refine c_keysAtC upd_same ?_
      have hll : ls.length = fs.length := by rw [← hfs, List.length_map]
      have gd : ∀ i l, ls[i]? = some l → (pathsOf fs).getD i Str.empty = l.2.1 ∧ l.2.1 ∈ pathsOf fs := fun i l h => by
        have : (pathsOf fs)[i]? = some l.2.1 := by rw [← hfs]; unfold pathsOf; rw [List.getElem?_map, List.getElem?_map, h]; rfl
        exact ⟨getD_of this, List.mem_of_getElem? this⟩
      refine lcQ_fil (itn_ks (ls := ls)) (fun i => V.str ((pathsOf fs).getD i Str.empty)) (fun i => !decide ((pathsOf fs).getD i Str.empty = p)) (by omega) (fun H' e => e.at0 upd_same) (fun i x H' H'' R S hi e y k1 k2 => ?_) (fun D H1 hD e hacc => ?_)
      · obtain ⟨rfl, l, hl1, rfl⟩ := y
        obtain ⟨ge, gm⟩ := gd i l hl1
        rw [ge] at k1 k2
        walk_at "st"
        refine ⟨rfl, ?_⟩
        walk_at "st"
        refine c_iteN (fun g2 => ?_) (fun g2 => ?_)
        · walk_at "st"
          exact k1 (by rw [decide_eq_false g2]; rfl) _ Kp.refl
        · exact k2 (by rw [decide_eq_true g2]; rfl) _ Kp.refl
      have nd : D ≠ f := fun z => by rw [z, upd_same] at hD; cases hD
      have k0 := lock_kp hf e
      have el : ((List.range ls.length).filter fun i => !decide ((pathsOf fs).getD i Str.empty = p)).map (fun i => V.str ((pathsOf fs).getD i Str.empty)) = (pathsOf (withoutF fs p)).map V.str := by
        have e1 : (pathsOf fs) = (List.range ls.length).map fun i => (pathsOf fs).getD i Str.empty := by
          have h1 : ls.length = (pathsOf fs).length := by rw [hll]; unfold pathsOf; rw [List.length_map]
          rw [h1]
          have := range_getD (pathsOf fs) Str.empty id
          simpa using this.symm
        have e2 : pathsOf (withoutF fs p) = (pathsOf fs).filter fun y => !decide (y = p) := by
          unfold pathsOf withoutF
          rw [List.filter_map]
          rfl
        rw [e2]
        conv => rhs; rw [e1, List.filter_map, List.map_map]
        rfl
      rw [el] at hacc
      have hacc2 : SqL K (upd H1 f (.dK (filesKv ls))) D ((pathsOf (withoutF fs p)).map V.str) := SqL.of (upd_other (u := HO.dK (filesKv ls)) nd hacc)
      have ha2 := SqT.kp k0 ha
      have g2 := q _ k0
      have hps2 : ∀ o ∈ pathsOf (withoutF fs p), o.length ≤ 1000 := fun o ho => by
        obtain ⟨r, hr, rfl⟩ := List.mem_map.mp ho
        exact hps _ (List.mem_map_of_mem (f := Prod.fst) (List.mem_filter.mp hr).1)
      walk_at "st"
      refine ⟨e.at0 upd_same, ?_⟩
      walk_at "dc"
      refine c_inSs (.inl hacc2) ?_
      walk_at "st"
      have ei : decide (t ∈ pathsOf (withoutF fs p)) = (at? (withoutF fs p) t).isSome := by
        rw [Bool.eq_iff_iff, decide_eq_true_eq]
        exact at_isSome.symm
      rw [ei]
      cases g3 : (at? (withoutF fs p) t).isSome with
      | true =>
        walk_at "dc"
        simp only [refuseF, ga, g3, Bool.true_or, if_true] at g2
        exact g2
      | false =>
        walk_at "dc"
        refine ⟨D, t, _, rfl, hacc2, hps2, by omega, ?_⟩
        rw [lawBlocked_eq ht]
        walk_at "st"
        refine c_iteB (fun g => ?_) (fun g => ?_)
        · walk_at "st"
          simp only [refuseF, ga, g3, g, Bool.false_or, if_true] at g2
          exact g2
        · walk_at "dc"
          simp only [refuseF, ga, g3, g, Bool.false_or, Bool.false_eq_true, if_false] at g2
          exact g2
  | splice p old new =>
    obtain ⟨l, m, ha, hl, hm⟩ := ha
    obtain ⟨ho, hn⟩ : isLinesS old = true ∧ isLinesS new = true := by
      simp only [Action.bad] at hb
      split at hb
      · split at hb
        · rename_i h2
          split at hb
          · rename_i h3
            rw [Bool.and_eq_true] at h2
            exact ⟨h2.1, h3⟩
          · cases hb
        · cases hb
      · cases hb
    obtain ⟨ol, oo⟩ := lines_len ho
    obtain ⟨nl, no⟩ := lines_len hn
    walk_at "dc"
    refine c_dninF F.r ?_
    walk_at "st"
    cases ga : at? fs p with
    | none =>
      have g2 := q H Kp.refl
      simp only [refuseF, ga] at g2
      walk_at "dc"
      exact g2
    | some ls =>
      obtain ⟨ll, lo⟩ := lines_len (G.lines _ (at_mem ga))
      have ll : ls.length ≤ 12 := ll
      walk_at "dc"
      refine c_dgetR F.r ga fun la hla => ?_
      walk_at "dc"
      refine ⟨la, l, ls, old, rfl, hla, hl, fun y hy => plain_ok (lo y hy).2, fun y hy => plain_ok (oo y hy).2, by omega, by omega, fun pp H1 hpn e1 hpp => ?_⟩
      have g2 := q H1 e1
      simp only [refuseF, ga] at g2
      walk_at "st"
      have F1 := F.kp e1
      cases hpl : placesF ls old with
      | nil =>
        rw [hpl] at hpp
        simp only [hpl] at g2
        walk_at "dc"
        walk_at "nw"
        intro p2 H2 N2
        walk_at "st"
        walk_at "nw"
        intro p3 H3 N3
        walk_at "st"
        refine c_eqLI (ns := []) (ms := []) (SqL.of (N3.keep (N2.keep hpp))) (SqL.of N3.at_) ?_
        walk_at "st"
        refine c_intB ?_
        walk_at "st"
        have g3 := q H3 ((e1.trans N2.kp).trans N3.kp)
        simp only [refuseF, ga, hpl] at g3
        exact g3
      | cons i r =>
        cases r with
        | cons j r =>
          rw [hpl] at hpp
          walk_at "st"
          refine c_iteN (fun g => ?_) (fun g => ?_)
          rotate_left
          · exact absurd g (by simp only [List.length_map, List.length_cons]; omega)
          walk_at "st"
          walk_at "nw"
          intro p2 H2 N2
          walk_at "st"
          walk_at "nw"
          intro p3 H3 N3
          walk_at "st"
          have hpp2 : SqL K H3 pp (((i :: j :: r).map fun n => ((n : Nat) : Int)).map V.int) := by
            rw [List.map_map]
            exact SqL.of (N3.keep (N2.keep hpp))
          refine c_eqLI (ms := []) hpp2 (SqL.of N3.at_) ?_
          walk_at "st"
          refine c_intB ?_
          walk_at "st"
          have g3 := q H3 ((e1.trans N2.kp).trans N3.kp)
          simp only [refuseF, ga, hpl] at g3
          exact g3
        | nil =>
          rw [hpl] at hpp
          simp only [hpl] at g2
          walk_at "dc"
          refine c_dgetR F1.r ga fun lb hlb => ?_
          walk_at "st"
          refine c_ixT (SqT.kp e1 ha) rfl ?_
          walk_at "st"
          refine c_lenT (SqT.kp e1 hl) ?_
          walk_at "st"
          refine c_ixT (SqT.kp e1 ha) rfl ?_
          walk_at "st"
          refine c_lenT (SqT.kp e1 hm) ?_
          walk_at "st"
          rw [List.length_map, List.length_map, List.length_map]
          refine c_ite (fun g => ?_) (fun g => ?_)
          · walk_at "st"
            rw [if_pos (decide_eq_true g)] at g2
            exact g2
          · walk_at "st"
            rw [if_neg (by rw [decide_eq_false g]; exact Bool.false_ne_true)] at g2
            exact g2
  | _ => cases hq
theorem D__law_refusal (T : TX K mg) : DefAt P w K mg base CX0 "_law_refusal" 4 ["_law_files_here", "_law_action_here"] (spLRefusal K) :=
  def_of T 28 48 sc__law_refusal bn__law_refusal (by walk_at "len") (b__law_refusal T)
end
end K61



namespace K61
open PySem L2 Sa
local macro_rules | `(tactic| walk_at "s1") => `(tactic| first | (with_reducible apply c_dgetK))
local macro_rules | `(tactic| walk_at "s1") => `(tactic| (with_reducible apply c_raiseO))
def Action.word : Action → Str
  | .read _ => "read" | .kind _ => "kind" | .list _ => "list" | .find _ _ => "find" | .count _ => "count"
  | .write _ _ => "write" | .remove _ => "remove" | .move _ _ => "move" | .splice _ _ _ => "splice"
def Action.place : Action → Str
  | .read p => p | .kind p => p | .list p => p | .find p _ => p | .count p => p
  | .write p _ => p | .remove p => p | .move p _ => p | .splice p _ _ => p
theorem ActAt.head {K : PySem.W.Frag} {H : Hp} {a : Addr} {x : Action} (h : ActAt K H a x) : ∃ r, SqT K H a (.str x.word :: .str x.place :: r) := by
  cases x with
  | write p ls => obtain ⟨l, h, _⟩ := h; exact ⟨_, h⟩
  | splice p old new => obtain ⟨l, m, h, _⟩ := h; exact ⟨_, h⟩
  | _ => exact ⟨_, h⟩
theorem ActAt.kt {K : PySem.W.Frag} {H H' : Hp} {a : Addr} (e : Kt H H') : ∀ {x : Action}, ActAt K H a x → ActAt K H' a x
  | .read _, h => SqT.kt e h
  | .kind _, h => SqT.kt e h
  | .list _, h => SqT.kt e h
  | .find _ _, h => SqT.kt e h
  | .count _, h => SqT.kt e h
  | .write _ _, ⟨l, h1, h2⟩ => ⟨l, SqT.kt e h1, SqT.kt e h2⟩
  | .remove _, h => SqT.kt e h
  | .move _ _, h => SqT.kt e h
  | .splice _ _ _, ⟨l, m, h1, h2, h3⟩ => ⟨l, m, SqT.kt e h1, SqT.kt e h2, SqT.kt e h3⟩
theorem word_isQ (x : Action) : decide (x.word ∈ (["read", "kind", "list", "find", "count"] : List Str)) = x.isQ := by
  cases x with
  | read p =>
    show decide ((PySem.Str.ofString "read") ∈ (["read", "kind", "list", "find", "count"] : List Str)) = true
    decide +kernel
  | kind p =>
    show decide ((PySem.Str.ofString "kind") ∈ (["read", "kind", "list", "find", "count"] : List Str)) = true
    decide +kernel
  | list p =>
    show decide ((PySem.Str.ofString "list") ∈ (["read", "kind", "list", "find", "count"] : List Str)) = true
    decide +kernel
  | find p w =>
    show decide ((PySem.Str.ofString "find") ∈ (["read", "kind", "list", "find", "count"] : List Str)) = true
    decide +kernel
  | count p =>
    show decide ((PySem.Str.ofString "count") ∈ (["read", "kind", "list", "find", "count"] : List Str)) = true
    decide +kernel
  | write p ls =>
    show decide ((PySem.Str.ofString "write") ∈ (["read", "kind", "list", "find", "count"] : List Str)) = false
    decide +kernel
  | remove p =>
    show decide ((PySem.Str.ofString "remove") ∈ (["read", "kind", "list", "find", "count"] : List Str)) = false
    decide +kernel
  | move p t =>
    show decide ((PySem.Str.ofString "move") ∈ (["read", "kind", "list", "find", "count"] : List Str)) = false
    decide +kernel
  | splice p o n =>
    show decide ((PySem.Str.ofString "splice") ∈ (["read", "kind", "list", "find", "count"] : List Str)) = false
    decide +kernel
theorem putR_new {fs : List File} {p : Str} (h : p ∉ pathsOf fs) (ls : List Str) : putR fs p ls = fs ++ [(p, ls)] := by
  unfold putR
  rw [if_neg]
  intro hz
  obtain ⟨f, hf, e⟩ := List.any_eq_true.mp hz
  exact h (List.mem_map.mpr ⟨f, hf, of_decide_eq_true e⟩)
theorem without_new {fs : List File} {p : Str} (h : p ∉ pathsOf fs) : withoutF fs p = fs := List.filter_eq_self.mpr fun g hg => by
  rw [decide_eq_false fun e => h (List.mem_map.mpr ⟨g, hg, e⟩)]
  rfl
theorem put_without (fs : List File) (p : Str) (ls : List Str) : putR (withoutF fs p) p ls = withF fs p ls := putR_new (not_in_without fs p) ls
theorem not_at {fs : List File} {p : Str} (h : (at? fs p).isSome = false) : p ∉ pathsOf fs := fun hm => by rw [at_isSome.mpr hm] at h; cases h
theorem put_with {fs : List File} {p : Str} (h : (at? fs p).isSome = false) (ls : List Str) : putR fs p ls = withF fs p ls := by
  rw [putR_new (not_at h), withF, without_new (not_at h)]
/-- what is not refused -/
theorem done_at {fs : List File} {x : Action} (h : refuseF fs x = "") : (match x with
    | .write _ _ => True
    | .remove p => (at? fs p).isSome = true
    | .move p t => ∃ ls, at? fs p = some ls ∧ (at? (withoutF fs p) t).isSome = false
    | .splice p old new => ∃ ls i, at? fs p = some ls ∧ placesF ls old = [i]
    | _ => True) := by
  have lit : ∀ z : Str, z ∈ (["none", "done", "missing", "blocked", "full", "absent", "ambiguous", "long"] : List Str) → z ≠ "" := by decide +kernel
  have miss : ("missing" : Str) = "" → False := fun h => lit _ (by decide +kernel) h
  have blk : ("blocked" : Str) = "" → False := fun h => lit _ (by decide +kernel) h
  have ab : ("absent" : Str) = "" → False := fun h => lit _ (by decide +kernel) h
  have am : ("ambiguous" : Str) = "" → False := fun h => lit _ (by decide +kernel) h
  cases x with
  | remove p =>
    simp only [refuseF] at h
    cases g : at? fs p with
    | none => rw [g] at h; exact (miss h).elim
    | some _ => simp [g]
  | move p t =>
    simp only [refuseF] at h
    cases g : at? fs p with
    | none => rw [g] at h; exact (miss h).elim
    | some ls =>
      refine ⟨ls, g, ?_⟩
      rw [g] at h
      simp only at h
      cases g2 : (at? (withoutF fs p) t).isSome with
      | false => rfl
      | true =>
        rw [g2] at h
        exact (blk h).elim
  | splice p old new =>
    simp only [refuseF] at h
    cases g : at? fs p with
    | none => rw [g] at h; exact (miss h).elim
    | some ls =>
      rw [g] at h
      simp only at h
      cases g2 : placesF ls old with
      | nil => rw [g2] at h; exact (ab h).elim
      | cons i r =>
        cases r with
        | nil => exact ⟨ls, i, g, g2⟩
        | cons j r => rw [g2] at h; exact (am h).elim
  | _ => trivial
section
variable {P : Program} {w : World} {K : PySem.W.Frag} {mg : Str → Option Value} {base : Heap}
/-- what the law's act hands back -/
def RetL (K : PySem.W.Frag) (H : Hp) (Q : VK) (r : PyData × List File) : Prop := ∀ p v f' fs' H', Kp [] H H' → H' p = some (.lst [v, .ref f']) → Dt K H' v r.1 → FilesAt K H' f' fs' → GoodP fs' → sortF fs' = r.2 → Q (.ref p) H'
def spLAct (K : PySem.W.Frag) : Sp := fun vs H Q _ => ∃ (f a : Addr) (x : Action) (fs : List File), vs = [.ref f, .ref a] ∧ FilesAt K H f fs ∧ GoodP fs ∧ ActAt K H a x ∧ x.bad = none ∧ RetL K H Q (actF (sortF fs) x)
theorem sc__law_act : FnScope ["_law_files_here", "_law_action_here", "_law_refusal_here", "_law_later", "_law_path_here", "_law_lines_here", "_law_at"] ["_law_files_here", "_law_action_here"] (defScope s__law_act) := ⟨rfl, rfl, rfl, by decide +kernel, rfl, by decide +kernel, by decide +kernel⟩
theorem bn__law_act : BindN "_law_act" s__law_act ["_law_files_here", "_law_action_here"] := fun _ _ _ _ _ _ us hl => match us, hl with | [_, _], _ => rfl
theorem b__law_act (T : TX K mg) : Body P w K mg base "_law_act" s__law_act ["_law_files_here", "_law_action_here", "_law_refusal_here", "_law_later", "_law_path_here", "_law_lines_here", "_law_at"] 4 (spLAct K) := by
  intro cdv A outer s H vs Q E h X hr
  obtain ⟨f, a, x, fs, rfl, F, G, ha, hb, q⟩ := h
  have D__law_asked := D__law_asked (P := P) (w := w) (base := base) T; have D__law_refusal := D__law_refusal (P := P) (w := w) (base := base) T; have D__law_spots := D__law_spots (P := P) (w := w) (base := base) T
  refine ⟨_, (pss_cons (ps_if (pt_cmpR (op_inU (K := K)) (pe_ix (ix_U (K := K)) (pv 1) pe_int (fun _ _ => rfl)) (pe_tup (pa_cons pe_str (pa_cons pe_str (pa_cons pe_str (pa_cons pe_str (pa_cons pe_str pa_nil)))))) rfl) (pss_one (ps_ret (pe_lst (pa_cons (pe_callA D__law_asked hr pass0 (pa_cons (pv 0) (pa_cons (pv 1) pa_nil))) (pa_cons (pv 0) pa_nil))))) pss_nil) (pss_cons (ps_set (i := 2) sc__law_act.nd rfl (Or.inl rfl) (pe_callA D__law_refusal hr pass0 (pa_cons (pv 0) (pa_cons (pv 1) pa_nil)))) (pss_cons (ps_if (pt_cmpR (op_neU (K := K) hr.units) (pv 2) pe_str (nomark _)) (pss_one (ps_ret (pe_lst (pa_cons (pe_tup (pa_cons (pv 2) pa_nil)) (pa_cons (pv 0) pa_nil))))) pss_nil) (pss_cons (ps_set (i := 3) sc__law_act.nd rfl (Or.inl rfl) pe_dnewK) (pss_cons (ps_lock (ps_for PassesOwn.never rfl (pi_keys (pv 0)) (pg_name (i := 4) sc__law_act.nd rfl (Or.inl rfl)) (pss_one (ps_if (pt_cmpR (op_neU (K := K) hr.units) (pv 4) (pe_ix (ix_U (K := K)) (pv 1) pe_int (fun _ _ => rfl)) (nomark _)) (pss_one (ps_dput (hu_of hr) (pv 3) (pv 4) (pe_dget (hu_of hr) (pv 0) (pv 4) (fun _ _ => rfl)) rfl)) pss_nil)))) (pss_cons (ps_if (pt_cmpR (op_eqU (K := K) hr.units) (pe_ix (ix_U (K := K)) (pv 1) pe_int (fun _ _ => rfl)) pe_str (nomark _)) (pss_one (ps_dput (hu_of hr) (pv 3) (pe_ix (ix_U (K := K)) (pv 1) pe_int (fun _ _ => rfl)) (pe_ix (ix_U (K := K)) (pv 1) pe_int (fun _ _ => rfl)) rfl)) pss_nil) (pss_cons (ps_if (pt_cmpR (op_eqU (K := K) hr.units) (pe_ix (ix_U (K := K)) (pv 1) pe_int (fun _ _ => rfl)) pe_str (nomark _)) (pss_one (ps_dput (hu_of hr) (pv 3) (pe_ix (ix_U (K := K)) (pv 1) pe_int (fun _ _ => rfl)) (pe_dget (hu_of hr) (pv 0) (pe_ix (ix_U (K := K)) (pv 1) pe_int (fun _ _ => rfl)) (fun _ _ => rfl)) rfl)) pss_nil) (pss_cons (ps_if (pt_cmpR (op_eqU (K := K) hr.units) (pe_ix (ix_U (K := K)) (pv 1) pe_int (fun _ _ => rfl)) pe_str (nomark _)) (pss_cons (ps_set (i := 5) sc__law_act.nd rfl (Or.inl rfl) (pe_dget (hu_of hr) (pv 0) (pe_ix (ix_U (K := K)) (pv 1) pe_int (fun _ _ => rfl)) (fun _ _ => rfl))) (pss_cons (ps_set (i := 6) sc__law_act.nd rfl (Or.inl rfl) (pe_ix (ix_U (K := K)) (pe_callA D__law_spots hr pass0 (pa_cons (pv 5) (pa_cons (pe_ix (ix_U (K := K)) (pv 1) pe_int (fun _ _ => rfl)) pa_nil))) pe_int (fun _ _ => rfl))) (pss_one (ps_dput (hu_of hr) (pv 3) (pe_ix (ix_U (K := K)) (pv 1) pe_int (fun _ _ => rfl)) (pe_op (op_addU (K := K)) (pe_op (op_addU (K := K)) (pe_slice (sl_U (K := K)) (pv 5) po_none (po_some (pv 6))) (pe_ix (ix_U (K := K)) (pv 1) pe_int (fun _ _ => rfl))) (pe_slice (sl_U (K := K)) (pv 5) (po_some (pe_op (op_addU (K := K)) (pv 6) (pe_callB (cr_len (K := K)) rfl (T.free 2) PySem.boot_len (pa_cons (pe_ix (ix_U (K := K)) (pv 1) pe_int (fun _ _ => rfl)) pa_nil)))) po_none)) rfl)))) pss_nil) (pss_one (ps_ret (pe_lst (pa_cons (pe_tup (pa_cons pe_str pa_nil)) (pa_cons (pv 3) pa_nil))))))))))))), ?_⟩
  have gl := G.len
  obtain ⟨r0, h0⟩ := ha.head
  walk_at "st"
  refine c_ixT h0 (atI_nat (j := 0) rfl) ?_
  walk_at "st"
  walk_at "nw"
  intro p1 H1 N1
  walk_at "st"
  refine c_inSs (ys := ["read", "kind", "list", "find", "count"]) (.inr (SqT.of N1.at_)) ?_
  rw [word_isQ]
  have F1 := F.kp N1.kp
  have ha1 := ha.kp N1.kp
  have h1 := SqT.kp N1.kp h0
  walk_at "st"
  refine c_iteB (fun hq => ?_) (fun hq => ?_)
  · walk_at "st"
    refine ⟨f, a, x, fs, rfl, F1, G, ha1, hq, bad_sane hb, fun v H2 e2 hv => ?_⟩
    walk_at "st"
    walk_at "nw"
    intro p3 H3 N3
    have e : actF (sortF fs) x = (askF (sortF fs) x, sortF fs) := by unfold actF; rw [if_pos hq]
    rw [e] at q
    exact q p3 v f fs H3 ((N1.kp.trans e2).trans N3.kp) N3.at_ (Dt.kp hv N3.kp) ((F1.kp e2).kp N3.kp) G rfl
  have ea : actF (sortF fs) x = deedF (sortF fs) x := by unfold actF; rw [hq]; rfl
  rw [ea] at q
  have gact := (G.sort).act (x := x) hb
  rw [ea] at gact
  obtain ⟨de1, de2⟩ := deed_eq G hq
  walk_at "st"
  refine ⟨f, a, x, fs, rfl, F1, G, ha1, hq, hb, fun H2 e2 => ?_⟩
  have F2 := F1.kp e2
  have h2 := SqT.kp e2 h1
  have ha2 := ha1.kp e2
  walk_at "st"
  refine c_iteN (fun g => ?_) (fun g => ?_)
  · walk_at "st"
    walk_at "nw"
    intro p3 H3 N3
    walk_at "st"
    walk_at "nw"
    intro p4 H4 N4
    rw [de2 g] at q
    exact q p4 (.ref p3) f fs H4 (((N1.kp.trans e2).trans N3.kp).trans N4.kp) N4.at_ (.tup (SqT.of (N4.keep N3.at_)) (.cons (.str _) .nil)) ((F2.kp N3.kp).kp N4.kp) G rfl
  rw [de1 g] at q gact
  have gla : GoodP (laterF fs x) := gact.perm (sortF_perm _)
  have dn := done_at g
  walk_at "st"
  refine c_dnew fun gd H3 N3 => ?_
  have F3 := F2.kp N3.kp
  have h3 := SqT.kp N3.kp h2
  have ha3 := ha2.kp N3.kp
  obtain ⟨ls, hf, hl, hfs⟩ := id F3.ex
  obtain ⟨rs2, hh2, _, _⟩ := id F2.ex
  have nfg : f ≠ gd := ne_of_none hh2 N3.fr
  have ng : H gd = none := free0 (N1.kp.trans e2) N3.fr
  have hll : ls.length = fs.length := by rw [← hfs, List.length_map]
  walk_at "st"
  refine c_lockF hf fun od => ?_
  walk_at "st"
  refine c_keysAt upd_same ?_
  have hgL : upd H3 f (.frz od (.dK (filesKv ls))) gd = some (.dK []) := upd_other (Ne.symm nfg) N3.at_
  have ktL : Kt H3 (upd H3 f (.frz od (.dK (filesKv ls)))) := Kt.lock hf
  refine forQ (itn_ks (ls := ls)) (fun i σ H' => ∃ v4 v5 v6, σ = [some (.ref f), some (.ref a), some (.str (refuseF fs x)), some (.ref gd), v4, v5, v6] ∧ Kp [gd] (upd H3 f (.frz od (.dK (filesKv ls)))) H' ∧ FilesAt K H' gd (withoutF (fs.take i) x.place)) ⟨_, _, _, rfl, Kp.refl, FilesAt.nil hgL⟩ (by rintro i σ H' ⟨_, _, _, _, e, _⟩; exact e.at1 nfg upd_same) ?_ ?_
  · rintro i y σ _ H4 hi ⟨v4, v5, v6, rfl, e4, F4⟩ ⟨rfl, l, hl1, rfl⟩
    have kt4 : Kt H3 H4 := ktL.trans (e4.kt1 (NoT.dK hgL))
    have hl2 : fs[i]? = some l.2 := by rw [← hfs, List.getElem?_map, hl1]; rfl
    have et : withoutF (fs.take (i + 1)) x.place = withoutF (fs.take i) x.place ++ if l.2.1 = x.place then [] else [l.2] := by
      unfold withoutF
      rw [take_succ' hl2, List.filter_append]
      congr 1
      by_cases h : l.2.1 = x.place <;> simp [h]
    walk_at "st"
    refine c_ixT (SqT.kt kt4 h3) (atI_nat (j := 1) rfl) ?_
    walk_at "st"
    refine c_iteN (fun g1 => ?_) (fun g1 => ?_)
    · have FR : FilesR K H4 f fs := ⟨ls, .inr ⟨od, e4.at1 nfg upd_same⟩, fun r hr => SqT.kt kt4 (hl r hr), hfs⟩
      have ga : at? fs l.2.1 = some l.2.2 := (at_some G.once).mpr (List.mem_of_getElem? hl2)
      walk_at "st"
      refine c_dgetR FR ga fun la hla => ?_
      walk_at "st"
      have nin : l.2.1 ∉ pathsOf (withoutF (fs.take i) x.place) := fun hm => by
        obtain ⟨r, hr, er⟩ := List.mem_map.mp hm
        have hr2 := (List.mem_filter.mp hr).1
        obtain ⟨j, hj, ej⟩ := List.mem_iff_getElem.mp hr2
        rw [List.getElem_take] at ej
        rw [List.length_take] at hj
        have o1 : (fs.map Prod.fst)[j]? = some l.2.1 := by rw [List.getElem?_map, List.getElem?_eq_getElem (by omega), ej, Option.map_some, er]
        have o2 : (fs.map Prod.fst)[i]? = some l.2.1 := by rw [List.getElem?_map, hl2]; rfl
        have := (List.getElem?_inj (by rw [List.length_map]; omega) G.once).mp (o1.trans o2.symm)
        omega
      refine c_putF F4 (by have := List.length_filter_le (fun f : File => !decide (f.1 = x.place)) (fs.take i); unfold withoutF; rw [List.length_take] at this; omega) hla fun H5 e5 kt5 F5 back => ?_
      walk_at "st"
      refine ⟨_, _, _, rfl, e4.trans e5, ?_⟩
      rw [putR_new nin] at F5
      rw [et, if_neg g1]
      exact F5
    · walk_at "st"
      refine ⟨_, _, _, rfl, e4, ?_⟩
      rw [et, if_pos g1, List.append_nil]
      exact F4
  · rintro σ H4 ⟨v4, v5, v6, rfl, e4, F4⟩
    rw [List.take_of_length_le (by omega)] at F4
    refine ⟨e4.at1 nfg upd_same, ?_⟩
    have k34 : Kp [gd] H3 (upd H4 f (.dK (filesKv ls))) := lock_kpm hf nfg e4
    have k0 : Kp [] H (upd H4 f (.dK (filesKv ls))) := Kp.drop_fresh (((N1.kp.trans e2).trans N3.kp).mono.trans k34) ng
    have kt35 : Kt H3 (upd H4 f (.dK (filesKv ls))) := k34.kt1 (NoT.dK N3.at_)
    have Fg : FilesAt K (upd H4 f (.dK (filesKv ls))) gd (withoutF fs x.place) := by
      obtain ⟨rs, q1, q2, q3⟩ := F4.ex
      have : Kt H4 (upd H4 f (.dK (filesKv ls))) := fun b xs hb => by
        by_cases z : b = f
        · subst z
          have := e4.at1 nfg upd_same
          rcases hb with hb | ⟨o, hb⟩ <;> rw [this] at hb <;> cases hb
        · exact rd_at (fun o ho => by rw [upd_ne z]; exact ho) hb
      exact ⟨rs, upd_other (Ne.symm nfg) q1, fun r hr => SqT.kt this (q2 r hr), q3⟩
    have Ff : FilesAt K (upd H4 f (.dK (filesKv ls))) f fs := ⟨ls, upd_same, fun r hr => SqT.kt kt35 (hl r hr), hfs⟩
    have ha5 := ha3.kt kt35
    generalize upd H4 f (.dK (filesKv ls)) = H5 at *
    have wn : (withoutF fs x.place).length ≤ 1000 := by have := List.length_filter_le (fun f : File => !decide (f.1 = x.place)) fs; unfold withoutF; omega
    have fin : ∀ {H6 : Hp} {p7 : Addr} {H7 : Hp} {p8 : Addr} {H8 : Hp}, Kp [] H H6 → FilesAt K H6 gd (laterF fs x) → New H6 p7 (.tup [.str "done"]) H7 → New H7 p8 (.lst [.ref p7, .ref gd]) H8 → Q (.ref p8) H8 := fun e F6 N7 N8 =>
      q _ _ gd _ _ ((e.trans N7.kp).trans N8.kp) N8.at_ (.tup (SqT.of (N8.keep N7.at_)) (.cons (.str _) .nil)) ((F6.kp N7.kp).kp N8.kp) gla rfl
    have putk : ∀ {H6 : Hp}, Kp [gd] H5 H6 → Kp [] H H6 := fun e => Kp.drop_fresh (k0.mono.trans e) ng
    cases x with
    | write p lns =>
      obtain ⟨l, ha, hl⟩ := ha5
      walk_at "dc"
      refine c_putF Fg wn hl fun H6 e6 kt6 F6 back => ?_
      rw [show withoutF fs (Action.write p lns).place = withoutF fs p from rfl, put_without] at F6
      have ha6 := SqT.kt kt6 ha
      walk_at "dc"
      walk_at "nw"
      intro p7 H7 N7
      walk_at "st"
      walk_at "nw"
      intro p8 H8 N8
      exact fin (putk e6) F6 N7 N8
    | remove p =>
      walk_at "dc"
      walk_at "nw"
      intro p7 H7 N7
      walk_at "st"
      walk_at "nw"
      intro p8 H8 N8
      exact fin k0 Fg N7 N8
    | move p t =>
      obtain ⟨lns, g1, g2⟩ := dn
      walk_at "dc"
      refine c_dgetR Ff.r g1 fun la hla => ?_
      walk_at "dc"
      refine c_putF Fg wn hla fun H6 e6 kt6 F6 back => ?_
      have F6 : FilesAt K H6 gd (laterF fs (.move p t)) := by
        rw [show withoutF fs (Action.move p t).place = withoutF fs p from rfl, put_with g2] at F6
        simp only [laterF, g1]
        exact F6
      have ha6 : ActAt K H6 a (.move p t) := ha5.kt kt6
      walk_at "dc"
      walk_at "nw"
      intro p7 H7 N7
      walk_at "st"
      walk_at "nw"
      intro p8 H8 N8
      exact fin (putk e6) F6 N7 N8
    | splice p old new =>
      obtain ⟨lns, i, g1, g2⟩ := dn
      obtain ⟨l, m, ha, hl, hm⟩ := ha5
      obtain ⟨ho, hn⟩ : isLinesS old = true ∧ isLinesS new = true := by
        simp only [Action.bad] at hb
        split at hb
        · split at hb
          · rename_i h2
            split at hb
            · rename_i h3
              rw [Bool.and_eq_true] at h2
              exact ⟨h2.1, h3⟩
            · cases hb
          · cases hb
        · cases hb
      obtain ⟨ol, oo⟩ := lines_len ho
      obtain ⟨nl, no⟩ := lines_len hn
      obtain ⟨ll, lo⟩ := lines_len (G.lines _ (at_mem g1))
      have ll : lns.length ≤ 12 := ll
      have hi := places_lt (xs := lns) (ys := old) (i := i) (by rw [g2]; exact List.mem_singleton.mpr rfl)
      walk_at "dc"
      refine c_dgetR Ff.r g1 fun la hla => ?_
      walk_at "dc"
      refine ⟨la, l, lns, old, rfl, hla, hl, fun y hy => plain_ok (lo y hy).2, fun y hy => plain_ok (oo y hy).2, by omega, by omega, fun pp H6 hpn e6 hpp => ?_⟩
      rw [g2] at hpp
      walk_at "dc"
      refine c_slT (SqT.kp e6 hla) fun a7 H7 e7 h7 => ?_
      walk_at "dc"
      refine c_ixT (SqT.kp (e6.trans e7) ha) rfl ?_
      walk_at "dc"
      have c1 : (cutL (lns.map V.str) none (some (i : Int))).length ≤ 12 := by
        unfold cutL
        rw [List.length_take, List.length_drop, List.length_map]
        omega
      refine c_addT h7 (SqT.kp (e6.trans e7) hm) (by rw [sizeLine_eq, List.length_map]; omega) fun a8 H8 e8 h8 => ?_
      walk_at "dc"
      refine c_ixT (SqT.kp ((e6.trans e7).trans e8) ha) rfl ?_
      walk_at "dc"
      refine c_lenT (SqT.kp ((e6.trans e7).trans e8) hl) ?_
      walk_at "dc"
      refine c_slT (SqT.kp ((e6.trans e7).trans e8) hla) fun a9 H9 e9 h9 => ?_
      walk_at "dc"
      have c2 : (cutL (lns.map V.str) (some ((i : Int) + ((old.map V.str).length : Int))) none).length ≤ 12 := by
        unfold cutL
        rw [List.length_take, List.length_drop, List.length_map]
        omega
      refine c_addT (SqT.kp e9 h8) h9 (by rw [sizeLine_eq, List.length_append, List.length_map]; omega) fun a10 H10 e10 h10 => ?_
      walk_at "dc"
      have k10 := (((e6.trans e7).trans e8).trans e9).trans e10
      refine c_ixT (SqT.kp k10 ha) rfl ?_
      have h10 : SqT K H10 a10 ((splicedL lns old new i).map V.str) := by
        rw [cutL_map, cutL_map, cutL_to (by omega) (by omega), List.length_map, cutL_from (by omega) (by omega)] at h10
        have e1 : ((i : Int) + (old.length : Int)).toNat = i + old.length := by omega
        rw [e1, Int.toNat_natCast] at h10
        unfold splicedL
        rw [List.map_append, List.map_append]
        exact h10
      refine c_putF (Fg.kp k10) wn h10 fun H11 e11 kt11 F11 back => ?_
      have F11 : FilesAt K H11 gd (laterF fs (.splice p old new)) := by
        rw [show withoutF fs (Action.splice p old new).place = withoutF fs p from rfl, put_without] at F11
        simp only [laterF, g1, Option.getD_some, g2]
        exact F11
      walk_at "dc"
      walk_at "nw"
      intro p12 H12 N12
      walk_at "st"
      walk_at "nw"
      intro p13 H13 N13
      exact fin (putk (k10.mono.trans e11)) F11 N12 N13
    | _ => cases hq
theorem D__law_act (T : TX K mg) : DefAt P w K mg base CX0 "_law_act" 5 ["_law_files_here", "_law_action_here"] (spLAct K) :=
  def_of T 29 49 sc__law_act bn__law_act (by walk_at "len") (b__law_act T)
end
end K61




namespace K61
open PySem L2 Sa
local macro_rules | `(tactic| walk_at "s1") => `(tactic| first | (with_reducible apply c_dgetK))
local macro_rules | `(tactic| walk_at "s1") => `(tactic| (with_reducible apply c_raiseO))
/-! ## actions as data; journals -/
def Action.d : Action → PyData
  | .read p => .tuple [.str "read", .str p]
  | .kind z => .tuple [.str "kind", .str z]
  | .list z => .tuple [.str "list", .str z]
  | .find z w => .tuple [.str "find", .str z, .str w]
  | .count z => .tuple [.str "count", .str z]
  | .write p ls => .tuple [.str "write", .str p, strsD ls]
  | .remove p => .tuple [.str "remove", .str p]
  | .move p t => .tuple [.str "move", .str p, .str t]
  | .splice p old new => .tuple [.str "splice", .str p, strsD old, strsD new]
theorem ActAt.dt {K : PySem.W.Frag} {H : Hp} {a : Addr} {x : Action} (h : ActAt K H a x) : Dt K H (.ref a) x.d := by
  cases x with
  | write p ls => obtain ⟨l, h1, h2⟩ := h; exact .tup h1 (.cons (.str _) (.cons (.str _) (.cons (dt_strs h2) .nil)))
  | splice p old new => obtain ⟨l, m, h1, h2, h3⟩ := h; exact .tup h1 (.cons (.str _) (.cons (.str _) (.cons (dt_strs h2) (.cons (dt_strs h3) .nil))))
  | find z w => exact .tup h (.cons (.str _) (.cons (.str _) (.cons (.str _) .nil)))
  | move z w => exact .tup h (.cons (.str _) (.cons (.str _) (.cons (.str _) .nil)))
  | _ => exact .tup h (.cons (.str _) (.cons (.str _) .nil))
theorem dta_one {K : PySem.W.Frag} {H : Hp} {xs : List V} {s : Str} {ds : List PyData} (h : DtAll K H xs (.str s :: ds)) : ∃ vs, xs = .str s :: vs ∧ DtAll K H vs ds := by
  obtain ⟨v, vs, rfl, h1, h2⟩ := dta_cons h
  rw [dt_str h1]
  exact ⟨vs, rfl, h2⟩
theorem dta_strsD {K : PySem.W.Frag} {H : Hp} {xs : List V} {ys : List Str} {ds : List PyData} (h : DtAll K H xs (strsD ys :: ds)) : ∃ l vs, xs = .ref l :: vs ∧ SqT K H l (ys.map V.str) ∧ DtAll K H vs ds := by
  obtain ⟨v, vs, rfl, h1, h2⟩ := dta_cons h
  obtain ⟨l, rfl, h3⟩ := strsD_of h1
  exact ⟨l, vs, rfl, h3, h2⟩
theorem two_inv {K : PySem.W.Frag} {H : Hp} {v : V} {s z : Str} (h : Dt K H v (.tuple [.str s, .str z])) : ∃ a, v = .ref a ∧ SqT K H a [.str s, .str z] := by
  obtain ⟨a, xs, e, h1, h2⟩ := dt_tup h
  obtain ⟨ys, e2, h3⟩ := dta_one h2
  obtain ⟨zs, e3, h4⟩ := dta_one h3
  have e4 := dta_nil h4
  rw [e4] at e3
  rw [e3] at e2
  rw [e2] at h1
  exact ⟨a, e, h1⟩
theorem three_inv {K : PySem.W.Frag} {H : Hp} {v : V} {s z w : Str} (h : Dt K H v (.tuple [.str s, .str z, .str w])) : ∃ a, v = .ref a ∧ SqT K H a [.str s, .str z, .str w] := by
  obtain ⟨a, xs, e, h1, h2⟩ := dt_tup h
  obtain ⟨ys, e2, h3⟩ := dta_one h2
  obtain ⟨zs, e3, h4⟩ := dta_one h3
  obtain ⟨us, e4, h5⟩ := dta_one h4
  have e5 := dta_nil h5
  rw [e5] at e4
  rw [e4] at e3
  rw [e3] at e2
  rw [e2] at h1
  exact ⟨a, e, h1⟩
theorem ActAt.of {K : PySem.W.Frag} {H : Hp} {v : V} {x : Action} (h : Dt K H v x.d) : ∃ a, v = .ref a ∧ ActAt K H a x := by
  cases x with
  | write p ls =>
    obtain ⟨a, xs, e, h1, h2⟩ := dt_tup h
    obtain ⟨ys, e2, h3⟩ := dta_one h2
    obtain ⟨zs, e3, h4⟩ := dta_one h3
    obtain ⟨l, us, e4, g1, h5⟩ := dta_strsD h4
    have e5 := dta_nil h5
    rw [e5] at e4
    rw [e4] at e3
    rw [e3] at e2
    rw [e2] at h1
    exact ⟨a, e, l, h1, g1⟩
  | splice p old new =>
    obtain ⟨a, xs, e, h1, h2⟩ := dt_tup h
    obtain ⟨ys, e2, h3⟩ := dta_one h2
    obtain ⟨zs, e3, h4⟩ := dta_one h3
    obtain ⟨l, us, e4, g1, h5⟩ := dta_strsD h4
    obtain ⟨m, ws, e5, g2, h6⟩ := dta_strsD h5
    have e6 := dta_nil h6
    rw [e6] at e5
    rw [e5] at e4
    rw [e4] at e3
    rw [e3] at e2
    rw [e2] at h1
    exact ⟨a, e, l, m, h1, g1, g2⟩
  | find z w => exact three_inv h
  | move z w => exact three_inv h
  | _ => exact two_inv h
theorem ActAt.of_ref {K : PySem.W.Frag} {H : Hp} {a : Addr} {x : Action} (h : Dt K H (.ref a) x.d) : ActAt K H a x := by
  obtain ⟨b, e, h⟩ := ActAt.of h
  injection e with e
  subst e
  exact h
theorem fit_str {z : Str} {w : Nat} (h : okS z = true) (hl : z.length ≤ w) (hw : w ≤ 252) : Fit 1 252 (.str z) := (Fit.str h hl).mono (by omega) hw
theorem place_ok {z : Str} (h : isPlaceS z = true) : okS z = true := by
  unfold isPlaceS at h
  rw [Bool.or_eq_true, decide_eq_true_eq] at h
  rcases h with rfl | h
  · decide +kernel
  · exact path_ok h
theorem word_ok {z : Str} (h : isWordS z = true) : okS z = true := by
  unfold isWordS at h
  simp only [Bool.and_eq_true] at h
  exact plain_ok h.2
theorem fit_lns {ls : List Str} (h : isLinesS ls = true) : Fit 1 252 (strsD ls) := by
  obtain ⟨l1, l2⟩ := lines_len h
  exact Fit.strs (w := 20) (m := 12) (fun y hy => ⟨plain_ok (l2 y hy).2, (l2 y hy).1⟩) l1
theorem fit_list {ds : List PyData} (h : ∀ d ∈ ds, Fit 1 252 d) (hl : ds.length ≤ 4) : Fit 2 1012 (.tuple ds) := Fit.tup h hl
theorem kw_ok : ∀ z ∈ (["read", "kind", "list", "find", "count", "write", "remove", "move", "splice"] : List Str), okS z = true ∧ z.length ≤ 6 := by decide +kernel
theorem fit_kw (z : Str) (h : z ∈ (["read", "kind", "list", "find", "count", "write", "remove", "move", "splice"] : List Str)) : Fit 1 252 (.str z) := fit_str (kw_ok z h).1 (kw_ok z h).2 (by omega)
theorem fit_action {x : Action} (h : x.bad = none) : Fit 2 1012 x.d := by
  have pth : ∀ {p : Str}, isPathS p = true → Fit 1 252 (.str p) := fun hp => fit_str (path_ok hp) (path_len hp) (by omega)
  have plc : ∀ {p : Str}, isPlaceS p = true → Fit 1 252 (.str p) := fun hp => fit_str (place_ok hp) (place_len hp) (by omega)
  have wrd : ∀ {p : Str}, isWordS p = true → Fit 1 252 (.str p) := fun hp => fit_str (word_ok hp) (word_len hp) (by omega)
  have two : ∀ {a b : PyData}, Fit 1 252 a → Fit 1 252 b → Fit 2 1012 (.tuple [a, b]) := fun ha hb => fit_list (fun d hd => by
    simp only [List.mem_cons, List.not_mem_nil, or_false] at hd
    rcases hd with rfl | rfl <;> assumption) (by simp)
  have three : ∀ {a b c : PyData}, Fit 1 252 a → Fit 1 252 b → Fit 1 252 c → Fit 2 1012 (.tuple [a, b, c]) := fun ha hb hc => fit_list (fun d hd => by
    simp only [List.mem_cons, List.not_mem_nil, or_false] at hd
    rcases hd with rfl | rfl | rfl <;> assumption) (by simp)
  cases x with
  | read p => simp only [Action.bad] at h; split at h; exact two (fit_kw _ (by decide +kernel)) (pth ‹_›); cases h
  | kind p => simp only [Action.bad] at h; split at h; exact two (fit_kw _ (by decide +kernel)) (plc ‹_›); cases h
  | list p => simp only [Action.bad] at h; split at h; exact two (fit_kw _ (by decide +kernel)) (plc ‹_›); cases h
  | count p => simp only [Action.bad] at h; split at h; exact two (fit_kw _ (by decide +kernel)) (plc ‹_›); cases h
  | remove p => simp only [Action.bad] at h; split at h; exact two (fit_kw _ (by decide +kernel)) (pth ‹_›); cases h
  | find p w =>
    simp only [Action.bad] at h
    split at h
    · split at h
      · exact three (fit_kw _ (by decide +kernel)) (plc ‹_›) (wrd ‹_›)
      · cases h
    · cases h
  | move p t =>
    simp only [Action.bad] at h
    split at h
    · split at h
      · exact three (fit_kw _ (by decide +kernel)) (pth ‹_›) (pth ‹_›)
      · cases h
    · cases h
  | write p ls =>
    simp only [Action.bad] at h
    split at h
    · split at h
      · exact three (fit_kw _ (by decide +kernel)) (pth ‹_›) (fit_lns ‹_›)
      · cases h
    · cases h
  | splice p old new =>
    simp only [Action.bad] at h
    split at h
    · split at h
      · split at h
        · rename_i h1 h2 h3
          rw [Bool.and_eq_true] at h2
          exact fit_list (fun d hd => by
            simp only [List.mem_cons, List.not_mem_nil, or_false] at hd
            rcases hd with rfl | rfl | rfl | rfl
            · exact fit_kw _ (by decide +kernel)
            · exact pth h1
            · exact fit_lns h2.1
            · exact fit_lns h3) (by simp)
        · cases h
      · cases h
    · cases h
end K61



namespace K61
open PySem L2 Sa
local macro_rules | `(tactic| walk_at "s1") => `(tactic| first | (with_reducible apply c_dgetK))
local macro_rules | `(tactic| walk_at "s1") => `(tactic| (with_reducible apply c_raiseO))
abbrev Entry := Action × PyData
def entryD (e : Entry) : PyData := .tuple [e.1.d, e.2]
def jourD (js : List Entry) : PyData := .tuple (js.map entryD)
/-- an entry within its bounds -/
structure EntOk (e : Entry) : Prop where
  act : e.1.bad = none
  ans : Fit 3 30000 e.2
theorem fit_entry {e : Entry} (h : EntOk e) : Fit 4 60002 (entryD e) :=
  (Fit.tup (n := 3) (w := 30000) (m := 2) (fun d hd => by
    simp only [List.mem_cons, List.not_mem_nil, or_false] at hd
    rcases hd with rfl | rfl
    · exact (fit_action h.act).mono (by omega) (by omega)
    · exact h.ans) (by simp)).mono (by omega) (by omega)
theorem fit_entry' {e : Entry} (h : EntOk e) : Fit 4 31014 (entryD e) := by
  have g := (FitAll.cons ((fit_action h.act).mono (by omega : 2 ≤ 3) (Nat.le_refl _)) (FitAll.cons h.ans FitAll.nil)).tup
  exact g.mono (by omega) (by omega)
theorem fit_jour {js : List Entry} {m : Nat} (h : ∀ e ∈ js, EntOk e) (hl : js.length ≤ m) : Fit 5 (31015 * m) (jourD js) :=
  (Fit.tup (n := 4) (w := 31014) (m := m) (fun d hd => by obtain ⟨e, he, rfl⟩ := List.mem_map.mp hd; exact fit_entry' (h e he)) (by rw [List.length_map]; exact hl)).mono (by omega) (by omega)
/-! the plain model -/
def stepJ (s : List Entry × List File) (x : Action) : List Entry × List File := (s.1 ++ [(x, (actF s.2 x).1)], (actF s.2 x).2)
def runF (fs : List File) (xs : List Action) : List Entry × List File := xs.foldl stepJ ([], fs)
def leadF (fs : List File) (xs : List Action) : List File := xs.foldl (fun fs x => (actF fs x).2) fs
theorem run_snoc (fs : List File) (xs : List Action) (x : Action) : runF fs (xs ++ [x]) = stepJ (runF fs xs) x := by unfold runF; rw [List.foldl_append]; rfl
theorem lead_snoc (fs : List File) (xs : List Action) (x : Action) : leadF fs (xs ++ [x]) = (actF (leadF fs xs) x).2 := by unfold leadF; rw [List.foldl_append]; rfl
theorem run_two : ∀ (xs : List Action) (s : List Entry × List File), (xs.foldl stepJ s).2 = xs.foldl (fun fs x => (actF fs x).2) s.2 ∧ (xs.foldl stepJ s).1.length = s.1.length + xs.length ∧ (xs.foldl stepJ s).1.map Prod.fst = s.1.map Prod.fst ++ xs
  | [], s => ⟨rfl, rfl, by simp⟩
  | x :: r, s => by
    obtain ⟨h1, h2, h3⟩ := run_two r (stepJ s x)
    refine ⟨h1, ?_, ?_⟩
    · rw [List.foldl_cons, h2]; unfold stepJ; simp only [List.length_append, List.length_cons, List.length_nil]; omega
    · rw [List.foldl_cons, h3]; unfold stepJ; simp
theorem run_lead (fs : List File) (xs : List Action) : (runF fs xs).2 = leadF fs xs := (run_two xs _).1
theorem run_len (fs : List File) (xs : List Action) : (runF fs xs).1.length = xs.length := by have := (run_two xs ([], fs)).2.1; simpa [runF] using this
theorem run_acts (fs : List File) (xs : List Action) : (runF fs xs).1.map Prod.fst = xs := by have := (run_two xs ([], fs)).2.2; simpa [runF] using this
theorem run_ok : ∀ (xs : List Action) (s : List Entry × List File), (∀ x ∈ xs, x.bad = none) → GoodP s.2 → (∀ e ∈ s.1, EntOk e) → (∀ e ∈ (xs.foldl stepJ s).1, EntOk e) ∧ GoodP (xs.foldl stepJ s).2
  | [], s, _, hg, he => ⟨he, hg⟩
  | x :: r, s, hx, hg, he => by
    have hb := hx x (List.mem_cons_self ..)
    refine run_ok r (stepJ s x) (fun y hy => hx y (List.mem_cons_of_mem _ hy)) (hg.act hb) fun e h => ?_
    rcases List.mem_append.mp h with h | h
    · exact he e h
    · rw [List.mem_singleton.mp h]; exact ⟨hb, fit_act hg x⟩
theorem runF_ok {fs : List File} (G : GoodP fs) {xs : List Action} (h : ∀ x ∈ xs, x.bad = none) : (∀ e ∈ (runF fs xs).1, EntOk e) ∧ GoodP (runF fs xs).2 := run_ok xs ([], fs) h G (by simp)
theorem lead_good {fs : List File} (G : GoodP fs) {xs : List Action} (h : ∀ x ∈ xs, x.bad = none) : GoodP (leadF fs xs) := by rw [← run_lead]; exact (runF_ok G h).2
/-- the first entry that has another answer -/
def changeF : Nat → List File → List Entry → Option (Nat × PyData)
  | _, _, [] => none
  | i, fs, e :: r => if PyData.eqv (actF fs e.1).1 e.2 = true then changeF (i + 1) (actF fs e.1).2 r else some (i, (actF fs e.1).1)
def changeD : Option (Nat × PyData) → PyData
  | none => .none
  | some (i, d) => .tuple [.int (i : Nat), d]
theorem change_step {fs : List File} {js : List Entry} {i : Nat} {e : Entry} (h : js[i]? = some e) : changeF i fs (js.drop i) = if PyData.eqv (actF fs e.1).1 e.2 = true then changeF (i + 1) (actF fs e.1).2 (js.drop (i + 1)) else some (i, (actF fs e.1).1) := by
  have hi : i < js.length := (List.getElem?_eq_some_iff.mp h).1
  have e2 : js[i] = e := (List.getElem?_eq_some_iff.mp h).2
  rw [List.drop_eq_getElem_cons hi, e2]
  rfl
theorem change_fit : ∀ (js : List Entry) (fs : List File) (i : Nat), GoodP fs → (∀ e ∈ js, EntOk e) → i + js.length < 1000 → Fit 4 30100 (changeD (changeF i fs js))
  | [], fs, i, _, _, _ => Fit.none.mono (by omega) (by omega)
  | e :: r, fs, i, G, h, hl => by
    have he := h e (List.mem_cons_self ..)
    unfold changeF
    split
    · exact change_fit r _ (i + 1) (G.act he.act) (fun y hy => h y (List.mem_cons_of_mem _ hy)) (by rw [List.length_cons] at hl; omega)
    · have g := (FitAll.cons ((Fit.nat (n := i) (by omega)).mono (by omega : 0 ≤ 3) (Nat.le_refl _)) (FitAll.cons (fit_act G e.1) FitAll.nil)).tup
      exact g.mono (by omega) (by omega)
section
variable {K : PySem.W.Frag} {H : Hp} {Q : VK}
theorem dta_acts {K : PySem.W.Frag} {H : Hp} : ∀ {xs : List Action} {vs : List V}, DtAll K H vs (xs.map Action.d) → ∃ as : List Addr, vs = as.map V.ref ∧ as.length = xs.length ∧ ∀ (i : Nat) (x : Action), xs[i]? = some x → ∃ a, as[i]? = some a ∧ ActAt K H a x
  | [], vs, h => ⟨[], dta_nil h, rfl, by simp⟩
  | x :: r, vs, h => by
    obtain ⟨v, ws, rfl, h1, h2⟩ := dta_cons h
    obtain ⟨a, rfl, h3⟩ := ActAt.of h1
    obtain ⟨as, rfl, hl, h4⟩ := dta_acts h2
    refine ⟨a :: as, rfl, by rw [List.length_cons, List.length_cons, hl], fun i y hy => ?_⟩
    cases i with
    | zero => simp at hy; subst hy; exact ⟨a, rfl, h3⟩
    | succ i => exact h4 i y hy
/-- the entry at a place -/
theorem ent_at {K : PySem.W.Frag} {H : Hp} {js : List Entry} {vs : List V} {i : Nat} {e : Entry} (h : DtAll K H vs (js.map entryD)) (he : js[i]? = some e) : ∃ p a v, vs[i]? = some (.ref p) ∧ SqT K H p [.ref a, v] ∧ ActAt K H a e.1 ∧ Dt K H v e.2 := by
  obtain ⟨v, h1, h2⟩ := dta_get h (show (js.map entryD)[i]? = some (entryD e) by rw [List.getElem?_map, he]; rfl)
  obtain ⟨p, xs, rfl, h3, h4⟩ := dt_tup h2
  obtain ⟨u, us, rfl, h5, h6⟩ := dta_cons h4
  obtain ⟨a, rfl, h7⟩ := ActAt.of h5
  obtain ⟨u2, us2, rfl, h8, h9⟩ := dta_cons h6
  rw [dta_nil h9] at h3
  exact ⟨p, a, u2, h1, h3, h7, h8⟩
end
end K61



namespace K61
open PySem L2 Sa
local macro_rules | `(tactic| walk_at "s1") => `(tactic| first | (with_reducible apply c_dgetK))
local macro_rules | `(tactic| walk_at "s1") => `(tactic| (with_reducible apply c_raiseO))
/-! ## rows of agents and checks -/
structure Case where
  ans : PyData
  next : Nat
inductive Row where
  | fin (w : Str)
  | act (w : Str) (x : Action) (cs : List Case) (o : Nat)
def caseD (c : Case) : PyData := .tuple [c.ans, .int (c.next : Nat)]
def Row.d : Row → PyData
  | .fin w => .tuple [.str w]
  | .act w x cs o => .tuple [.str w, x.d, .tuple (cs.map caseD), .int (o : Nat)]
def agD (rs : List Row) : PyData := .tuple (rs.map Row.d)
def stepC : List Case → Nat → PyData → Nat
  | [], o, _ => o
  | c :: r, o, a => if PyData.eqv c.ans a = true then c.next else stepC r o a
theorem stepC_drop {cs : List Case} {o : Nat} {a : PyData} {i : Nat} {c : Case} (h : cs[i]? = some c) : stepC (cs.drop i) o a = if PyData.eqv c.ans a = true then c.next else stepC (cs.drop (i + 1)) o a := by
  have hi : i < cs.length := (List.getElem?_eq_some_iff.mp h).1
  have e2 : cs[i] = c := (List.getElem?_eq_some_iff.mp h).2
  rw [List.drop_eq_getElem_cons hi, e2]
  rfl
structure RowOkA (many at_ : Nat) (q : Action → Bool) (cs : List Case) (x : Action) (o : Nat) : Prop where
  act : x.bad = none
  kind : q x = true
  ans : ∀ c ∈ cs, Fit 3 30000 c.ans
  nxt : ∀ c ∈ cs, at_ < c.next ∧ c.next < many
  oth : at_ < o ∧ o < many
  few : cs.length ≤ 6
structure RowsOk (w : Str) (fw : Str → Bool) (q : Action → Bool) (rs : List Row) : Prop where
  row : ∀ (i : Nat) (v : Str) (x : Action) (cs : List Case) (o : Nat), rs[i]? = some (.act v x cs o) → v = w ∧ RowOkA rs.length i q cs x o
  fin : ∀ (i : Nat) (v : Str), rs[i]? = some (.fin v) → fw v = true
  some_ : 0 < rs.length
  few : rs.length ≤ 24
theorem stepC_mem {many at_ o : Nat} {x : Action} {cs : List Case} {q : Action → Bool} (h : RowOkA many at_ q cs x o) (a : PyData) : at_ < stepC cs o a ∧ stepC cs o a < many := by
  have g : ∀ r : List Case, (∀ c ∈ r, c ∈ cs) → at_ < stepC r o a ∧ stepC r o a < many := by
    intro r
    induction r with
    | nil => intro _; exact h.oth
    | cons c r ih =>
      intro hr
      unfold stepC
      split
      · exact h.nxt c (hr c (List.mem_cons_self ..))
      · exact ih fun c hc => hr c (List.mem_cons_of_mem _ hc)
  exact g cs fun c hc => hc
/-! the walk -/
abbrev WSt := Nat × List Entry × List File
def wstep (rs : List Row) (s : WSt) : WSt := match rs[s.1]? with
  | some (.act _ x cs o) => (stepC cs o (actF s.2.2 x).1, s.2.1 ++ [(x, (actF s.2.2 x).1)], (actF s.2.2 x).2)
  | _ => s
def walkN (rs : List Row) (fs : List File) : Nat → WSt
  | 0 => (0, [], fs)
  | n + 1 => wstep rs (walkN rs fs n)
def isAct (rs : List Row) (i : Nat) : Bool := match rs[i]? with
  | some (.act _ _ _ _) => true
  | _ => false
theorem wstep_fin {rs : List Row} {s : WSt} (h : isAct rs s.1 = false) : wstep rs s = s := by
  unfold wstep
  unfold isAct at h
  split
  · rename_i e
    rw [e] at h
    cases h
  · rfl
theorem walk_stay {rs : List Row} {fs : List File} {n : Nat} (h : isAct rs (walkN rs fs n).1 = false) : ∀ k, walkN rs fs (n + k) = walkN rs fs n
  | 0 => rfl
  | k + 1 => by
    show wstep rs (walkN rs fs (n + k)) = _
    rw [walk_stay h k, wstep_fin h]
structure WOk (rs : List Row) (s : WSt) (n : Nat) : Prop where
  in_ : s.1 < rs.length
  ent : ∀ e ∈ s.2.1, EntOk e
  len : s.2.1.length ≤ n
  good : GoodP s.2.2
theorem walk_ok {rs : List Row} {w : Str} {fw : Str → Bool} {q : Action → Bool} {fs : List File} (R : RowsOk w fw q rs) (G : GoodP fs) : ∀ n, WOk rs (walkN rs fs n) n
  | 0 => ⟨R.some_, fun e he => (by cases he), Nat.le_refl _, G⟩
  | n + 1 => by
    have ih := walk_ok R G n
    show WOk rs (wstep rs (walkN rs fs n)) (n + 1)
    unfold wstep
    split
    · rename_i v x cs o e
      obtain ⟨rfl, ok⟩ := R.row _ _ _ _ _ e
      refine ⟨(stepC_mem ok _).2, fun en he => ?_, ?_, ih.good.act ok.act⟩
      · rcases List.mem_append.mp he with he | he
        · exact ih.ent en he
        · rw [List.mem_singleton.mp he]; exact ⟨ok.act, fit_act ih.good x⟩
      · show ((walkN rs fs n).2.1 ++ [(x, (actF (walkN rs fs n).2.2 x).1)]).length ≤ n + 1
        rw [List.length_append, List.length_singleton]
        have := ih.len
        omega
    · exact ⟨ih.in_, ih.ent, Nat.le_succ_of_le ih.len, ih.good⟩
/-- each turn that acts goes further -/
theorem walk_far {rs : List Row} {w : Str} {fw : Str → Bool} {q : Action → Bool} {fs : List File} (R : RowsOk w fw q rs) : ∀ n, (∀ k < n, isAct rs (walkN rs fs k).1 = true) → n ≤ (walkN rs fs n).1 ∧ (walkN rs fs n).2.1.length = n
  | 0, _ => ⟨Nat.zero_le _, rfl⟩
  | n + 1, h => by
    obtain ⟨h1, h2⟩ := walk_far R n fun k hk => h k (by omega)
    have ha := h n (by omega)
    show n + 1 ≤ (wstep rs (walkN rs fs n)).1 ∧ (wstep rs (walkN rs fs n)).2.1.length = n + 1
    unfold isAct at ha
    unfold wstep
    split
    · rename_i v x cs o e
      obtain ⟨rfl, ok⟩ := R.row _ _ _ _ _ e
      have := (stepC_mem ok (actF (walkN rs fs n).2.2 x).1).1
      refine ⟨by show n + 1 ≤ stepC cs o _; omega, ?_⟩
      show ((walkN rs fs n).2.1 ++ [(x, (actF (walkN rs fs n).2.2 x).1)]).length = n + 1
      rw [List.length_append, List.length_singleton, h2]
    · rename_i hne
      split at ha
      · rename_i v x cs o e
        exact absurd e (hne v x cs o)
      · cases ha
theorem walk_end {rs : List Row} {w : Str} {fw : Str → Bool} {q : Action → Bool} {fs : List File} (R : RowsOk w fw q rs) (G : GoodP fs) : ∃ m, m < rs.length ∧ (∀ k < m, isAct rs (walkN rs fs k).1 = true) ∧ isAct rs (walkN rs fs m).1 = false := by
  have : ∃ n, isAct rs (walkN rs fs n).1 = false := by
    by_cases h : ∃ n, n ≤ rs.length ∧ isAct rs (walkN rs fs n).1 = false
    · obtain ⟨n, _, h⟩ := h
      exact ⟨n, h⟩
    · exfalso
      have ha : ∀ k < rs.length, isAct rs (walkN rs fs k).1 = true := fun k hk => by
        cases hz : isAct rs (walkN rs fs k).1 with
        | true => rfl
        | false => exact absurd ⟨k, by omega, hz⟩ h
      have h1 := (walk_far (fs := fs) R rs.length ha).1
      have h2 := (walk_ok R G rs.length).in_
      omega
  have hm : ∃ m, (∀ k < m, isAct rs (walkN rs fs k).1 = true) ∧ isAct rs (walkN rs fs m).1 = false := by
    obtain ⟨n, hn⟩ := this
    induction n using Nat.strongRecOn with
    | ind n ih =>
      by_cases h : ∃ k, k < n ∧ isAct rs (walkN rs fs k).1 = false
      · obtain ⟨k, hk, hz⟩ := h
        exact ih k hk hz
      · refine ⟨n, fun k hk => ?_, hn⟩
        cases hz : isAct rs (walkN rs fs k).1 with
        | true => rfl
        | false => exact absurd ⟨k, hk, hz⟩ h
  obtain ⟨m, h1, h2⟩ := hm
  have h3 := (walk_far (fs := fs) R m h1).1
  have h4 := (walk_ok R G m).in_
  exact ⟨m, by omega, h1, h2⟩
theorem walk_pre {rs : List Row} {fs : List File} {m : Nat} (hl : ∀ n ≤ m, (walkN rs fs n).2.1.length = n) : ∀ n k, n + k ≤ m → (walkN rs fs (n + k)).2.1.take n = (walkN rs fs n).2.1
  | n, 0, h => by rw [Nat.add_zero, List.take_of_length_le (by rw [hl n (by omega)]; exact Nat.le_refl _)]
  | n, k + 1, h => by
    have ih := walk_pre hl n k (by omega)
    have h1 := hl (n + k) (by omega)
    have h2 := hl (n + (k + 1)) h
    rw [← ih]
    have : walkN rs fs (n + (k + 1)) = wstep rs (walkN rs fs (n + k)) := rfl
    rw [this] at h2 ⊢
    unfold wstep at h2 ⊢
    split
    · show ((walkN rs fs (n + k)).2.1 ++ _).take n = _
      rw [List.take_append_of_le_length (by omega)]
    · rfl
def walkF (rs : List Row) (fs : List File) : WSt := walkN rs fs 24
theorem walkF_at {rs : List Row} {w : Str} {fw : Str → Bool} {q : Action → Bool} {fs : List File} (R : RowsOk w fw q rs) (G : GoodP fs) {n : Nat} (hn : n ≤ 24) (h : isAct rs (walkN rs fs n).1 = false) : walkF rs fs = walkN rs fs n := by
  have := walk_stay h (24 - n)
  rw [show n + (24 - n) = 24 by omega] at this
  exact this
theorem walkF_fin {rs : List Row} {w : Str} {fw : Str → Bool} {q : Action → Bool} {fs : List File} (R : RowsOk w fw q rs) (G : GoodP fs) : ∃ v, rs[(walkF rs fs).1]? = some (.fin v) ∧ fw v = true := by
  obtain ⟨m, h1, h2, h3⟩ := walk_end (fs := fs) R G
  have hf := R.few
  rw [walkF_at R G (by omega) h3]
  have hi := (walk_ok R G m).in_
  cases hz : rs[(walkN rs fs m).1]? with
  | none => rw [List.getElem?_eq_none_iff] at hz; omega
  | some r =>
    cases r with
    | fin v => exact ⟨v, rfl, R.fin _ _ hz⟩
    | act v x cs o => unfold isAct at h3; rw [hz] at h3; cases h3
/-- behind a journal -/
def afterF (rs : List Row) : Nat → List Entry → Option Nat
  | at_, [] => some at_
  | at_, e :: r => match rs[at_]? with
    | some (.act _ x cs o) => if PyData.eqv x.d e.1.d = true then afterF rs (stepC cs o e.2) r else none
    | _ => none
theorem after_step {rs : List Row} {at_ : Nat} {js : List Entry} {i : Nat} {e : Entry} (h : js[i]? = some e) : afterF rs at_ (js.drop i) = (match rs[at_]? with
    | some (.act _ x cs o) => if PyData.eqv x.d e.1.d = true then afterF rs (stepC cs o e.2) (js.drop (i + 1)) else none
    | _ => none) := by
  have hi : i < js.length := (List.getElem?_eq_some_iff.mp h).1
  have e2 : js[i] = e := (List.getElem?_eq_some_iff.mp h).2
  rw [List.drop_eq_getElem_cons hi, e2]
  rfl
theorem eqv_act {x : Action} (h : x.bad = none) : PyData.eqv x.d x.d = true := PySem.SeqAt.eqv_refl _ (fit_action h).lay
/-- behind the first k entries of an agent's own journal -/
theorem after_app {rs : List Row} : ∀ (js ks : List Entry) (a : Nat), afterF rs a (js ++ ks) = (afterF rs a js).bind fun b => afterF rs b ks
  | [], ks, a => rfl
  | e :: r, ks, a => by
    have h1 : ∀ l, afterF rs a (e :: l) = (match rs[a]? with
      | some (.act _ x cs o) => if PyData.eqv x.d e.1.d = true then afterF rs (stepC cs o e.2) l else none
      | _ => none) := fun l => rfl
    rw [List.cons_append, h1, h1]
    split
    · split
      · exact after_app r ks _
      · rfl
    · rfl
theorem after_own {rs : List Row} {w : Str} {fw : Str → Bool} {q : Action → Bool} {fs : List File} (R : RowsOk w fw q rs) (G : GoodP fs) : ∀ n, (∀ k < n, isAct rs (walkN rs fs k).1 = true) → afterF rs 0 (walkN rs fs n).2.1 = some (walkN rs fs n).1
  | 0, _ => rfl
  | n + 1, h => by
    have ih := after_own R G n fun k hk => h k (by omega)
    have ha := h n (by omega)
    show afterF rs 0 (wstep rs (walkN rs fs n)).2.1 = some (wstep rs (walkN rs fs n)).1
    unfold isAct at ha
    unfold wstep
    split
    · rename_i v x cs o e
      obtain ⟨_, ok⟩ := R.row _ _ _ _ _ e
      show afterF rs 0 ((walkN rs fs n).2.1 ++ [(x, (actF (walkN rs fs n).2.2 x).1)]) = _
      rw [after_app, ih]
      show (match rs[(walkN rs fs n).1]? with
        | some (.act _ y ds p) => if PyData.eqv y.d x.d = true then afterF rs (stepC ds p (actF (walkN rs fs n).2.2 x).1) [] else none
        | _ => none) = _
      rw [e]
      simp only [eqv_act ok.act, if_true]
      rfl
    · rename_i hne
      split at ha
      · rename_i v x cs o e
        exact absurd e (hne v x cs o)
      · cases ha
/-! in the heap -/
section
variable {K : PySem.W.Frag} {H : Hp}
theorem row_act {v : V} {w : Str} {x : Action} {cs : List Case} {o : Nat} (h : Dt K H v (Row.act w x cs o).d) : ∃ p a c, v = .ref p ∧ SqT K H p [.str w, .ref a, .ref c, .int (o : Nat)] ∧ ActAt K H a x ∧ Dt K H (.ref c) (.tuple (cs.map caseD)) := by
  obtain ⟨p, xs, rfl, h1, h2⟩ := dt_tup h
  obtain ⟨us, rfl, h3⟩ := dta_one h2
  obtain ⟨u, vs, rfl, h4, h5⟩ := dta_cons h3
  obtain ⟨a, rfl, ha⟩ := ActAt.of h4
  obtain ⟨u2, vs2, rfl, h6, h7⟩ := dta_cons h5
  obtain ⟨c, ys, rfl, _, _⟩ := dt_tup h6
  obtain ⟨u3, vs3, rfl, h8, h9⟩ := dta_cons h7
  rw [dt_int h8, dta_nil h9] at h1
  exact ⟨p, a, c, rfl, h1, ha, h6⟩
theorem row_fin {v : V} {w : Str} (h : Dt K H v (Row.fin w).d) : ∃ p, v = .ref p ∧ SqT K H p [.str w] := by
  obtain ⟨p, xs, rfl, h1, h2⟩ := dt_tup h
  obtain ⟨us, rfl, h3⟩ := dta_one h2
  rw [dta_nil h3] at h1
  exact ⟨p, rfl, h1⟩
theorem case_at {vs : List V} {cs : List Case} {i : Nat} {c : Case} (h : DtAll K H vs (cs.map caseD)) (hc : cs[i]? = some c) : ∃ p u, vs[i]? = some (.ref p) ∧ SqT K H p [u, .int (c.next : Nat)] ∧ Dt K H u c.ans := by
  obtain ⟨v, h1, h2⟩ := dta_get h (show (cs.map caseD)[i]? = some (caseD c) by rw [List.getElem?_map, hc]; rfl)
  obtain ⟨p, xs, rfl, h3, h4⟩ := dt_tup h2
  obtain ⟨u, us, rfl, h5, h6⟩ := dta_cons h4
  obtain ⟨u2, us2, rfl, h7, h8⟩ := dta_cons h6
  rw [dt_int h7, dta_nil h8] at h3
  exact ⟨p, u, h1, h3, h5⟩
theorem rows_at {v : V} {rs : List Row} (h : Dt K H v (agD rs)) : ∃ a vs, v = .ref a ∧ SqT K H a vs ∧ DtAll K H vs (rs.map Row.d) ∧ vs.length = rs.length := by
  obtain ⟨a, vs, e, h1, h2⟩ := dt_tup h
  exact ⟨a, vs, e, h1, h2, by rw [dta_len h2, List.length_map]⟩
theorem row_at {vs : List V} {rs : List Row} {i : Nat} {r : Row} (h : DtAll K H vs (rs.map Row.d)) (hr : rs[i]? = some r) : ∃ u, vs[i]? = some u ∧ Dt K H u r.d := dta_get h (show (rs.map Row.d)[i]? = some r.d by rw [List.getElem?_map, hr]; rfl)
end
/-! sizes -/
theorem fit_case {c : Case} (h : Fit 3 30000 c.ans) (hn : c.next < 1000) : Fit 4 31000 (caseD c) := by
  have g := (FitAll.cons h (FitAll.cons ((Fit.nat (n := c.next) hn).mono (by omega : 0 ≤ 3) (Nat.le_refl _)) FitAll.nil)).tup
  exact g.mono (by omega) (by omega)
theorem fit_cases {cs : List Case} (h : ∀ c ∈ cs, Fit 3 30000 c.ans ∧ c.next < 1000) (hl : cs.length ≤ 6) : Fit 5 186006 (.tuple (cs.map caseD)) :=
  Fit.tup (n := 4) (w := 31000) (m := 6) (fun d hd => by obtain ⟨c, hc, rfl⟩ := List.mem_map.mp hd; exact fit_case (h c hc).1 (h c hc).2) (by rw [List.length_map]; exact hl)
end K61


namespace K61
open PySem L2 Sa
local macro_rules | `(tactic| walk_at "s1") => `(tactic| first | (with_reducible apply c_dgetK))
local macro_rules | `(tactic| walk_at "s1") => `(tactic| (with_reducible apply c_raiseO))
section
variable {P : Program} {w : World} {K : PySem.W.Frag} {mg : Str → Option Value} {base : Heap}
theorem TreeG.updL {H : Hp} {t l : Addr} {fs : List File} {ws : List V} {o : HO} (h : TreeG K H t fs) (hl : H l = some (.lst ws)) : TreeG K (upd H l o) t fs := by
  obtain ⟨⟨dx, dd, ls, g1, g2, g3, g4, g5⟩, gg⟩ := h
  have n1 : t ≠ l := fun z => by rw [z, hl] at g1; cases g1
  have n2 : dd ≠ l := fun z => by rw [z, hl] at g2; cases g2
  exact ⟨⟨dx, dd, ls, upd_other n1 g1, upd_other n2 g2, fun r hr => SqT.kt (Kt.upd1 (NoT.lst hl)) (g3 r hr), g4, g5⟩, gg⟩
def spNext (K : PySem.W.Frag) : Sp := fun vs H Q _ => ∃ (p a c : Addr) (u : V) (wd : Str) (cs : List Case) (o : Nat) (ans : PyData), vs = [.ref p, u] ∧ SqT K H p [.str wd, .ref a, .ref c, .int (o : Nat)] ∧ Dt K H (.ref c) (.tuple (cs.map caseD)) ∧ (∀ c ∈ cs, Fit 3 30000 c.ans) ∧ Dt K H u ans ∧ Fit 3 30000 ans ∧ Q (.int (stepC cs o ans : Nat)) H
theorem sc_next_row : FnScope ["row", "answer", "known", "after"] ["row", "answer"] (defScope s_next_row) := ⟨rfl, rfl, rfl, by decide +kernel, rfl, by decide +kernel, by decide +kernel⟩
theorem bn_next_row : BindN "next_row" s_next_row ["row", "answer"] := fun _ _ _ _ _ _ us hl => match us, hl with | [_, _], _ => rfl
theorem b_next_row (T : TX K mg) : Body P w K mg base "next_row" s_next_row ["row", "answer", "known", "after"] 1 (spNext K) := by
  intro cdv A outer s H vs Q E h X hr
  obtain ⟨p, a, c, u, wd, cs, o, ans, rfl, hp, hc, fa, hu, fu, q⟩ := h
  refine ⟨_, (pss_cons (ps_for PassesOwn.never rfl (pi_tupU (K := K) (pe_ix (ix_U (K := K)) (pv 0) pe_int (fun _ _ => rfl))) (pg_tupU (K := K) (n := 2) rfl (pgs_cons (pg_name (i := 2) sc_next_row.nd rfl (Or.inl rfl)) (pgs_cons (pg_name (i := 3) sc_next_row.nd rfl (Or.inl rfl)) pgs_nil))) (pss_one (ps_if (pt_cmpR (op_eqU (K := K) hr.units) (pv 2) (pv 1) (nomark _)) (pss_one (ps_ret (pv 3))) pss_nil))) (pss_one (ps_ret (pe_ix (ix_U (K := K)) (pv 0) pe_int (fun _ _ => rfl))))), ?_⟩
  obtain ⟨c', ys, e0, hys, hds⟩ := dt_tup hc
  injection e0 with e0
  subst e0
  have hyl : ys.length = cs.length := by rw [dta_len hds, List.length_map]
  have hys' : SqT K H c (ys.map id) := by rw [List.map_id]; exact hys
  walk_at "st"
  first | refine c_ixT hp rfl ?_ | skip
  first | refine ⟨c, rfl, ⟨_, hys'⟩, ?_⟩ | skip
  refine forQ (itn_t (ys := ys) (u := id)) (fun i σ H' => ∃ v2 v3, σ = [some (.ref p), some u, v2, v3] ∧ H' = H ∧ stepC cs o ans = stepC (cs.drop i) o ans) ⟨_, _, rfl, rfl, by rw [List.drop_zero]⟩ (by rintro i σ H' ⟨_, _, _, e, _⟩; rw [e]; exact hys') ?_ ?_
  · rintro i y σ H1 H2 hi ⟨v2, v3, rfl, rfl, hs⟩ ⟨rfl, z, hz, rfl⟩
    obtain ⟨cc, hcc⟩ : ∃ cc, cs[i]? = some cc := ⟨_, List.getElem?_eq_getElem (by omega)⟩
    obtain ⟨pc, uc, h1, h2, h3⟩ := case_at hds hcc
    rw [hz] at h1
    obtain rfl := Option.some.inj h1
    rw [stepC_drop hcc] at hs
    walk_at "st"
    refine c_eqD h3.dp hu.dp ((fa cc (List.mem_of_getElem? hcc)).shaped (by decide)) (fu.shaped (by decide)) ?_
    walk_at "st"
    refine c_iteB (fun g => ?_) (fun g => ?_)
    · walk_at "st"
      rw [hs, if_pos g] at q
      exact q
    · walk_at "st"
      exact ⟨_, _, rfl, rfl, by rw [hs, if_neg (by rw [g]; exact Bool.false_ne_true)]⟩
  · rintro σ H1 ⟨v2, v3, rfl, rfl, hs⟩
    rw [hs, List.drop_of_length_le (by omega)] at q
    walk_at "st"
    first | exact q | (refine c_ixT hp rfl ?_; exact q)
theorem D_next_row (T : TX K mg) : DefAt P w K mg base CX0 "next_row" 2 ["row", "answer"] (spNext K) :=
  def_of T 12 28 sc_next_row bn_next_row (by walk_at "len") (b_next_row T)
def spWalk (K : PySem.W.Frag) : Sp := fun vs H Q _ => ∃ (g t : Addr) (rs : List Row) (fs : List File) (w : Str) (fw : Str → Bool) (kq : Action → Bool), vs = [.ref g, .ref t] ∧ Dt K H (.ref g) (agD rs) ∧ RowsOk w fw kq rs ∧ TreeG K H t fs ∧
  ∀ p j t' H', Kp [] H H' → SqT K H' p [.int ((walkF rs fs).1 : Nat), .ref j, .ref t'] → Dt K H' (.ref j) (jourD (walkF rs fs).2.1) → TreeG K H' t' (walkF rs fs).2.2 → Q (.ref p) H'
def spLive (K : PySem.W.Frag) : Sp := fun vs H Q _ => ∃ (g t : Addr) (rs : List Row) (fs : List File) (w : Str) (fw : Str → Bool) (kq : Action → Bool), vs = [.ref g, .ref t] ∧ Dt K H (.ref g) (agD rs) ∧ RowsOk w fw kq rs ∧ TreeG K H t fs ∧
  ∀ p j t' H', Kp [] H H' → SqT K H' p [.ref j, .ref t'] → Dt K H' (.ref j) (jourD (walkF rs fs).2.1) → TreeG K H' t' (walkF rs fs).2.2 → Q (.ref p) H'
def optN : Option Nat → V
  | none => .non
  | some n => .int (n : Nat)
/-- the actions of a journal are within their bounds, and so are its answers -/
def spRowAfter (K : PySem.W.Frag) : Sp := fun vs H Q _ => ∃ (g j : Addr) (rs : List Row) (js : List Entry) (kq : Action → Bool), vs = [.ref g, .ref j] ∧ Dt K H (.ref g) (agD rs) ∧ RowsOk "act" (fun w => decide (w = "stop")) kq rs ∧ Dt K H (.ref j) (jourD js) ∧ (∀ e ∈ js, EntOk e) ∧ js.length ≤ 1000 ∧
  Q (optN (afterF rs 0 js)) H
theorem stop_dp (T : TX K mg) (H : Hp) : Dp K H (.ref (He.ga K "STOP")) (.tuple [.str "stop"]) := T.cst (H := H) 0
theorem eqv_rows_act (w : Str) (x : Action) (cs : List Case) (o : Nat) (z : Str) : PyData.eqv (Row.act w x cs o).d (.tuple [.str z]) = false := by simp [Row.d, PyData.eqv, PyData.eqvAll]
theorem eqv_rows_fin (w z : Str) : PyData.eqv (Row.fin w).d (.tuple [.str z]) = decide (w = z) := by
  simp only [Row.d, PyData.eqv, PyData.eqvAll, Bool.and_true]
  exact Bool.beq_eq_decide_eq _ _
theorem shaped_row {many i o : Nat} {q : Action → Bool} {w : Str} {x : Action} {cs : List Case} (h : RowOkA many i q cs x o) (hm : many ≤ 24) (hw : okS w = true) (hl : w.length ≤ 20) : Fit 6 200000 (Row.act w x cs o).d := by
  have g := (FitAll.cons ((fit_str hw hl (by omega)).mono (by omega : 1 ≤ 5) (Nat.le_refl _)) (FitAll.cons ((fit_action h.act).mono (by omega : 2 ≤ 5) (Nat.le_refl _)) (FitAll.cons (fit_cases (fun c hc => ⟨h.ans c hc, by have := (h.nxt c hc).2; omega⟩) h.few) (FitAll.cons ((Fit.nat (n := o) (by have := h.oth.2; omega)).mono (by omega : 0 ≤ 5) (Nat.le_refl _)) FitAll.nil)))).tup
  exact g.mono (by omega) (by omega)
theorem sc_row_after : FnScope ["agent", "journal", "at", "action", "answer"] ["agent", "journal"] (defScope s_row_after) := ⟨rfl, rfl, rfl, by decide +kernel, rfl, by decide +kernel, by decide +kernel⟩
theorem bn_row_after : BindN "row_after" s_row_after ["agent", "journal"] := fun _ _ _ _ _ _ us hl => match us, hl with | [_, _], _ => rfl
theorem b_row_after (T : TX K mg) : Body P w K mg base "row_after" s_row_after ["agent", "journal", "at", "action", "answer"] 2 (spRowAfter K) := by
  intro cdv A outer s H vs Q E h X hr
  obtain ⟨g, j, rs, js, kq, rfl, hg, R, hj, hb, jl, q⟩ := h
  have D_next_row := D_next_row (P := P) (w := w) (base := base) T
  refine ⟨_, (pss_cons (ps_set (i := 2) sc_row_after.nd rfl (Or.inl rfl) pe_int) (pss_cons (ps_for PassesOwn.never rfl (pi_tupU (K := K) (pv 1)) (pg_tupU (K := K) (n := 2) rfl (pgs_cons (pg_name (i := 3) sc_row_after.nd rfl (Or.inl rfl)) (pgs_cons (pg_name (i := 4) sc_row_after.nd rfl (Or.inl rfl)) pgs_nil))) (pss_cons (ps_if (PW.pt (pw_or (pt_cmpR (op_eqU (K := K) hr.units) (pe_ix (ix_U (K := K)) (pv 0) (pv 2) (fun _ _ => rfl)) (pe_gCon (T.glo 24)) (nomark _)) (pw_or1 (pt_cmpR (op_neU (K := K) hr.units) (pe_ix (ix_U (K := K)) (pe_ix (ix_U (K := K)) (pv 0) (pv 2) (fun _ _ => rfl)) pe_int (fun _ _ => rfl)) (pv 3) (nomark _))))) (pss_one (ps_ret pe_non)) pss_nil) (pss_one (ps_set (i := 2) sc_row_after.nd rfl (Or.inl rfl) (pe_callA D_next_row hr pass0 (pa_cons (pe_ix (ix_U (K := K)) (pv 0) (pv 2) (fun _ _ => rfl)) (pa_cons (pv 4) pa_nil))))))) (pss_one (ps_ret (pv 2))))), ?_⟩
  obtain ⟨g', vs, e0, hvs, hds, hvl⟩ := rows_at hg
  injection e0 with e0
  subst e0
  obtain ⟨j', ys, e1, hys, hjs⟩ := dt_tup hj
  injection e1 with e1
  subst e1
  have hyl : ys.length = js.length := by rw [dta_len hjs, List.length_map]
  have hys' : SqT K H j (ys.map id) := by rw [List.map_id]; exact hys
  have aok : okS ("act" : Str) = true := by decide +kernel
  walk_at "st"
  first | refine ⟨j, rfl, ⟨_, hys'⟩, ?_⟩ | skip
  refine forQ (itn_t (ys := ys) (u := id)) (fun i σ H' => ∃ (at_ : Nat) (v3 v4 : Option V), σ = [some (.ref g), some (.ref j), some (.int (at_ : Nat)), v3, v4] ∧ H' = H ∧ at_ < rs.length ∧ afterF rs 0 js = afterF rs at_ (js.drop i)) ⟨0, _, _, rfl, rfl, R.some_, by rw [List.drop_zero]⟩ (by rintro i σ H' ⟨_, _, _, _, e, _⟩; rw [e]; exact hys') ?_ ?_
  · rintro i y σ H1 H2 hi ⟨at_, v3, v4, rfl, rfl, hat, hs⟩ ⟨rfl, z, hz, rfl⟩
    obtain ⟨e, he⟩ : ∃ e, js[i]? = some e := ⟨_, List.getElem?_eq_getElem (by omega)⟩
    obtain ⟨p, a, v, h1, h2, h3, h4⟩ := ent_at hjs he
    have eok := hb e (List.mem_of_getElem? he)
    rw [hz] at h1
    obtain rfl := Option.some.inj h1
    rw [after_step he] at hs
    obtain ⟨r, hr⟩ : ∃ r, rs[at_]? = some r := ⟨_, List.getElem?_eq_getElem hat⟩
    obtain ⟨u, hu1, hu2⟩ := row_at hds hr
    rw [hr] at hs
    walk_at "st"
    refine c_ixT hvs (atI_nat hu1) ?_
    walk_at "st"
    cases r with
    | fin w1 =>
      have hw := R.fin _ _ hr
      obtain ⟨pr, rfl, hpr⟩ := row_fin hu2
      have hw1 : w1 = "stop" := by simpa using hw
      subst hw1
      refine c_eqD hu2.dp (stop_dp T _) (by decide +kernel) (by decide +kernel) ?_
      rw [eqv_rows_fin]
      walk_at "dc"
      rw [hs] at q
      exact q
    | act w1 x cs o =>
      obtain ⟨rfl, rok⟩ := R.row _ _ _ _ _ hr
      obtain ⟨pr, ax, ac, rfl, hpr, hax, hac⟩ := row_act hu2
      refine c_eqD hu2.dp (stop_dp T _) ((shaped_row rok R.few aok (by decide)).shaped (by decide)) (by decide +kernel) ?_
      rw [eqv_rows_act]
      walk_at "dc"
      refine c_ixT hvs (atI_nat hu1) ?_
      walk_at "st"
      refine c_neD hax.dt.dp h3.dt.dp ((fit_action rok.act).shaped (by decide)) ((fit_action eok.act).shaped (by decide)) ?_
      walk_at "st"
      refine c_iteNB (fun ge => ?_) (fun ge => ?_)
      · walk_at "st"
        rw [hs] at q
        simp only [ge] at q
        exact q
      · walk_at "st"
        refine c_ixT hvs (atI_nat hu1) ?_
        walk_at "st"
        refine ⟨pr, ax, ac, v, _, cs, o, e.2, rfl, hpr, hac, rok.ans, h4, eok.ans, ?_⟩
        walk_at "st"
        refine ⟨_, _, _, rfl, rfl, (stepC_mem rok e.2).2, ?_⟩
        rw [hs]
        simp only [ge, if_true]
  · rintro σ H1 ⟨at_, v3, v4, rfl, rfl, hat, hs⟩
    rw [hs, List.drop_of_length_le (by omega)] at q
    walk_at "st"
    exact q
theorem D_row_after (T : TX K mg) : DefAt P w K mg base CX0 "row_after" 3 ["agent", "journal"] (spRowAfter K) :=
  def_of T 13 29 sc_row_after bn_row_after (by walk_at "len") (b_row_after T)
end
end K61



namespace K61
open PySem L2 Sa
local macro_rules | `(tactic| walk_at "s1") => `(tactic| first | (with_reducible apply c_dgetK))
local macro_rules | `(tactic| walk_at "s1") => `(tactic| (with_reducible apply c_raiseO))
section
variable {P : Program} {w : World} {K : PySem.W.Frag} {mg : Str → Option Value} {base : Heap}
theorem sc__law_step : FnScope ["_law_row", "_law_answer_here", "_law_case"] ["_law_row", "_law_answer_here"] (defScope s__law_step) := ⟨rfl, rfl, rfl, by decide +kernel, rfl, by decide +kernel, by decide +kernel⟩
theorem bn__law_step : BindN "_law_step" s__law_step ["_law_row", "_law_answer_here"] := fun _ _ _ _ _ _ us hl => match us, hl with | [_, _], _ => rfl
theorem b__law_step (T : TX K mg) : Body P w K mg base "_law_step" s__law_step ["_law_row", "_law_answer_here", "_law_case"] 1 (spNext K) := by
  intro cdv A outer s H vs Q E h X hr
  obtain ⟨p, a, c, u, wd, cs, o, ans, rfl, hp, hc, fa, hu, fu, q⟩ := h
  refine ⟨_, (pss_cons (ps_for PassesOwn.never rfl (pi_tupU (K := K) (pe_ix (ix_U (K := K)) (pv 0) pe_int (fun _ _ => rfl))) (pg_name (i := 2) sc__law_step.nd rfl (Or.inl rfl)) (pss_one (ps_if (pt_cmpR (op_eqU (K := K) hr.units) (pe_ix (ix_U (K := K)) (pv 2) pe_int (fun _ _ => rfl)) (pv 1) (nomark _)) (pss_one (ps_ret (pe_ix (ix_U (K := K)) (pv 2) pe_int (fun _ _ => rfl)))) pss_nil))) (pss_one (ps_ret (pe_ix (ix_U (K := K)) (pv 0) pe_int (fun _ _ => rfl))))), ?_⟩
  obtain ⟨c', ys, e0, hys, hds⟩ := dt_tup hc
  injection e0 with e0
  subst e0
  have hyl : ys.length = cs.length := by rw [dta_len hds, List.length_map]
  have hys' : SqT K H c (ys.map id) := by rw [List.map_id]; exact hys
  walk_at "st"
  first | refine c_ixT hp rfl ?_ | skip
  first | refine ⟨c, rfl, ⟨_, hys'⟩, ?_⟩ | skip
  refine forQ (itn_t (ys := ys) (u := id)) (fun i σ H' => ∃ v2, σ = [some (.ref p), some u, v2] ∧ H' = H ∧ stepC cs o ans = stepC (cs.drop i) o ans) ⟨_, rfl, rfl, by rw [List.drop_zero]⟩ (by rintro i σ H' ⟨_, _, e, _⟩; rw [e]; exact hys') ?_ ?_
  · rintro i y σ H1 H2 hi ⟨v2, rfl, rfl, hs⟩ ⟨rfl, z, hz, rfl⟩
    obtain ⟨cc, hcc⟩ : ∃ cc, cs[i]? = some cc := ⟨_, List.getElem?_eq_getElem (by omega)⟩
    obtain ⟨pc, uc, h1, h2, h3⟩ := case_at hds hcc
    rw [hz] at h1
    obtain rfl := Option.some.inj h1
    rw [stepC_drop hcc] at hs
    walk_at "st"
    first | refine c_ixT h2 rfl ?_ | skip
    refine c_eqD h3.dp hu.dp ((fa cc (List.mem_of_getElem? hcc)).shaped (by decide)) (fu.shaped (by decide)) ?_
    walk_at "st"
    refine c_iteB (fun g => ?_) (fun g => ?_)
    · walk_at "st"
      rw [hs, if_pos g] at q
      first | exact q | (refine c_ixT h2 rfl ?_; exact q)
    · walk_at "st"
      exact ⟨_, rfl, rfl, by rw [hs, if_neg (by rw [g]; exact Bool.false_ne_true)]⟩
  · rintro σ H1 ⟨v2, rfl, rfl, hs⟩
    rw [hs, List.drop_of_length_le (by omega)] at q
    walk_at "st"
    first | exact q | (refine c_ixT hp rfl ?_; exact q)
theorem D__law_step (T : TX K mg) : DefAt P w K mg base CX0 "_law_step" 2 ["_law_row", "_law_answer_here"] (spNext K) :=
  def_of T 37 58 sc__law_step bn__law_step (by walk_at "len") (b__law_step T)
def spLLive (K : PySem.W.Frag) : Sp := fun vs H Q _ => ∃ (g f : Addr) (rs : List Row) (fs : List File) (kq : Action → Bool), vs = [.ref g, .ref f] ∧ Dt K H (.ref g) (agD rs) ∧ RowsOk "act" (fun w => decide (w = "stop")) kq rs ∧ FilesAt K H f fs ∧ GoodP fs ∧
  ∀ p j f' fs' H', Kp [] H H' → H' p = some (.lst [.ref j, .ref f']) → Dt K H' (.ref j) (jourD (walkF rs (sortF fs)).2.1) → FilesAt K H' f' fs' → GoodP fs' → sortF fs' = (walkF rs (sortF fs)).2.2 → Q (.ref p) H'
theorem sc__law_live : FnScope ["_law_agent_here", "_law_files_here", "_law_journal", "_law_at", "_law_turn", "_law_answer_here"] ["_law_agent_here", "_law_files_here"] (defScope s__law_live) := ⟨rfl, rfl, rfl, by decide +kernel, rfl, by decide +kernel, by decide +kernel⟩
theorem bn__law_live : BindN "_law_live" s__law_live ["_law_agent_here", "_law_files_here"] := fun _ _ _ _ _ _ us hl => match us, hl with | [_, _], _ => rfl
theorem b__law_live (T : TX K mg) : Body P w K mg base "_law_live" s__law_live ["_law_agent_here", "_law_files_here", "_law_journal", "_law_at", "_law_turn", "_law_answer_here"] 5 (spLLive K) := by
  intro cdv A outer s H vs Q E h X hr
  obtain ⟨g, f, rs, fs, kq, rfl, hg, R, F, G, q⟩ := h
  have D__law_act := D__law_act (P := P) (w := w) (base := base) T; have D__law_step := D__law_step (P := P) (w := w) (base := base) T
  refine ⟨_, (pss_cons (ps_set (i := 2) sc__law_live.nd rfl (Or.inl rfl) (pe_tup pa_nil)) (pss_cons (ps_set (i := 3) sc__law_live.nd rfl (Or.inl rfl) pe_int) (pss_cons (ps_for PassesOwn.never rfl (pi_range1 rfl (T.free 31) (pa_cons pe_int pa_nil)) (pg_name (i := 4) sc__law_live.nd rfl (Or.inl rfl)) (pss_one (ps_if (pt_cmpR (op_eqU (K := K) hr.units) (pe_ix (ix_U (K := K)) (pe_ix (ix_U (K := K)) (pv 0) (pv 3) (fun _ _ => rfl)) pe_int (fun _ _ => rfl)) pe_str (nomark _)) (pss_cons (ps_asg (pe_callA D__law_act hr pass0 (pa_cons (pv 1) (pa_cons (pe_ix (ix_U (K := K)) (pe_ix (ix_U (K := K)) (pv 0) (pv 3) (fun _ _ => rfl)) pe_int (fun _ _ => rfl)) pa_nil))) (pg_lstU (K := K) (n := 2) rfl (pgs_cons (pg_name (i := 5) sc__law_live.nd rfl (Or.inl rfl)) (pgs_cons (pg_name (i := 1) sc__law_live.nd rfl (Or.inl rfl)) pgs_nil)))) (pss_cons (ps_set (i := 2) sc__law_live.nd rfl (Or.inl rfl) (pe_op (op_addU (K := K)) (pv 2) (pe_tup (pa_cons (pe_tup (pa_cons (pe_ix (ix_U (K := K)) (pe_ix (ix_U (K := K)) (pv 0) (pv 3) (fun _ _ => rfl)) pe_int (fun _ _ => rfl)) (pa_cons (pv 5) pa_nil))) pa_nil)))) (pss_one (ps_set (i := 3) sc__law_live.nd rfl (Or.inl rfl) (pe_callA D__law_step hr pass0 (pa_cons (pe_ix (ix_U (K := K)) (pv 0) (pv 3) (fun _ _ => rfl)) (pa_cons (pv 5) pa_nil))))))) pss_nil))) (pss_one (ps_ret (pe_lst (pa_cons (pv 2) (pa_cons (pv 1) pa_nil)))))))), ?_⟩
  obtain ⟨g', vs, e0, hvs, hds, hvl⟩ := rows_at hg
  injection e0 with e0
  subst e0
  have GS := G.sort
  walk_at "st"
  walk_at "nw"
  intro j0 H1 N1
  walk_at "st"
  refine forR (fun i σ H' => ∃ f' fs' j v4 v5, σ = [some (.ref g), some (.ref f'), some (.ref j), some (.int ((walkN rs (sortF fs) i).1 : Nat)), v4, v5] ∧ Kp [] H H' ∧ Dt K H' (.ref j) (jourD (walkN rs (sortF fs) i).2.1) ∧ FilesAt K H' f' fs' ∧ GoodP fs' ∧ sortF fs' = (walkN rs (sortF fs) i).2.2)
    ⟨f, fs, j0, _, _, rfl, N1.kp, .tup (SqT.of N1.at_) .nil, F.kp N1.kp, G, rfl⟩ ?_ ?_
  · rintro i σ H2 hi ⟨f', fs', j, v4, v5, rfl, e2, hj, F2, G2, es⟩
    have hi24 : i < 24 := hi
    have ok := walk_ok (fs := sortF fs) R GS i
    obtain ⟨r, hr⟩ : ∃ r, rs[(walkN rs (sortF fs) i).1]? = some r := ⟨_, List.getElem?_eq_getElem ok.in_⟩
    obtain ⟨u, hu1, hu2⟩ := row_at hds hr
    have hv2 := SqT.kp e2 hvs
    have hu3 := Dt.kp hu2 e2
    walk_at "st"
    refine c_ixT hv2 (atI_nat hu1) ?_
    cases r with
    | fin w1 =>
      obtain ⟨pr, rfl, hpr⟩ := row_fin hu3
      have hw := R.fin _ _ hr
      have hw1 : w1 = "stop" := by simpa using hw
      subst hw1
      have ew : walkN rs (sortF fs) (i + 1) = walkN rs (sortF fs) i := wstep_fin (by unfold isAct; rw [hr])
      walk_at "st"
      first | refine c_ixT hpr rfl ?_ | skip
      walk_at "dc"
      exact ⟨f', fs', j, _, _, (by rw [ew]; rfl), e2, by rw [ew]; exact hj, F2, G2, by rw [ew]; exact es⟩
    | act w1 x cs o =>
      obtain ⟨pr, ax, ac, rfl, hpr, hax, hac⟩ := row_act hu3
      obtain ⟨rfl, rok⟩ := R.row _ _ _ _ _ hr
      have ew : walkN rs (sortF fs) (i + 1) = (stepC cs o (actF (walkN rs (sortF fs) i).2.2 x).1, (walkN rs (sortF fs) i).2.1 ++ [(x, (actF (walkN rs (sortF fs) i).2.2 x).1)], (actF (walkN rs (sortF fs) i).2.2 x).2) := by
        show wstep rs (walkN rs (sortF fs) i) = _
        unfold wstep
        rw [hr]
      walk_at "st"
      first | refine c_ixT hpr rfl ?_ | skip
      walk_at "dc"
      refine c_ixT hv2 (atI_nat hu1) ?_
      walk_at "st"
      first | refine c_ixT hpr rfl ?_ | skip
      walk_at "st"
      refine ⟨f', ax, x, fs', rfl, F2, G2, hax, rok.act, fun p v f3 fs3 H3 e3 hp hv F3 G3 es3 => ?_⟩
      rw [es] at hv es3
      have hv3 := SqT.kp e3 hv2
      have hpr3 := SqT.kp e3 hpr
      have hac3 := Dt.kp hac e3
      have hax3 := hax.kp e3
      walk_at "st"
      refine c_ixT hv3 (atI_nat hu1) ?_
      walk_at "st"
      first | refine c_ixT hpr3 rfl ?_ | skip
      walk_at "st"
      walk_at "nw"
      intro p4 H4 N4
      walk_at "st"
      walk_at "nw"
      intro p5 H5 N5
      obtain ⟨j', js, e0, hjs, hjd⟩ := dt_tup hj
      injection e0 with e0
      subst e0
      have k35 := (e3.trans N4.kp).trans N5.kp
      have jl : js.length ≤ 60 := by
        rw [dta_len hjd, List.length_map]
        have := ok.len
        omega
      refine c_addT (SqT.kp k35 hjs) (SqT.of N5.at_) (by rw [sizeLine_eq]; simp only [List.length_cons, List.length_nil]; omega) fun p6 H6 e6 hp6 => ?_
      walk_at "st"
      have k6 := k35.trans e6
      have k36 := (N4.kp.trans N5.kp).trans e6
      refine c_ixT (SqT.kp k6 hv2) (atI_nat hu1) ?_
      walk_at "st"
      refine ⟨pr, ax, ac, v, _, cs, o, _, rfl, SqT.kp k36 hpr3, Dt.kp hac3 k36, rok.ans, Dt.kp hv k36, fit_act ok.good x, ?_⟩
      walk_at "st"
      refine ⟨f3, fs3, p6, _, _, by rw [ew]; rfl, e2.trans k6, ?_, ((F3.kp N4.kp).kp N5.kp).kp e6, G3, by rw [ew]; exact es3⟩
      rw [ew]
      unfold jourD
      rw [List.map_append]
      refine .tup hp6 (dta_snoc (DtAll.kp hjd k6) (.tup (SqT.kp (N5.kp.trans e6) (SqT.of N4.at_)) (.cons (Dt.kp hax.dt k6) (.cons (Dt.kp hv k36) .nil))))
  · rintro σ H2 ⟨f', fs', j, v4, v5, rfl, e2, hj, F2, G2, es⟩
    walk_at "st"
    walk_at "nw"
    intro p3 H3 N3
    exact q p3 j f' fs' H3 (e2.trans N3.kp) N3.at_ (Dt.kp hj N3.kp) (F2.kp N3.kp) G2 es
theorem D__law_live (T : TX K mg) : DefAt P w K mg base CX0 "_law_live" 6 ["_law_agent_here", "_law_files_here"] (spLLive K) :=
  def_of T 63 92 sc__law_live bn__law_live (by walk_at "len") (b__law_live T)
theorem dta_mem {H : Hp} : ∀ {us : List V} {ds : List PyData} {v : V}, DtAll K H us ds → v ∈ us → ∃ d, d ∈ ds ∧ Dt K H v d
  | _, [], v, h, hv => by rw [dta_nil h] at hv; cases hv
  | _, d :: ds, v, h, hv => by
    obtain ⟨u, r, rfl, h1, h2⟩ := dta_cons h
    rcases List.mem_cons.mp hv with rfl | hv
    · exact ⟨d, List.mem_cons_self .., h1⟩
    · obtain ⟨e, h3, h4⟩ := dta_mem h2 hv
      exact ⟨e, List.mem_cons_of_mem _ h3, h4⟩
theorem dta_of {H : Hp} : ∀ {us : List V} {ds : List PyData}, us.length = ds.length → (∀ (i : Nat) (d : PyData), ds[i]? = some d → ∃ v, us[i]? = some v ∧ Dt K H v d) → DtAll K H us ds
  | [], [], _, _ => .nil
  | [], _ :: _, h, _ => by simp at h
  | _ :: _, [], h, _ => by simp at h
  | u :: us, d :: ds, h, g => by
    obtain ⟨v, e1, e2⟩ := g 0 d rfl
    obtain rfl : u = v := Option.some.inj e1
    exact .cons e2 (dta_of (by simpa using h) fun i c hc => g (i + 1) c hc)
/-- no answer stands twice -/
def DistC (cs : List Case) : Prop := cs.Pairwise fun a b => PyData.eqv a.ans b.ans = false
def RowsDist (rs : List Row) : Prop := ∀ (i : Nat) (v : Str) (x : Action) (cs : List Case) (o : Nat), rs[i]? = some (.act v x cs o) → DistC cs
def spLAgent (K : PySem.W.Frag) : Sp := fun vs H Q _ => ∃ (b d f : Addr) (fs : List File) (many : Int), vs = [.ref b, .ref f, .int many] ∧ Bx H b d ∧ FilesAt K H f fs ∧ GoodP fs ∧ 1 ≤ many ∧ many ≤ 23 ∧
  ∀ g rs H', RowsOk "act" (fun w => decide (w = "stop")) (fun _ => true) rs → RowsDist rs → rs[rs.length - 1]? = some (.fin "stop") → Kp [b] H H' → Bx H' b d → Dt K H' (.ref g) (agD rs) → (rs.length : Int) ≤ many + 1 → Q (.ref g) H'
theorem sc__law_agent : FnScope ["_law_box", "_law_files_here", "_law_many", "_law_size", "_law_rows_here", "_law_k", "_law_action_here", "_law_answers", "_law_cases", "_law_step_here", "_law_answer_here", "_law_case"] ["_law_box", "_law_files_here", "_law_many"] (defScope s__law_agent) := ⟨rfl, rfl, rfl, by decide +kernel, rfl, by decide +kernel, by decide +kernel⟩
theorem bn__law_agent : BindN "_law_agent" s__law_agent ["_law_box", "_law_files_here", "_law_many"] := fun _ _ _ _ _ _ us hl => match us, hl with | [_, _, _], _ => rfl
theorem b__law_agent (T : TX K mg) : Body P w K mg base "_law_agent" s__law_agent ["_law_box", "_law_files_here", "_law_many", "_law_size", "_law_rows_here", "_law_k", "_law_action_here", "_law_answers", "_law_cases", "_law_step_here", "_law_answer_here", "_law_case"] 7 (spLAgent K) := by
  intro cdv A outer s H vs Q E h X hr
  obtain ⟨b, d, f, fs, many, rfl, B, F, G, m0, m1, q⟩ := h
  have D__law_act := D__law_act (P := P) (w := w) (base := base) T; have D__law_action := D__law_action (P := P) (w := w) (base := base) T; have D__law_draw := D__law_draw (P := P) (w := w) (base := base) T
  refine ⟨_, (pss_cons (ps_set (i := 3) sc__law_agent.nd rfl (Or.inl rfl) (pe_op (op_addU (K := K)) pe_int (pe_callA D__law_draw hr pass0 (pa_cons (pv 0) (pa_cons (pv 2) pa_nil))))) (pss_cons (ps_set (i := 4) sc__law_agent.nd rfl (Or.inl rfl) (pe_lst pa_nil)) (pss_cons (ps_for PassesOwn.never rfl (pi_range1 rfl (T.free 31) (pa_cons (pv 3) pa_nil)) (pg_name (i := 5) sc__law_agent.nd rfl (Or.inl rfl)) (pss_one (ps_if (pt_cmpR (op_eqU (K := K) hr.units) (pe_callA D__law_draw hr pass0 (pa_cons (pv 0) (pa_cons pe_int pa_nil))) pe_int (nomark _)) (pss_one (ps_expr (pe_appendU (K := K) (pv 4) (pe_tup (pa_cons pe_str pa_nil))))) (pss_cons (ps_set (i := 6) sc__law_agent.nd rfl (Or.inl rfl) (pe_callA D__law_action hr pass0 (pa_cons (pv 0) (pa_cons (pv 1) pa_nil)))) (pss_cons (ps_set (i := 7) sc__law_agent.nd rfl (Or.inl rfl) (pe_lst (pa_cons (pe_ix (ix_U (K := K)) (pe_callA D__law_act hr pass0 (pa_cons (pv 1) (pa_cons (pv 6) pa_nil))) pe_int (fun _ _ => rfl)) (pa_cons (pe_tup (pa_cons pe_str pa_nil)) (pa_cons (pe_tup (pa_cons pe_str pa_nil)) (pa_cons (pe_tup (pa_cons pe_str pa_nil)) (pa_cons (pe_tup (pa_cons pe_str (pa_cons pe_int pa_nil))) pa_nil))))))) (pss_cons (ps_set (i := 8) sc__law_agent.nd rfl (Or.inl rfl) (pe_lst pa_nil)) (pss_cons (ps_for PassesOwn.never rfl (pi_range1 rfl (T.free 31) (pa_cons (pe_callA D__law_draw hr pass0 (pa_cons (pv 0) (pa_cons pe_int pa_nil))) pa_nil)) (pg_name (i := 9) sc__law_agent.nd rfl (Or.inl rfl)) (pss_cons (ps_set (i := 10) sc__law_agent.nd rfl (Or.inl rfl) (pe_ix (ix_U (K := K)) (pv 7) (pe_callA D__law_draw hr pass0 (pa_cons (pv 0) (pa_cons pe_int pa_nil))) (fun _ _ => rfl))) (pss_one (ps_if (pt_cmpR (op_notInDU (K := K) (u65 hr)) (pv 10) (pe_lc (own := [("_law_case", 11)]) rfl sc__law_agent.nd (pi_listU (K := K) (pv 8)) (blkOk_by (N := ["_law_box", "_law_files_here", "_law_many", "_law_size", "_law_rows_here", "_law_k", "_law_action_here", "_law_answers", "_law_cases", "_law_step_here", "_law_answer_here", "_law_case"]) (sc := defScope s__law_agent) (by decide +kernel)) (fun _ _ _ _ _ => (pg_name (i := 11) sc__law_agent.nd rfl (Or.inl rfl))) (fun _ _ _ _ _ => pts_nil) (fun _ _ _ _ _ => (pe_ix (ix_U (K := K)) (pv 11) pe_int (fun _ _ => rfl)))) rfl) (pss_one (ps_expr (pe_appendU (K := K) (pv 8) (pe_tup (pa_cons (pv 10) (pa_cons (pe_op (op_addU (K := K)) (pe_op (op_addU (K := K)) (pv 5) pe_int) (pe_callA D__law_draw hr pass0 (pa_cons (pv 0) (pa_cons (pe_op op_subU (pv 3) (pv 5)) pa_nil)))) pa_nil)))))) pss_nil)))) (pss_one (ps_expr (pe_appendU (K := K) (pv 4) (pe_tup (pa_cons pe_str (pa_cons (pv 6) (pa_cons (pe_callTy (cr_tuple (K := K)) rfl (T.free 37) (by decide +kernel) (pa_cons (pv 8) pa_nil)) (pa_cons (pe_op (op_addU (K := K)) (pe_op (op_addU (K := K)) (pv 5) pe_int) (pe_callA D__law_draw hr pass0 (pa_cons (pv 0) (pa_cons (pe_callB (cr_min2 rfl) rfl (T.free 56) (by decide +kernel) (pa_cons pe_int (pa_cons (pe_op op_subU (pv 3) (pv 5)) pa_nil))) pa_nil)))) pa_nil))))))))))))))) (pss_one (ps_ret (pe_callTy (cr_tuple (K := K)) rfl (T.free 37) (by decide +kernel) (pa_cons (pe_op (op_addU (K := K)) (pv 4) (pe_lst (pa_cons (pe_tup (pa_cons pe_str pa_nil)) pa_nil))) pa_nil))))))), ?_⟩
  walk_at "st"
  refine ⟨b, d, many, rfl, B, by omega, fun n1 H1 n10 n11 e1 B1 => ?_⟩
  obtain ⟨sz, hsz, sz0, sz1⟩ : ∃ sz : Nat, (1 : Int) + n1 = (sz : Int) ∧ 1 ≤ sz ∧ (sz : Int) ≤ many := ⟨(1 + n1).toNat, by omega, by omega, by omega⟩
  walk_at "st"
  rw [hsz]
  walk_at "nw"
  intro lr H2 N2
  walk_at "st"
  have k12 : Kp [b] H H2 := e1.trans N2.kp
  refine forR (n := sz) (fun i σ H' => ∃ v5 v6 v7 v8 v9 v10 v11 xs rs, σ = [some (.ref b), some (.ref f), some (.int many), some (.int (sz : Int)), some (.ref lr), v5, v6, v7, v8, v9, v10, v11] ∧ Kp [b] H1 H' ∧ Bx H' b d ∧ H' lr = some (.lst xs) ∧ DtAll K H' xs (rs.map Row.d) ∧ rs.length = i ∧
    (∀ (j : Nat) (v : Str) (x : Action) (cs : List Case) (o : Nat), rs[j]? = some (.act v x cs o) → v = "act" ∧ RowOkA (sz + 1) j (fun _ => true) cs x o ∧ DistC cs) ∧ ∀ (j : Nat) (v : Str), rs[j]? = some (.fin v) → v = "stop") ⟨_, _, _, _, _, _, _, [], [], rfl, N2.kp, B1.nw N2, N2.at_, .nil, rfl, by simp, by simp⟩ ?_ ?_
  · rintro i σ H3 hi ⟨v5, v6, v7, v8, v9, v10, v11, xs, rs, rfl, e3, B3, hlr, hrs, hrl, ha, hf⟩
    have F3 := F.kb B (e1.trans e3)
    have nlb : lr ≠ b := by
      obtain ⟨_, _, hb1, _⟩ := B1.ex
      exact (ne_of_none hb1 N2.fr).symm
    have xl : xs.length ≤ 100 := by rw [dta_len hrs, List.length_map]; omega
    walk_at "st"
    refine ⟨b, d, 9, rfl, B3, by decide, fun n4 H4 n40 n41 e4 B4 => ?_⟩
    have hlr4 := e4.at1 nlb hlr
    have hrs4 := DtAll.kt (B3.kt e4) hrs
    have F4 := F3.kb B3 e4
    clear hlr hrs F3
    walk_at "st"
    refine c_ite (fun g => ?_) (fun g => ?_)
    · walk_at "st"
      walk_at "nw"
      intro p5 H5 N5
      have hlr5 := N5.keep hlr4
      refine ⟨lr, _, _, rfl, rfl, hlr5, by rw [sizeLine_eq]; omega, ?_⟩
      have kt : Kt H5 (upd H5 lr (.lst (xs ++ [V.ref p5]))) := Kt.upd1 (NoT.lst hlr5)
      walk_at "st"
      refine ⟨_, _, _, _, _, _, _, xs ++ [V.ref p5], rs ++ [.fin "stop"], rfl, ?_, (B4.nw N5).other nlb (B1.ne_new N2.fr).2, upd_same, ?_, by rw [List.length_append, hrl]; rfl, ?_, ?_⟩
      · exact ((e3.trans e4).trans N5.kp).fresh_mut N2.fr
      · rw [List.map_append]
        exact dta_snoc (DtAll.kt (N5.kp.kt.trans kt) hrs4) (.tup (SqT.kt kt (SqT.of N5.at_)) (.cons (.str _) .nil))
      · intro j v x cs o hj
        by_cases hjl : j < rs.length
        · rw [List.getElem?_append_left hjl] at hj
          exact ha j v x cs o hj
        · rw [List.getElem?_append_right (by omega)] at hj
          cases hz : j - rs.length with
          | zero => rw [hz] at hj; simp at hj
          | succ m => rw [hz] at hj; simp at hj
      · intro j v hj
        by_cases hjl : j < rs.length
        · rw [List.getElem?_append_left hjl] at hj
          exact hf j v hj
        · rw [List.getElem?_append_right (by omega)] at hj
          cases hz : j - rs.length with
          | zero => rw [hz] at hj; simp at hj; exact hj.symm
          | succ m => rw [hz] at hj; simp at hj
    walk_at "st"
    refine ⟨b, d, f, fs, rfl, B4, F4, G, fun ax x H5 hxb _ e5 B5 hax => ?_⟩
    have F5 := F4.kb B4 e5
    have hlr5 := e5.at1 nlb hlr4
    have hrs5 := DtAll.kt (B4.kt e5) hrs4
    clear F4 hlr4 hrs4
    walk_at "st"
    refine ⟨f, ax, x, fs, rfl, F5, G, hax, hxb, fun p6 v6' f6 fs6 H6 e6 hp6 hv6 F6 G6 es6 => ?_⟩
    walk_at "st"
    first | refine c_ixL (SqL.of hp6) rfl ?_ | skip
    walk_at "st"
    walk_at "nw"
    intro q1 H7 M1
    walk_at "st"
    walk_at "nw"
    intro q2 H8 M2
    walk_at "st"
    walk_at "nw"
    intro q3 H9 M3
    walk_at "st"
    walk_at "nw"
    intro q4 H10 M4
    walk_at "st"
    walk_at "nw"
    intro la H11 M5
    walk_at "st"
    walk_at "nw"
    intro lc H12 M6
    have k6_11 : Kp [] H6 H11 := (((M1.kp.trans M2.kp).trans M3.kp).trans M4.kp).trans M5.kp
    have k5_11 : Kp [] H5 H11 := e6.trans k6_11
    have dsA : DtAll K H11 [v6', .ref q1, .ref q2, .ref q3, .ref q4] [(actF (sortF fs) x).1, wordD "none", wordD "done", wordD "missing", .tuple [.str "many", .int 2]] :=
      .cons (Dt.kp hv6 k6_11) (.cons (.tup (SqT.kp (((M2.kp.trans M3.kp).trans M4.kp).trans M5.kp) (SqT.of M1.at_)) (.cons (.str _) .nil)) (.cons (.tup (SqT.kp ((M3.kp.trans M4.kp).trans M5.kp) (SqT.of M2.at_)) (.cons (.str _) .nil)) (.cons (.tup (SqT.kp (M4.kp.trans M5.kp) (SqT.of M3.at_)) (.cons (.str _) .nil)) (.cons (.tup (SqT.kp M5.kp (SqT.of M4.at_)) (.cons (.str _) (.cons (.int _) .nil))) .nil))))
    have fitA : ∀ dd ∈ [(actF (sortF fs) x).1, wordD "none", wordD "done", wordD "missing", .tuple [.str "many", .int 2]], Fit 3 30000 dd := fun dd hd => by
      have fw : ∀ z ∈ ([("none" : Str), "done", "missing"] : List Str), Fit 3 30000 (wordD z) := fun z hz => (Fit.word ((by decide +kernel : ∀ z ∈ ([("none" : Str), "done", "missing"] : List Str), okS z = true) z hz) ((by decide +kernel : ∀ z ∈ ([("none" : Str), "done", "missing"] : List Str), z.length ≤ 11) z hz)).mono (by omega) (by omega)
      simp only [List.mem_cons, List.not_mem_nil, or_false] at hd
      rcases hd with rfl | rfl | rfl | rfl | rfl
      · exact fit_act G.sort x
      · exact fw _ (by simp)
      · exact fw _ (by simp)
      · exact fw _ (by simp)
      · exact (FitAll.cons (Fit.str (w := 11) (by decide +kernel) (by decide)) (FitAll.cons (Fit.nat (n := 2) (by omega)) FitAll.nil)).tup.mono (by omega) (by omega)
    obtain ⟨us, dsL, hla, dsA, fitA, us5⟩ : ∃ us dsL, H11 la = some (.lst us) ∧ DtAll K H11 us dsL ∧ (∀ dd ∈ dsL, Fit 3 30000 dd) ∧ us.length = 5 := ⟨_, _, M5.at_, dsA, fitA, rfl⟩
    have B11 := B5.kp0 k5_11
    have hlr11 := k5_11.at0 hlr5
    have hrs11 := DtAll.kp hrs5 k5_11
    have hax11 := hax.kp k5_11
    have nlab : la ≠ b := by
      obtain ⟨_, _, hb5, _⟩ := B5.ex
      exact (ne_of_none ((e6.trans (((M1.kp.trans M2.kp).trans M3.kp).trans M4.kp)).at0 hb5) M5.fr).symm
    clear M1 M2 M3 M4 M5 hp6 hv6 F6 e6 k6_11 hlr5 hrs5 hax
    have nlc : lc ≠ b ∧ lc ≠ la ∧ lc ≠ lr := by
      obtain ⟨_, _, hb11, _⟩ := B11.ex
      exact ⟨(ne_of_none hb11 M6.fr).symm, (ne_of_none hla M6.fr).symm, (ne_of_none hlr11 M6.fr).symm⟩
    walk_at "st"
    refine ⟨b, d, 4, rfl, B11.nw M6, by decide, fun n13 H13 n130 n131 e13 B13 => ?_⟩
    obtain ⟨mc, rfl⟩ := Int.eq_ofNat_of_zero_le n130
    have k12_13 : Kp [b] H11 H13 := M6.kp.trans e13
    walk_at "st"
    refine forR (n := mc) (fun jj σ H' => ∃ v9 v10 v11 ws cs, σ = [some (.ref b), some (.ref f), some (.int many), some (.int (sz : Int)), some (.ref lr), some (.int (0 + (i : Int))), some (.ref ax), some (.ref la), some (.ref lc), v9, v10, v11] ∧ Kp [b] H11 H' ∧ Bx H' b d ∧ H' lc = some (.lst ws) ∧ DtAll K H' ws (cs.map caseD) ∧ cs.length ≤ jj ∧
      (∀ c ∈ cs, Fit 3 30000 c.ans ∧ i < c.next ∧ c.next < sz + 1) ∧ DistC cs) ⟨_, _, _, [], [], rfl, k12_13, B13, e13.at1 nlc.1 M6.at_, .nil, Nat.le_refl _, by simp, .nil⟩ ?_ ?_
    · rintro jj σ H14 hj ⟨v9, v10, v11, ws, cs, rfl, e14, B14, hlc, hws, hcl, hcs, hdist⟩
      have hla14 := e14.at1 nlab hla
      walk_at "st"
      refine ⟨b, d, 5, rfl, B14, by decide, fun n15 H15 n150 n151 e15 B15 => ?_⟩
      have kt15 : Kt H11 H15 := B11.kt (e14.trans e15)
      refine c_pick (xs := us) (SqL.of (e15.at1 nlab hla14)) n150 (by omega) fun v hv => ?_
      obtain ⟨dv, hdv, hv11⟩ := dta_mem dsA hv
      have hv15 := Dt.kt kt15 hv11
      have hlc15 := e15.at1 nlc.1 hlc
      have hws15 := DtAll.kt (B14.kt e15) hws
      have hwl : ws.length = cs.length := by rw [dta_len hws, List.length_map]
      have kl : SqL K H15 lc (ws.map id) := by rw [List.map_id]; exact SqL.of hlc15
      have pickF : ∀ m : Nat, ∃ u : V, m < ws.length → ∃ p cc, ws[m]? = some (.ref p) ∧ cs[m]? = some cc ∧ SqT K H15 p [u, .int (cc.next : Nat)] ∧ Dt K H15 u cc.ans := fun m => by
        by_cases hm : m < ws.length
        · obtain ⟨cc, hcc⟩ : ∃ cc, cs[m]? = some cc := ⟨_, List.getElem?_eq_getElem (by omega)⟩
          obtain ⟨p, u, h1, h2, h3⟩ := case_at hws15 hcc
          exact ⟨u, fun _ => ⟨p, cc, h1, hcc, h2, h3⟩⟩
        · exact ⟨.non, fun h => absurd h hm⟩
      obtain ⟨fu, hfu⟩ := Classical.axiomOfChoice pickF
      walk_at "st"
      first | refine ⟨lc, rfl, ⟨_, kl⟩, ?_⟩ | skip
      refine lcQ_map (itn_l (ys := ws) (u := id)) fu (by omega) (fun H' e => SqL.kp e kl) (fun m y H' H'' R S hm e z k => ?_) (fun Dl H16 hD e16 hacc => ?_)
      · obtain ⟨rfl, u, hu, rfl⟩ := z
        obtain ⟨p, cc, h1, h2, h3, h4⟩ := hfu m hm
        rw [hu] at h1
        obtain rfl := Option.some.inj h1
        have h3' := SqT.kp e h3
        walk_at "st"
        refine ⟨rfl, ?_⟩
        walk_at "st"
        first | exact k _ Kp.refl | (refine c_ixT h3' rfl ?_; exact k _ Kp.refl)
      have dD : DtAll K H16 ((List.range ws.length).map fu) (cs.map Case.ans) := dta_of (by rw [List.length_map, List.length_map, List.length_range, hwl]) fun m dd hdd => by
        rw [List.getElem?_map] at hdd
        obtain ⟨cc, hcc, rfl⟩ := Option.map_eq_some_iff.mp hdd
        have hm : m < ws.length := by rw [hwl]; exact (List.getElem?_eq_some_iff.mp hcc).1
        obtain ⟨p, cc2, h1, h2, h3, h4⟩ := hfu m hm
        rw [hcc] at h2
        obtain rfl := Option.some.inj h2
        exact ⟨fu m, by rw [List.getElem?_map, List.getElem?_range hm]; rfl, Dt.kp h4 e16⟩
      have fitC : Fit 4 120004 (.list (cs.map Case.ans)) := ((FitAll.of fun dd hdd => by obtain ⟨c, hc, rfl⟩ := List.mem_map.mp hdd; exact (hcs c hc).1).mono (Nat.le_refl _) (by rw [List.length_map]; exact Nat.le_trans (Nat.mul_le_mul_left _ (show cs.length ≤ 3 by omega)) (by decide))).lst
      walk_at "st"
      refine c_notInD (Dt.kp hv15 e16).dp (.lst (SqL.of hacc) dD.dp) ((fitA dv hdv).shaped (by decide)) (fitC.shaped (by decide)) ?_
      have hlc16 := e16.at0 hlc15
      have hws16 := DtAll.kp hws15 e16
      have hv16 := Dt.kp hv15 e16
      have B16 := B15.kp0 e16
      have e1116 : Kp [b] H11 H16 := (e14.trans e15).trans e16.mono
      walk_at "st"
      refine c_iteNB (fun gn => ?_) (fun gn => ?_)
      · walk_at "st"
        refine ⟨b, d, _, rfl, B16, by omega, fun n17 H17 n170 n171 e17 B17 => ?_⟩
        obtain ⟨nn, rfl⟩ := Int.eq_ofNat_of_zero_le n170
        have hlc17 := e17.at1 nlc.1 hlc16
        have hws17 := DtAll.kt (B16.kt e17) hws16
        have hv17 := Dt.kt (B16.kt e17) hv16
        walk_at "st"
        walk_at "nw"
        intro p18 H18 N18
        have hlc18 := N18.keep hlc17
        refine ⟨lc, _, _, rfl, rfl, hlc18, by rw [sizeLine_eq]; omega, ?_⟩
        have kt : Kt H18 (upd H18 lc (.lst (ws ++ [V.ref p18]))) := Kt.upd1 (NoT.lst hlc18)
        walk_at "st"
        have enx : (0 : Int) + (i : Int) + 1 + (nn : Int) = ((i + 1 + nn : Nat) : Int) := by omega
        have N18' := N18.at_
        rw [enx] at N18'
        refine ⟨_, _, _, ws ++ [V.ref p18], cs ++ [⟨dv, i + 1 + nn⟩], rfl, ((e1116.trans e17).trans N18.kp).fresh_mut M6.fr, (B17.nw N18).other nlc.1 (B11.ne_new M6.fr).2, upd_same, ?_, by rw [List.length_append, List.length_singleton]; omega, ?_, ?_⟩
        · rw [List.map_append]
          exact dta_snoc (DtAll.kt (N18.kp.kt.trans kt) hws17) (.tup (SqT.kt kt (SqT.of N18')) (.cons (Dt.kt (N18.kp.kt.trans kt) hv17) (.cons (.int _) .nil)))
        · intro c hc
          rcases List.mem_append.mp hc with hc | hc
          · exact hcs c hc
          · rw [List.mem_singleton.mp hc]
            exact ⟨fitA dv hdv, by show i < i + 1 + nn; omega, by show i + 1 + nn < sz + 1; omega⟩
        · refine List.pairwise_append.mpr ⟨hdist, List.pairwise_singleton _ _, fun c hc c2 hc2 => ?_⟩
          rw [List.mem_singleton.mp hc2]
          rw [List.any_eq_false] at gn
          have := gn c.ans (List.mem_map_of_mem (f := Case.ans) hc)
          simpa using this
      · walk_at "st"
        exact ⟨_, _, _, ws, cs, rfl, e1116, B16, hlc16, hws16, by omega, hcs, hdist⟩
    · rintro σ H14 ⟨v9, v10, v11, ws, cs, rfl, e14, B14, hlc, hws, hcl, hcs, hdist⟩
      have hlr14 := e14.at1 nlb hlr11
      have kt14 : Kt H11 H14 := B11.kt e14
      have hrs14 := DtAll.kt kt14 hrs11
      have hax14 := hax11.kt kt14
      walk_at "st"
      refine c_tupleL (SqL.of hlc) fun pc H15 N15 => ?_
      walk_at "st"
      refine ⟨b, d, _, rfl, B14.nw N15, by omega, fun n16 H16 n160 n161 e16 B16 => ?_⟩
      obtain ⟨nn, rfl⟩ := Int.eq_ofNat_of_zero_le n160
      have B15 := B14.nw N15
      have npcb : pc ≠ b := (B14.ne_new N15.fr).1
      have kt16 : Kt H14 H16 := N15.kp.kt.trans (B15.kt e16)
      have hlr16 := e16.at1 nlb (N15.keep hlr14)
      walk_at "st"
      walk_at "nw"
      intro p17 H17 N17
      have hlr17 := N17.keep hlr16
      have hpc17 : H17 pc = some (.tup ws) := N17.keep (e16.at1 npcb N15.at_)
      have kt17 : Kt H14 H17 := kt16.trans N17.kp.kt
      refine ⟨lr, _, _, rfl, rfl, hlr17, by rw [sizeLine_eq]; omega, ?_⟩
      have kt : Kt H17 (upd H17 lr (.lst (xs ++ [V.ref p17]))) := Kt.upd1 (NoT.lst hlr17)
      have ktf := kt17.trans kt
      have enx : (0 : Int) + (i : Int) + 1 + (nn : Int) = ((i + 1 + nn : Nat) : Int) := by omega
      have N17' := N17.at_
      rw [enx] at N17'
      walk_at "st"
      refine ⟨_, _, _, _, _, _, _, xs ++ [V.ref p17], rs ++ [.act "act" x cs (i + 1 + nn)], rfl, ?_, (B16.nw N17).other nlb (B1.ne_new N2.fr).2, upd_same, ?_, by rw [List.length_append, hrl]; rfl, ?_, ?_⟩
      · exact ((((((e3.trans e4).trans e5).trans k5_11.mono).trans e14).trans (N15.kp.trans e16)).trans N17.kp).fresh_mut N2.fr
      · rw [List.map_append]
        exact dta_snoc (DtAll.kt ktf hrs14) (.tup (SqT.kt kt (SqT.of N17')) (.cons (.str _) (.cons (Dt.kt ktf hax14.dt) (.cons (.tup (SqT.kt kt (SqT.of hpc17)) (DtAll.kt ktf hws)) (.cons (.int _) .nil)))))
      · intro j v x' cs' o hj
        by_cases hjl : j < rs.length
        · rw [List.getElem?_append_left hjl] at hj
          exact ha j v x' cs' o hj
        · rw [List.getElem?_append_right (by omega)] at hj
          cases hz : j - rs.length with
          | zero =>
            rw [hz] at hj
            simp only [List.getElem?_cons_zero, Option.some.injEq, Row.act.injEq] at hj
            obtain ⟨rfl, rfl, rfl, rfl⟩ := hj
            have hji : j = i := by omega
            subst hji
            refine ⟨rfl, ⟨hxb, rfl, fun c hc => (hcs c hc).1, fun c hc => (hcs c hc).2, ?_, by omega⟩, hdist⟩
            constructor <;> omega
          | succ m => rw [hz] at hj; simp at hj
      · intro j v hj
        by_cases hjl : j < rs.length
        · rw [List.getElem?_append_left hjl] at hj
          exact hf j v hj
        · rw [List.getElem?_append_right (by omega)] at hj
          cases hz : j - rs.length with
          | zero => rw [hz] at hj; simp at hj
          | succ m => rw [hz] at hj; simp at hj
  · rintro σ H3 ⟨v5, v6, v7, v8, v9, v10, v11, xs, rs, rfl, e3, B3, hlr, hrs, hrl, ha, hf⟩
    walk_at "st"
    walk_at "nw"
    intro p4 H4 N4
    walk_at "st"
    walk_at "nw"
    intro p5 H5 N5
    walk_at "st"
    refine c_addL (N5.keep (N4.keep hlr)) N5.at_ (by rw [dta_len hrs, List.length_map, sizeLine_eq]; simp; omega) fun p6 H6 N6 => ?_
    walk_at "st"
    refine c_tupleL (SqL.of N6.at_) fun p7 H7 N7 => ?_
    have k37 : Kp [] H3 H7 := ((N4.kp.trans N5.kp).trans N6.kp).trans N7.kp
    have el : (rs ++ [Row.fin "stop"]).length = sz + 1 := by rw [List.length_append, hrl]; rfl
    refine q p7 (rs ++ [.fin "stop"]) H7 ⟨fun j v x cs o hj => ?_, fun j v hj => ?_, by rw [el]; omega, by rw [el]; omega⟩ (fun j v x cs o hj => ?_) ?_ (e1.trans (e3.trans k37.mono)) (B3.kp0 k37) ?_ (by rw [el]; omega)
    · rw [el]
      by_cases hjl : j < rs.length
      · rw [List.getElem?_append_left hjl] at hj
        obtain ⟨h1, h2, _⟩ := ha j v x cs o hj
        exact ⟨h1, h2⟩
      · rw [List.getElem?_append_right (by omega)] at hj
        cases hz : j - rs.length with
        | zero => rw [hz] at hj; simp at hj
        | succ m => rw [hz] at hj; simp at hj
    · by_cases hjl : j < rs.length
      · rw [List.getElem?_append_left hjl] at hj
        exact decide_eq_true (hf j v hj)
      · rw [List.getElem?_append_right (by omega)] at hj
        cases hz : j - rs.length with
        | zero => rw [hz] at hj; simp at hj; exact decide_eq_true hj.symm
        | succ m => rw [hz] at hj; simp at hj
    · by_cases hjl : j < rs.length
      · rw [List.getElem?_append_left hjl] at hj
        exact (ha j v x cs o hj).2.2
      · rw [List.getElem?_append_right (by omega)] at hj
        cases hz : j - rs.length with
        | zero => rw [hz] at hj; simp at hj
        | succ m => rw [hz] at hj; simp at hj
    · rw [el, List.getElem?_append_right (by omega), hrl]
      have : sz + 1 - 1 - sz = 0 := by omega
      rw [this]
      rfl
    · unfold agD
      rw [List.map_append]
      exact .tup (SqT.of N7.at_) (dta_app (DtAll.kp hrs k37) (.cons (.tup (SqT.kp ((N5.kp.trans N6.kp).trans N7.kp) (SqT.of N4.at_)) (.cons (.str _) .nil)) .nil))
theorem D__law_agent (T : TX K mg) : DefAt P w K mg base CX0 "_law_agent" 8 ["_law_box", "_law_files_here", "_law_many"] (spLAgent K) :=
  def_of T 36 57 sc__law_agent bn__law_agent (by walk_at "len") (b__law_agent T)
end
end K61



namespace K61
open PySem L2 Sa
/-! ## answers are equal where == says so -/
mutual
def noB : PyData → Bool
  | .int _ => true
  | .str _ => true
  | .tuple ds => noBs ds
  | _ => false
def noBs : List PyData → Bool
  | [] => true
  | d :: ds => noB d && noBs ds
end
mutual
theorem eqv_noB : ∀ (d e : PyData), noB d = true → noB e = true → PyData.eqv d e = true → d = e
  | .int i, .int j, _, _, h => by simp only [PyData.eqv, beq_iff_eq] at h; rw [h]
  | .str i, .str j, _, _, h => by simp only [PyData.eqv, beq_iff_eq] at h; rw [h]
  | .tuple xs, .tuple ys, h1, h2, h => by
    simp only [PyData.eqv] at h
    simp only [noB] at h1 h2
    rw [eqvs_noB xs ys h1 h2 h]
  | .none, _, h1, _, _ => by simp [noB] at h1
  | .bool _, _, h1, _, _ => by simp [noB] at h1
  | .list _, _, h1, _, _ => by simp [noB] at h1
  | .dict _, _, h1, _, _ => by simp [noB] at h1
  | _, .none, _, h1, _ => by simp [noB] at h1
  | _, .bool _, _, h1, _ => by simp [noB] at h1
  | _, .list _, _, h1, _ => by simp [noB] at h1
  | _, .dict _, _, h1, _ => by simp [noB] at h1
  | .int _, .str _, _, _, h => by simp [PyData.eqv] at h
  | .int _, .tuple _, _, _, h => by simp [PyData.eqv] at h
  | .str _, .int _, _, _, h => by simp [PyData.eqv] at h
  | .str _, .tuple _, _, _, h => by simp [PyData.eqv] at h
  | .tuple _, .int _, _, _, h => by simp [PyData.eqv] at h
  | .tuple _, .str _, _, _, h => by simp [PyData.eqv] at h
theorem eqvs_noB : ∀ (ds es : List PyData), noBs ds = true → noBs es = true → PyData.eqvAll ds es = true → ds = es
  | [], [], _, _, _ => rfl
  | [], _ :: _, _, _, h => by simp [PyData.eqvAll] at h
  | _ :: _, [], _, _, h => by simp [PyData.eqvAll] at h
  | d :: ds, e :: es, h1, h2, h => by
    simp only [PyData.eqvAll, Bool.and_eq_true] at h
    simp only [noBs, Bool.and_eq_true] at h1 h2
    rw [eqv_noB d e h1.1 h2.1 h.1, eqvs_noB ds es h1.2 h2.2 h.2]
end
mutual
theorem eqv_self : ∀ d : PyData, noB d = true → PyData.eqv d d = true
  | .int i, _ => by simp [PyData.eqv]
  | .str i, _ => by simp [PyData.eqv]
  | .tuple xs, h => by simp only [PyData.eqv]; simp only [noB] at h; exact eqvs_self xs h
  | .none, h => by simp [noB] at h
  | .bool _, h => by simp [noB] at h
  | .list _, h => by simp [noB] at h
  | .dict _, h => by simp [noB] at h
theorem eqvs_self : ∀ ds : List PyData, noBs ds = true → PyData.eqvAll ds ds = true
  | [], _ => by simp [PyData.eqvAll]
  | d :: ds, h => by
    simp only [noBs, Bool.and_eq_true] at h
    simp only [PyData.eqvAll, Bool.and_eq_true]
    exact ⟨eqv_self d h.1, eqvs_self ds h.2⟩
end
theorem eqv_ne {d e : PyData} (h1 : noB d = true) (h2 : noB e = true) (h : d ≠ e) : PyData.eqv d e = false := by
  cases hz : PyData.eqv d e with
  | false => rfl
  | true => exact absurd (eqv_noB d e h1 h2 hz) h
theorem noBs_strs : ∀ ys : List Str, noBs (ys.map PyData.str) = true
  | [] => rfl
  | y :: r => by simp only [List.map_cons, noBs, noB, Bool.true_and]; exact noBs_strs r
theorem noB_strsD (ys : List Str) : noB (strsD ys) = true := by unfold strsD; simp only [noB]; exact noBs_strs ys
theorem noBs_all : ∀ {ds : List PyData}, (∀ d ∈ ds, noB d = true) → noBs ds = true
  | [], _ => rfl
  | d :: r, h => by simp only [noBs, Bool.and_eq_true]; exact ⟨h d (List.mem_cons_self ..), noBs_all fun e he => h e (List.mem_cons_of_mem _ he)⟩
theorem noB_word (z : Str) : noB (wordD z) = true := by simp [wordD, noB, noBs]
theorem noB_found (fs : List File) (z w : Str) : noBs (foundF fs z w) = true := by
  refine noBs_all fun d hd => ?_
  unfold foundF at hd
  obtain ⟨p, _, hp⟩ := List.mem_flatMap.mp hd
  unfold rowsD at hp
  simp only [List.mem_map] at hp
  obtain ⟨i, _, rfl⟩ := hp
  simp [noB, noBs]
theorem noB_ask (fs : List File) (x : Action) : noB (askF fs x) = true := by
  cases x <;> simp only [askF] <;> (repeat' split) <;> first
    | exact noB_word _
    | (simp only [noB, noBs, Bool.true_and, Bool.and_true]; first | exact noB_strsD _ | exact noB_found _ _ _ | rfl)
theorem noB_act (fs : List File) (x : Action) : noB (actF fs x).1 = true := by
  unfold actF
  split
  · exact noB_ask fs x
  · cases x <;> simp only [deedF] <;> (repeat' split) <;> exact noB_word _
def EntB (e : Entry) : Prop := noB e.2 = true
theorem walk_noB {rs : List Row} {fs : List File} : ∀ n, ∀ e ∈ (walkN rs fs n).2.1, EntB e
  | 0, e, he => by cases he
  | n + 1, e, he => by
    have ih := walk_noB (rs := rs) (fs := fs) n
    have he : e ∈ (wstep rs (walkN rs fs n)).2.1 := he
    unfold wstep at he
    split at he
    · rcases List.mem_append.mp he with he | he
      · exact ih e he
      · rw [List.mem_singleton.mp he]; exact noB_act _ _
    · exact ih e he
/-! ## where a journal changes -/
def stateJ (gs : List File) (js : List Entry) (k : Nat) : List File := leadF gs ((js.take k).map Prod.fst)
theorem stateJ_succ {gs : List File} {js : List Entry} {k : Nat} {e : Entry} (h : js[k]? = some e) : stateJ gs js (k + 1) = (actF (stateJ gs js k) e.1).2 := by
  unfold stateJ
  rw [take_succ' h, List.map_append, List.map_singleton, lead_snoc]
def SameTo (gs : List File) (js : List Entry) (i : Nat) : Prop := ∀ k < i, ∀ e, js[k]? = some e → (actF (stateJ gs js k) e.1).1 = e.2
theorem change_none : ∀ {js : List Entry} {a : Nat} {gs : List File}, (∀ e ∈ js, EntB e) → changeF a gs js = none → SameTo gs js js.length
  | [], a, gs, _, _ => fun k hk => by simp at hk
  | e :: r, a, gs, hb, h => by
    unfold changeF at h
    split at h
    · rename_i g
      have ih := change_none (fun e' he => hb e' (List.mem_cons_of_mem _ he)) h
      intro k hk e' he'
      cases k with
      | zero => simp at he'; subst he'; exact eqv_noB _ _ (noB_act _ _) (hb e (List.mem_cons_self ..)) g
      | succ k => exact ih k (by simpa using hk) e' (by simpa using he')
    · cases h
theorem change_some : ∀ {js : List Entry} {a : Nat} {gs : List File} {i : Nat} {d : PyData}, (∀ e ∈ js, EntB e) → changeF a gs js = some (i, d) → ∃ k e, i = a + k ∧ js[k]? = some e ∧ d = (actF (stateJ gs js k) e.1).1 ∧ d ≠ e.2 ∧ SameTo gs js k
  | [], a, gs, i, d, _, h => by cases h
  | e :: r, a, gs, i, d, hb, h => by
    unfold changeF at h
    split at h
    · rename_i g
      obtain ⟨k, e2, h1, h2, h3, h4, h5⟩ := change_some (fun e' he => hb e' (List.mem_cons_of_mem _ he)) h
      refine ⟨k + 1, e2, by omega, h2, h3, h4, fun k' hk' e' he' => ?_⟩
      cases k' with
      | zero => simp at he'; subst he'; exact eqv_noB _ _ (noB_act _ _) (hb e (List.mem_cons_self ..)) g
      | succ k' => exact h5 k' (by omega) e' (by simpa using he')
    · rename_i g
      injection h with h
      injection h with h1 h2
      subst h1 h2
      refine ⟨0, e, rfl, rfl, rfl, fun z => g ?_, fun k hk => by omega⟩
      have hB := hb e (List.mem_cons_self ..)
      have z : (actF gs e.1).1 = e.2 := z
      rw [z]
      exact eqv_self _ hB
/-! ## rows that have a journal -/
structure Plays (rs : List Row) (js : List Entry) (pos : Nat → Nat) : Prop where
  zero : pos 0 = 0
  row : ∀ (k : Nat) (e : Entry), js[k]? = some e → ∃ w cs o, rs[pos k]? = some (.act w e.1 cs o) ∧ stepC cs o e.2 = pos (k + 1)
theorem plays_walk {rs : List Row} {js : List Entry} {pos : Nat → Nat} {gs : List File} (p : Plays rs js pos) : ∀ i, i ≤ js.length → SameTo gs js i → walkN rs gs i = (pos i, js.take i, stateJ gs js i)
  | 0, _, _ => by rw [p.zero]; rfl
  | i + 1, hi, hs => by
    have ih := plays_walk p i (by omega) fun k hk => hs k (by omega)
    obtain ⟨e, he⟩ : ∃ e, js[i]? = some e := ⟨_, List.getElem?_eq_getElem (by omega)⟩
    obtain ⟨w, cs, o, h1, h2⟩ := p.row i e he
    have h3 := hs i (by omega) e he
    show wstep rs (walkN rs gs i) = _
    rw [ih]
    unfold wstep
    simp only [h1]
    rw [h3, h2, take_succ' he, stateJ_succ he]
theorem plays_turn {rs : List Row} {js : List Entry} {pos : Nat → Nat} {gs : List File} (p : Plays rs js pos) {i : Nat} {e : Entry} (hs : SameTo gs js i) (he : js[i]? = some e) : ∃ w cs o, rs[pos i]? = some (.act w e.1 cs o) ∧
    walkN rs gs (i + 1) = (stepC cs o (actF (stateJ gs js i) e.1).1, js.take i ++ [(e.1, (actF (stateJ gs js i) e.1).1)], stateJ gs js (i + 1)) := by
  have hi : i < js.length := (List.getElem?_eq_some_iff.mp he).1
  have h := plays_walk p i (by omega) hs
  obtain ⟨w, cs, o, h1, h2⟩ := p.row i e he
  refine ⟨w, cs, o, h1, ?_⟩
  show wstep rs (walkN rs gs i) = _
  rw [h]
  unfold wstep
  simp only [h1]
  rw [stateJ_succ he]
theorem plays_after {rs : List Row} {js : List Entry} {pos : Nat → Nat} (p : Plays rs js pos) (hb : ∀ e ∈ js, e.1.bad = none) : ∀ k, k ≤ js.length → afterF rs (pos (js.length - k)) (js.drop (js.length - k)) = some (pos js.length)
  | 0, _ => by rw [Nat.sub_zero, List.drop_length]; rfl
  | k + 1, hk => by
    have ih := plays_after p hb k (by omega)
    have hlt : js.length - (k + 1) < js.length := by omega
    obtain ⟨e, he⟩ : ∃ e, js[js.length - (k + 1)]? = some e := ⟨_, List.getElem?_eq_getElem hlt⟩
    obtain ⟨w, cs, o, h1, h2⟩ := p.row _ e he
    have es : js.length - (k + 1) + 1 = js.length - k := by omega
    rw [after_step he, h1]
    simp only [eqv_act (hb e (List.mem_of_getElem? he)), if_true, h2, es]
    exact ih
theorem plays_has {rs : List Row} {js : List Entry} {pos : Nat → Nat} (p : Plays rs js pos) (hb : ∀ e ∈ js, e.1.bad = none) : afterF rs 0 js = some (pos js.length) := by
  have := plays_after p hb js.length (Nat.le_refl _)
  rw [Nat.sub_self, List.drop_zero, p.zero] at this
  exact this
/-- an agent has the journal that it lives -/
theorem agent_plays {rs : List Row} {w : Str} {fw : Str → Bool} {q : Action → Bool} {fs : List File} (R : RowsOk w fw q rs) (G : GoodP fs) {m : Nat} (ha : ∀ k < m, isAct rs (walkN rs fs k).1 = true) : Plays rs (walkN rs fs m).2.1 fun k => (walkN rs fs k).1 := by
  have far : ∀ n ≤ m, (walkN rs fs n).2.1.length = n := fun n hn => (walk_far (fs := fs) R n fun k hk => ha k (by omega)).2
  refine ⟨rfl, fun k e he => ?_⟩
  have hk : k < m := by have := (List.getElem?_eq_some_iff.mp he).1; rw [far m (Nat.le_refl _)] at this; exact this
  have hact := ha k hk
  unfold isAct at hact
  cases hr : rs[(walkN rs fs k).1]? with
  | none => rw [hr] at hact; cases hact
  | some r =>
    cases r with
    | fin v => rw [hr] at hact; cases hact
    | act v x cs o =>
      have es : walkN rs fs (k + 1) = (stepC cs o (actF (walkN rs fs k).2.2 x).1, (walkN rs fs k).2.1 ++ [(x, (actF (walkN rs fs k).2.2 x).1)], (actF (walkN rs fs k).2.2 x).2) := by
        show wstep rs (walkN rs fs k) = _
        unfold wstep
        rw [hr]
      have hen : (walkN rs fs m).2.1[k]? = some (x, (actF (walkN rs fs k).2.2 x).1) := by
        have pre1 := walk_pre (rs := rs) (fs := fs) (m := m) far (k + 1) (m - (k + 1)) (by omega)
        rw [show k + 1 + (m - (k + 1)) = m by omega, es] at pre1
        have h1 : ((walkN rs fs m).2.1.take (k + 1))[k]? = (walkN rs fs m).2.1[k]? := by rw [List.getElem?_take, if_pos (by omega)]
        rw [← h1, pre1]
        have lk := far k (by omega)
        show ((walkN rs fs k).2.1 ++ [_])[k]? = _
        rw [List.getElem?_append_right (by omega), lk, Nat.sub_self]
        rfl
      rw [he] at hen
      obtain rfl := Option.some.inj hen
      refine ⟨v, cs, o, rfl, ?_⟩
      rw [es]
/-! ## followers and doubters -/
def followR (js : List Entry) : List Row := (List.range js.length).map (fun i => match js[i]? with
  | some e => Row.act "act" e.1 [⟨e.2, i + 1⟩] js.length
  | none => .fin "stop") ++ [.fin "stop"]
def doubtX : Action := .write "doubt" []
def doubtAfter (n i : Nat) : Nat := if i + 1 < n then i + 1 else n + 1
def doubtR (js : List Entry) (at_ : Nat) : List Row := (List.range js.length).map (fun i => match js[i]? with
  | some e => Row.act "act" e.1 [⟨e.2, doubtAfter js.length i⟩] (if i = at_ then js.length else js.length + 1)
  | none => .fin "stop") ++ [.act "act" doubtX [] (js.length + 1), .fin "stop"]
theorem follow_at {js : List Entry} {k : Nat} {e : Entry} (h : js[k]? = some e) : (followR js)[k]? = some (.act "act" e.1 [⟨e.2, k + 1⟩] js.length) := by
  have hk := (List.getElem?_eq_some_iff.mp h).1
  unfold followR
  rw [List.getElem?_append_left (by rw [List.length_map, List.length_range]; exact hk), List.getElem?_map, List.getElem?_range hk]
  simp only [Option.map_some, h]
theorem follow_end (js : List Entry) : (followR js)[js.length]? = some (.fin "stop") := by
  unfold followR
  rw [List.getElem?_append_right (by rw [List.length_map, List.length_range]; exact Nat.le_refl _), List.length_map, List.length_range, Nat.sub_self]
  rfl
theorem follow_len (js : List Entry) : (followR js).length = js.length + 1 := by unfold followR; rw [List.length_append, List.length_map, List.length_range]; rfl
theorem doubt_at {js : List Entry} {at_ k : Nat} {e : Entry} (h : js[k]? = some e) : (doubtR js at_)[k]? = some (.act "act" e.1 [⟨e.2, doubtAfter js.length k⟩] (if k = at_ then js.length else js.length + 1)) := by
  have hk := (List.getElem?_eq_some_iff.mp h).1
  unfold doubtR
  rw [List.getElem?_append_left (by rw [List.length_map, List.length_range]; exact hk), List.getElem?_map, List.getElem?_range hk]
  simp only [Option.map_some, h]
theorem doubt_end (js : List Entry) (at_ : Nat) : (doubtR js at_)[js.length]? = some (.act "act" doubtX [] (js.length + 1)) ∧ (doubtR js at_)[js.length + 1]? = some (.fin "stop") := by
  unfold doubtR
  rw [List.getElem?_append_right (by rw [List.length_map, List.length_range]; exact Nat.le_refl _), List.getElem?_append_right (by rw [List.length_map, List.length_range]; omega), List.length_map, List.length_range, Nat.sub_self]
  exact ⟨rfl, by rw [show js.length + 1 - js.length = 1 by omega]; rfl⟩
theorem doubt_len (js : List Entry) (at_ : Nat) : (doubtR js at_).length = js.length + 2 := by unfold doubtR; rw [List.length_append, List.length_map, List.length_range]; rfl
theorem stepC_hit {a : PyData} {n o : Nat} (ha : noB a = true) : stepC [⟨a, n⟩] o a = n := by
  unfold stepC
  rw [eqv_self a ha, if_pos rfl]
theorem stepC_miss {a b : PyData} {n o : Nat} (ha : noB a = true) (hb : noB b = true) (h : a ≠ b) : stepC [⟨a, n⟩] o b = o := by
  unfold stepC
  rw [eqv_ne ha hb h, if_neg Bool.false_ne_true]
  rfl
theorem follow_plays {js : List Entry} (hb : ∀ e ∈ js, EntB e) : Plays (followR js) js id :=
  ⟨rfl, fun k e he => ⟨_, _, _, follow_at he, by rw [stepC_hit (hb e (List.mem_of_getElem? he))]; rfl⟩⟩
theorem doubt_plays {js : List Entry} {at_ : Nat} (hb : ∀ e ∈ js, EntB e) (hn : 0 < js.length) : Plays (doubtR js at_) js fun k => if k < js.length then k else js.length + 1 :=
  ⟨by rw [if_pos hn], fun k e he => by
    have hk := (List.getElem?_eq_some_iff.mp he).1
    refine ⟨_, _, _, by rw [if_pos hk]; exact doubt_at he, ?_⟩
    rw [stepC_hit (hb e (List.mem_of_getElem? he))]
    rfl⟩
theorem rows_ok_act {rs : List Row} {i : Nat} {x : Action} {cs : List Case} {o : Nat} (h1 : x.bad = none) (h2 : ∀ c ∈ cs, Fit 3 30000 c.ans) (h3 : ∀ c ∈ cs, i < c.next ∧ c.next < rs.length) (h4 : i < o ∧ o < rs.length) (h5 : cs.length ≤ 6) : RowOkA rs.length i (fun _ => true) cs x o := ⟨h1, rfl, h2, h3, h4, h5⟩
theorem follow_ok {js : List Entry} (hb : ∀ e ∈ js, EntOk e) (hl : js.length ≤ 23) : RowsOk "act" (fun w => decide (w = "stop")) (fun _ => true) (followR js) := by
  have fl := follow_len js
  refine ⟨fun i v x cs o h => ?_, fun i v h => ?_, by omega, by omega⟩
  · have hi : i < (followR js).length := (List.getElem?_eq_some_iff.mp h).1
    by_cases hk : i < js.length
    · obtain ⟨e, he⟩ : ∃ e, js[i]? = some e := ⟨_, List.getElem?_eq_getElem hk⟩
      rw [follow_at he] at h
      injection h with h
      injection h with e1 e2 e3 e4
      subst e1 e2 e3 e4
      have ok := hb e (List.mem_of_getElem? he)
      refine ⟨rfl, rows_ok_act ok.act (fun c hc => ?_) (fun c hc => ?_) ?_ (by simp)⟩
      · rw [List.mem_singleton.mp hc]; exact ok.ans
      · rw [List.mem_singleton.mp hc]; show i < i + 1 ∧ i + 1 < _; omega
      · omega
    · have : i = js.length := by omega
      rw [this, follow_end] at h
      cases h
  · have hi : i < (followR js).length := (List.getElem?_eq_some_iff.mp h).1
    by_cases hk : i < js.length
    · obtain ⟨e, he⟩ : ∃ e, js[i]? = some e := ⟨_, List.getElem?_eq_getElem hk⟩
      rw [follow_at he] at h
      cases h
    · have : i = js.length := by omega
      rw [this, follow_end] at h
      injection h with h
      injection h with h
      exact decide_eq_true h.symm
theorem doubt_ok {js : List Entry} {at_ : Nat} (hb : ∀ e ∈ js, EntOk e) (hl : js.length ≤ 22) : RowsOk "act" (fun w => decide (w = "stop")) (fun _ => true) (doubtR js at_) := by
  have fl := doubt_len js at_
  have dx : doubtX.bad = none := by decide +kernel
  refine ⟨fun i v x cs o h => ?_, fun i v h => ?_, by omega, by omega⟩
  · have hi : i < (doubtR js at_).length := (List.getElem?_eq_some_iff.mp h).1
    by_cases hk : i < js.length
    · obtain ⟨e, he⟩ : ∃ e, js[i]? = some e := ⟨_, List.getElem?_eq_getElem hk⟩
      rw [doubt_at he] at h
      injection h with h
      injection h with e1 e2 e3 e4
      subst e1 e2 e3 e4
      have ok := hb e (List.mem_of_getElem? he)
      refine ⟨rfl, rows_ok_act ok.act (fun c hc => ?_) (fun c hc => ?_) ?_ (by simp)⟩
      · rw [List.mem_singleton.mp hc]; exact ok.ans
      · rw [List.mem_singleton.mp hc]
        show i < doubtAfter js.length i ∧ doubtAfter js.length i < _
        unfold doubtAfter
        split <;> omega
      · split <;> omega
    · by_cases h2 : i = js.length
      · rw [h2, (doubt_end js at_).1] at h
        injection h with h
        injection h with e1 e2 e3 e4
        subst e1 e2 e3 e4
        exact ⟨rfl, rows_ok_act dx (by simp) (by simp) (by omega) (by simp)⟩
      · have : i = js.length + 1 := by omega
        rw [this, (doubt_end js at_).2] at h
        cases h
  · have hi : i < (doubtR js at_).length := (List.getElem?_eq_some_iff.mp h).1
    by_cases hk : i < js.length
    · obtain ⟨e, he⟩ : ∃ e, js[i]? = some e := ⟨_, List.getElem?_eq_getElem hk⟩
      rw [doubt_at he] at h
      cases h
    · by_cases h2 : i = js.length
      · rw [h2, (doubt_end js at_).1] at h
        cases h
      · have : i = js.length + 1 := by omega
        rw [this, (doubt_end js at_).2] at h
        injection h with h
        injection h with h
        exact decide_eq_true h.symm
end K61



namespace K61
open PySem L2 Sa
local macro_rules | `(tactic| walk_at "s1") => `(tactic| first | (with_reducible apply c_dgetK))
local macro_rules | `(tactic| walk_at "s1") => `(tactic| (with_reducible apply c_raiseO))
local macro_rules | `(tactic| walk_at "s1") => `(tactic| first | (with_reducible apply c_un) | (with_reducible apply c_negI))
theorem c_un {r : V → Hp → VK → Prop} {ta : TE} {σ : St} {H : Hp} {Q : VK} (h : ta σ H fun x H1 => r x H1 Q) : tUn r ta σ H Q := h
theorem c_negI {i : Int} {H : Hp} {Q : VK} (q : Q (.int (-i)) H) : rU (fun i => .int (-i)) (.int i) H Q := ⟨i, rfl, q⟩
theorem c_ifX {c : Prop} [Decidable c] {ta tb : TE} {σ : St} {H : Hp} {Q : VK} (R : V → Prop) (h1 : c → ∀ Q' : VK, (∀ v, R v → Q' v H) → ta σ H Q') (h2 : ¬ c → ∀ Q' : VK, (∀ v, R v → Q' v H) → tb σ H Q') (k : ∀ v, R v → Q v H) : if decide c = true then ta σ H Q else tb σ H Q :=
  c_ite (fun h => h1 h Q k) (fun h => h2 h Q k)
section
variable {P : Program} {w : World} {K : PySem.W.Frag} {mg : Str → Option Value} {base : Heap}
def isOfF (rs : List Row) (js : List Entry) : Bool := match afterF rs 0 js with
  | none => false
  | some a => !isAct rs a
theorem after_in {rs : List Row} {w : Str} {fw : Str → Bool} {q : Action → Bool} (R : RowsOk w fw q rs) : ∀ {js : List Entry} {a b : Nat}, a < rs.length → afterF rs a js = some b → b < rs.length
  | [], a, b, h, e => by injection e with e; omega
  | x :: r, a, b, h, e => by
    unfold afterF at e
    split at e
    · rename_i hr
      split at e
      · obtain ⟨_, rok⟩ := R.row _ _ _ _ _ hr
        exact after_in R (stepC_mem rok x.2).2 e
      · cases e
    · cases e
def spIsOf (K : PySem.W.Frag) : Sp := fun vs H Q _ => ∃ (g j : Addr) (rs : List Row) (js : List Entry) (kq : Action → Bool), vs = [.ref g, .ref j] ∧ Dt K H (.ref g) (agD rs) ∧ RowsOk "act" (fun w => decide (w = "stop")) kq rs ∧ Dt K H (.ref j) (jourD js) ∧ (∀ e ∈ js, EntOk e) ∧ js.length ≤ 1000 ∧
  Q (.bl (isOfF rs js)) H
def spFollower (K : PySem.W.Frag) : Sp := fun vs H Q _ => ∃ (j : Addr) (js : List Entry), vs = [.ref j] ∧ Dt K H (.ref j) (jourD js) ∧ js.length ≤ 23 ∧ ∀ g H', Kp [] H H' → Dt K H' (.ref g) (agD (followR js)) → Q (.ref g) H'
end
end K61



namespace K61
open PySem L2 Sa
local macro_rules | `(tactic| walk_at "s1") => `(tactic| first | (with_reducible apply c_dgetK))
local macro_rules | `(tactic| walk_at "s1") => `(tactic| (with_reducible apply c_raiseO))
local macro_rules | `(tactic| walk_at "s1") => `(tactic| first | (with_reducible apply c_un) | (with_reducible apply c_negI))
section
variable {P : Program} {w : World} {K : PySem.W.Frag} {mg : Str → Option Value} {base : Heap}
def spDoubter (K : PySem.W.Frag) : Sp := fun vs H Q E => ∃ (j : Addr) (js : List Entry) (at_ : Int), vs = [.ref j, .int at_] ∧ Dt K H (.ref j) (jourD js) ∧ js.length ≤ 22 ∧ (0 ≤ at_ ∧ at_ < js.length → ∀ g H', Kp [] H H' → Dt K H' (.ref g) (agD (doubtR js at_.toNat)) → Q (.ref g) H') ∧
  (¬ (0 ≤ at_ ∧ at_ < js.length) → RaisesE K H E "at")
def doubtD (js : List Entry) (at_ i : Nat) : PyData := (match js[i]? with
  | some e => Row.act "act" e.1 [⟨e.2, doubtAfter js.length i⟩] (if i = at_ then js.length else js.length + 1)
  | none => .fin "stop").d
end
end K61



namespace K61
open PySem L2 Sa
local macro_rules | `(tactic| walk_at "s1") => `(tactic| first | (with_reducible apply c_dgetK))
local macro_rules | `(tactic| walk_at "s1") => `(tactic| (with_reducible apply c_raiseO))
local macro_rules | `(tactic| walk_at "s1") => `(tactic| first | (with_reducible apply c_un) | (with_reducible apply c_negI))
/-! ## rows as they are handed in -/
abbrev CaseZ := PyData × Int
inductive RowZ where
  | fin (w : Str)
  | act (w : Str) (x : Action) (cs : List CaseZ) (o : Int)
def caseZ (c : CaseZ) : PyData := .tuple [c.1, .int c.2]
def RowZ.d : RowZ → PyData
  | .fin w => .tuple [.str w]
  | .act w x cs o => .tuple [.str w, x.d, .tuple (cs.map caseZ), .int o]
def agZ (rs : List RowZ) : PyData := .tuple (rs.map RowZ.d)
def goodRowF (x : Action) (cs : List CaseZ) (o at_ many : Int) : Bool := x.bad.isNone && (decide (cs.length ≤ 6) && (!(cs.any fun c => decide ((1 : Int) < (((cs.map Prod.fst).countP fun z => PyData.eqv z c.1 : Nat) : Int))) && ((decide (at_ < o) && decide (o < many)) && cs.all fun c => decide (at_ < c.2) && decide (c.2 < many))))
section
variable {K : PySem.W.Frag} {H : Hp}
theorem rowZ_act {v : V} {w : Str} {x : Action} {cs : List CaseZ} {o : Int} (h : Dt K H v (RowZ.act w x cs o).d) : ∃ p a c, v = .ref p ∧ SqT K H p [.str w, .ref a, .ref c, .int o] ∧ ActAt K H a x ∧ Dt K H (.ref c) (.tuple (cs.map caseZ)) := by
  obtain ⟨p, xs, rfl, h1, h2⟩ := dt_tup h
  obtain ⟨us, rfl, h3⟩ := dta_one h2
  obtain ⟨u, vs, rfl, h4, h5⟩ := dta_cons h3
  obtain ⟨a, rfl, ha⟩ := ActAt.of h4
  obtain ⟨u2, vs2, rfl, h6, h7⟩ := dta_cons h5
  obtain ⟨c, ys, rfl, _, _⟩ := dt_tup h6
  obtain ⟨u3, vs3, rfl, h8, h9⟩ := dta_cons h7
  rw [dt_int h8, dta_nil h9] at h1
  exact ⟨p, a, c, rfl, h1, ha, h6⟩
theorem caseZ_at {vs : List V} {cs : List CaseZ} {i : Nat} {c : CaseZ} (h : DtAll K H vs (cs.map caseZ)) (hc : cs[i]? = some c) : ∃ p u, vs[i]? = some (.ref p) ∧ SqT K H p [u, .int c.2] ∧ Dt K H u c.1 := by
  obtain ⟨v, h1, h2⟩ := dta_get h (show (cs.map caseZ)[i]? = some (caseZ c) by rw [List.getElem?_map, hc]; rfl)
  obtain ⟨p, xs, rfl, h3, h4⟩ := dt_tup h2
  obtain ⟨u, us, rfl, h5, h6⟩ := dta_cons h4
  obtain ⟨u2, us2, rfl, h7, h8⟩ := dta_cons h6
  rw [dt_int h7, dta_nil h8] at h3
  exact ⟨p, u, h1, h3, h5⟩
end
section
variable {P : Program} {w : World} {K : PySem.W.Frag} {mg : Str → Option Value} {base : Heap}
def spGoodRow (K : PySem.W.Frag) : Sp := fun vs H Q _ => ∃ (p a c : Addr) (wd : Str) (x : Action) (cs : List CaseZ) (o at_ many : Int), vs = [.ref p, .int at_, .int many] ∧ SqT K H p [.str wd, .ref a, .ref c, .int o] ∧ ActAt K H a x ∧ x.sane ∧ Dt K H (.ref c) (.tuple (cs.map caseZ)) ∧ cs.length ≤ 30 ∧ (∀ c ∈ cs, Fit 3 30000 c.1) ∧
  ∀ H', Kp [] H H' → Q (.bl (goodRowF x cs o at_ many)) H'
theorem sc_is_good_row : FnScope ["row", "at", "many", "_", "action", "cases", "other", "answers", "answer", "after"] ["row", "at", "many"] (defScope s_is_good_row) := ⟨rfl, rfl, rfl, by decide +kernel, rfl, by decide +kernel, by decide +kernel⟩
theorem bn_is_good_row : BindN "is_good_row" s_is_good_row ["row", "at", "many"] := fun _ _ _ _ _ _ us hl => match us, hl with | [_, _, _], _ => rfl
theorem b_is_good_row (T : TX K mg) : Body P w K mg base "is_good_row" s_is_good_row ["row", "at", "many", "_", "action", "cases", "other", "answers", "answer", "after"] 5 (spGoodRow K) := by
  intro cdv A outer s H vs Q E h X hr
  obtain ⟨p, a, c, wd, x, cs, o, at_, many, rfl, hp, hax, hsx, hc, cl, fc, q⟩ := h
  have D_check_action := D_check_action (P := P) (w := w) (base := base) T
  refine ⟨_, (pss_cons (ps_asg (pv 0) (pg_tupU (K := K) (n := 4) rfl (pgs_cons (pg_name (i := 3) sc_is_good_row.nd rfl (Or.inl rfl)) (pgs_cons (pg_name (i := 4) sc_is_good_row.nd rfl (Or.inl rfl)) (pgs_cons (pg_name (i := 5) sc_is_good_row.nd rfl (Or.inl rfl)) (pgs_cons (pg_name (i := 6) sc_is_good_row.nd rfl (Or.inl rfl)) pgs_nil)))))) (pss_cons (ps_try_many rfl rfl takes_never (fun W pn xe tk1 po1 => (pss_one (ps_expr (pe_callX D_check_action hr tk1 (pa_cons (pv 4) pa_nil))))) (HdsOk.cons (names_glo (T.glo 17)) (fun a oe cls d pn hz hf => (pss_one (ps_ret pe_bl))) HdsOk.nil)) (pss_cons (ps_set (i := 7) sc_is_good_row.nd rfl (Or.inr rfl) (pe_lc (own := [("answer", 8), ("_", 3)]) rfl sc_is_good_row.nd (pi_tupU (K := K) (pv 5)) (blkOk_by (N := ["row", "at", "many", "_", "action", "cases", "other", "answers", "answer", "after"]) (sc := defScope s_is_good_row) (by decide +kernel)) (fun _ _ _ _ _ => (pg_tupU (K := K) (n := 2) rfl (pgs_cons (pg_name (i := 8) sc_is_good_row.nd rfl (Or.inl rfl)) (pgs_cons (pg_name (i := 3) sc_is_good_row.nd rfl (Or.inl rfl)) pgs_nil)))) (fun _ _ _ _ _ => pts_nil) (fun _ _ _ _ _ => (pv 8)))) (pss_cons (ps_if (PW.pt (pw_or (pt_cmpR op_gtU (pe_callB (cr_len (K := K)) rfl (T.free 2) PySem.boot_len (pa_cons (pv 5) pa_nil)) (pe_gInt (T.int 21)) (nomark _)) (pw_or1 (pt_tru (K := K) (pe_callB (cr_anyU (K := K) rfl) rfl (T.free 20) (by decide +kernel) (pa_cons (pe_lc (own := [("answer", 8)]) rfl sc_is_good_row.nd (pi_listU (K := K) (pv 7)) (blkOk_by (N := ["row", "at", "many", "_", "action", "cases", "other", "answers", "answer", "after"]) (sc := defScope s_is_good_row) (by decide +kernel)) (fun _ _ _ _ _ => (pg_name (i := 8) sc_is_good_row.nd rfl (Or.inl rfl))) (fun _ _ _ _ _ => pts_nil) (fun _ _ _ _ _ => (pe_cmpR op_gtU (pe_lcountU (K := K) (u65 hr) (pv 7) (pv 8)) pe_int (nomark _)))) pa_nil)))))) (pss_one (ps_ret pe_bl)) pss_nil) (pss_one (ps_ret (pe_and (pe_chain op_ltU op_ltU (pv 1) (pv 6) (pv 2)) (pe_one (pe_callB (cr_allU (K := K) rfl) rfl (T.free 0) (by decide +kernel) (pa_cons (pe_lc (own := [("_", 3), ("after", 9)]) rfl sc_is_good_row.nd (pi_tupU (K := K) (pv 5)) (blkOk_by (N := ["row", "at", "many", "_", "action", "cases", "other", "answers", "answer", "after"]) (sc := defScope s_is_good_row) (by decide +kernel)) (fun _ _ _ _ _ => (pg_tupU (K := K) (n := 2) rfl (pgs_cons (pg_name (i := 3) sc_is_good_row.nd rfl (Or.inl rfl)) (pgs_cons (pg_name (i := 9) sc_is_good_row.nd rfl (Or.inl rfl)) pgs_nil)))) (fun _ _ _ _ _ => pts_nil) (fun _ _ _ _ _ => (pe_chain op_ltU op_ltU (pv 1) (pv 9) (pv 2)))) pa_nil)))))))))), ?_⟩
  obtain ⟨c', ys, e0, hys, hds⟩ := dt_tup hc
  injection e0 with e0
  subst e0
  have hyl : ys.length = cs.length := by rw [dta_len hds, List.length_map]
  walk_at "st"
  first | refine c_unT hp rfl ?_ | skip
  walk_at "st"
  refine ⟨a, x, rfl, hax, hsx, fun hb H1 e1 => ?_, fun nm hb d H1 e1 hd => ?_⟩
  rotate_left
  · refine ⟨true, He.exm_ok (T.fact 94), fun _ ea hea => ?_, fun z => nomatch z⟩
    walk_at "st"
    have g := q H1 e1
    unfold goodRowF at g
    rw [hb] at g
    exact g
  have q' : ∀ bb H', Kp [] H H' → (decide (cs.length ≤ 6) && (!(cs.any fun c => decide ((1 : Int) < (((cs.map Prod.fst).countP fun z => PyData.eqv z c.1 : Nat) : Int))) && ((decide (at_ < o) && decide (o < many)) && cs.all fun c => decide (at_ < c.2) && decide (c.2 < many)))) = bb → Q (.bl bb) H' := fun bb H' e h => by
    have g := q H' e
    unfold goodRowF at g
    rw [hb, h] at g
    exact g
  clear q
  have ds1 := DtAll.kp hds e1
  have hys1 : SqT K H1 c (ys.map id) := by rw [List.map_id]; exact SqT.kp e1 hys
  have pickF : ∀ m : Nat, ∃ u : V, m < cs.length → ∃ p cc, ys[m]? = some (.ref p) ∧ cs[m]? = some cc ∧ SqT K H1 p [u, .int cc.2] ∧ Dt K H1 u cc.1 := fun m => by
    by_cases hm : m < cs.length
    · obtain ⟨cc, hcc⟩ : ∃ cc, cs[m]? = some cc := ⟨_, List.getElem?_eq_getElem hm⟩
      obtain ⟨p, u, h1, h2, h3⟩ := caseZ_at ds1 hcc
      exact ⟨u, fun _ => ⟨p, cc, h1, hcc, h2, h3⟩⟩
    · exact ⟨.non, fun h => absurd h hm⟩
  obtain ⟨fu, hfu⟩ := Classical.axiomOfChoice pickF
  let c0 : CaseZ := (.none, 0)
  walk_at "st"
  first | refine ⟨c, rfl, ⟨_, hys1⟩, ?_⟩ | skip
  refine lcQ_map (itn_t (ys := ys) (u := id)) fu (by omega) (fun H' e => SqT.kp e hys1) (fun m y H' H'' R S hm e z k => ?_) (fun Dl H2 hD e2 hacc => ?_)
  · obtain ⟨rfl, u, hu, rfl⟩ := z
    obtain ⟨p, cc, h1, h2, h3, h4⟩ := hfu m (by omega)
    rw [hu] at h1
    obtain rfl := Option.some.inj h1
    have h3' := SqT.kp e h3
    walk_at "st"
    first | (refine c_unT h3' rfl ?_; walk_at "st") | skip
    refine ⟨rfl, ?_⟩
    walk_at "st"
    exact k _ Kp.refl
  rw [hyl] at hacc
  have dD : DtAll K H2 ((List.range cs.length).map fu) (cs.map Prod.fst) := dta_of (by rw [List.length_map, List.length_map, List.length_range]) fun m dd hdd => by
    rw [List.getElem?_map] at hdd
    obtain ⟨cc, hcc, rfl⟩ := Option.map_eq_some_iff.mp hdd
    have hm : m < cs.length := (List.getElem?_eq_some_iff.mp hcc).1
    obtain ⟨p, cc2, h1, h2, h3, h4⟩ := hfu m hm
    rw [hcc] at h2
    obtain rfl := Option.some.inj h2
    exact ⟨fu m, by rw [List.getElem?_map, List.getElem?_range hm]; rfl, Dt.kp h4 e2⟩
  have fitC : Fit 4 900030 (.list (cs.map Prod.fst)) := ((FitAll.of fun dd hdd => by obtain ⟨c, hc, rfl⟩ := List.mem_map.mp hdd; exact fc c hc).mono (Nat.le_refl _) (by rw [List.length_map]; exact Nat.le_trans (Nat.mul_le_mul_left _ cl) (by decide))).lst
  have e12 : Kp [] H H2 := e1.trans e2
  have hys2 := SqT.kp e2 hys1
  have hysr := SqT.kp e12 hys
  walk_at "st"
  rw [hyl]
  refine c_ite (fun g6 => ?_) (fun g6 => ?_)
  · walk_at "st"
    refine q' _ H2 e12 ?_
    rw [decide_eq_false (by omega), Bool.false_and]
  have hsq : SqL K H2 Dl (((List.range cs.length).map fu).map id) := by rw [List.map_id]; exact SqL.of hacc
  have rl : ((List.range cs.length).map fu).length = cs.length := by rw [List.length_map, List.length_range]
  let G : CaseZ → Bool := fun c => decide ((1 : Int) < (((cs.map Prod.fst).countP fun z => PyData.eqv z c.1 : Nat) : Int))
  walk_at "st"
  first | refine ⟨Dl, rfl, ⟨_, hsq⟩, ?_⟩ | skip
  refine lcQ_map (itn_l (ys := (List.range cs.length).map fu) (u := id)) (fun i => V.bl (G (cs.getD i c0))) (by omega) (fun H' e => SqL.kp e hsq) (fun m y H' H'' R S hm e z k => ?_) (fun D2 H3 hD2 e3 hacc3 => ?_)
  · obtain ⟨rfl, u, hu, rfl⟩ := z
    have hmc : m < cs.length := by omega
    obtain ⟨p, cc, h1, h2, h3, h4⟩ := hfu m hmc
    rw [List.getElem?_map, List.getElem?_range hmc] at hu
    obtain rfl := Option.some.inj hu
    have hl2 := e.at0 hacc
    walk_at "st"
    refine ⟨rfl, ?_⟩
    walk_at "st"
    first | refine ⟨Or.inl ⟨rfl, _, SqL.of hl2⟩, ?_⟩ | skip
    walk_at "st"
    refine c_cntD (.lst (SqL.of hl2) (DtAll.kp dD e).dp) (Dt.kp h4 (e2.trans e)).dp (fitC.shaped (by decide)) ((fc cc (List.mem_of_getElem? h2)).shaped (by decide)) ?_
    walk_at "st"
    have eg : cs.getD m c0 = cc := getD_of h2
    rw [eg] at k
    exact k _ Kp.refl
  rw [rl, range_getD cs c0 (fun c => V.bl (G c))] at hacc3
  have hacc3' : H3 D2 = some (.lst ((cs.map G).map V.bl)) := by rw [List.map_map]; exact hacc3
  refine c_anyB (SqL.of hacc3') ?_
  have ea : (cs.map G).any id = cs.any G := by rw [List.any_map]; rfl
  rw [ea]
  have e13 := e12.trans e3
  have hys3 := SqT.kp e3 hys2
  walk_at "st"
  refine c_iteB (fun gA => ?_) (fun gA => ?_)
  · walk_at "st"
    refine q' _ H3 e13 ?_
    have gA : (cs.any fun c => decide ((1 : Int) < (((cs.map Prod.fst).countP fun z => PyData.eqv z c.1 : Nat) : Int))) = true := gA
    rw [gA, Bool.not_true, Bool.false_and, Bool.and_false]
  have gA : (cs.any fun c => decide ((1 : Int) < (((cs.map Prod.fst).countP fun z => PyData.eqv z c.1 : Nat) : Int))) = false := gA
  have q2 : ∀ bb H', Kp [] H H' → ((decide (at_ < o) && decide (o < many)) && cs.all fun c => decide (at_ < c.2) && decide (c.2 < many)) = bb → Q (.bl bb) H' := fun bb H' e h => q' bb H' e (by rw [decide_eq_true (by omega), gA, Bool.not_false, Bool.true_and, Bool.true_and]; exact h)
  walk_at "st"
  refine c_ite (fun go => ?_) (fun go => ?_)
  rotate_left
  · walk_at "st"
    exact q2 _ H3 e13 (by rw [decide_eq_false go, Bool.false_and, Bool.false_and])
  walk_at "st"
  refine c_ite (fun go2 => ?_) (fun go2 => ?_)
  rotate_left
  · walk_at "st"
    exact q2 _ H3 e13 (by rw [decide_eq_false go2, Bool.and_false, Bool.false_and])
  let F : CaseZ → Bool := fun c => decide (at_ < c.2) && decide (c.2 < many)
  walk_at "st"
  first | refine ⟨c, rfl, ⟨_, hys3⟩, ?_⟩ | skip
  refine lcQ_map (itn_t (ys := ys) (u := id)) (fun i => V.bl (F (cs.getD i c0))) (by omega) (fun H' e => SqT.kp e hys3) (fun m y H' H'' R S hm e z k => ?_) (fun D3 H4 hD3 e4 hacc4 => ?_)
  · obtain ⟨rfl, u, hu, rfl⟩ := z
    obtain ⟨p, cc, h1, h2, h3, h4⟩ := hfu m (by omega)
    rw [hu] at h1
    obtain rfl := Option.some.inj h1
    have h3' := SqT.kp ((e2.trans e3).trans e) h3
    have eg : cs.getD m c0 = cc := getD_of h2
    rw [eg] at k
    walk_at "st"
    first | (refine c_unT h3' rfl ?_; walk_at "st") | skip
    refine ⟨rfl, ?_⟩
    walk_at "st"
    refine c_ite (fun ga => ?_) (fun ga => ?_)
    · walk_at "st"
      have : F cc = decide (cc.2 < many) := by show (decide (at_ < cc.2) && decide (cc.2 < many)) = _; rw [decide_eq_true ga, Bool.true_and]
      rw [this] at k
      exact k _ Kp.refl
    · walk_at "st"
      have : F cc = false := by show (decide (at_ < cc.2) && decide (cc.2 < many)) = _; rw [decide_eq_false ga, Bool.false_and]
      rw [this] at k
      exact k _ Kp.refl
  rw [hyl, range_getD cs c0 (fun c => V.bl (F c))] at hacc4
  have hacc4' : H4 D3 = some (.lst ((cs.map F).map V.bl)) := by rw [List.map_map]; exact hacc4
  refine c_allB (SqL.of hacc4') ?_
  have ea4 : (cs.map F).all id = cs.all F := by rw [List.all_map]; rfl
  rw [ea4]
  walk_at "st"
  exact q2 _ H4 (e13.trans e4) (by rw [decide_eq_true go, decide_eq_true go2, Bool.true_and, Bool.true_and])
theorem D_is_good_row (T : TX K mg) : DefAt P w K mg base CX0 "is_good_row" 6 ["row", "at", "many"] (spGoodRow K) :=
  def_of T 9 22 sc_is_good_row bn_is_good_row (by walk_at "len") (b_is_good_row T)
end
end K61



namespace K61
open PySem L2 Sa
local macro_rules | `(tactic| walk_at "s1") => `(tactic| first | (with_reducible apply c_dgetK))
local macro_rules | `(tactic| walk_at "s1") => `(tactic| (with_reducible apply c_raiseO))
local macro_rules | `(tactic| walk_at "s1") => `(tactic| first | (with_reducible apply c_un) | (with_reducible apply c_negI))
/-! ## whole agents as they are handed in -/
structure Lay (n : Nat) (d : PyData) : Prop where
  lay : PyData.canLay0 d = true
  dep : PyData.depth d ≤ n
theorem Lay.of {n w : Nat} {d : PyData} (h : Fit n w d) : Lay n d := ⟨h.lay, h.dep⟩
theorem Lay.int (n : Nat) (i : Int) : Lay n (.int i) := ⟨by simp only [PyData.canLay0], by simp only [PyData.depth]; omega⟩
theorem Lay.str (n : Nat) {z : Str} (h : okS z = true) : Lay n (.str z) := ⟨by unfold PyData.canLay0; exact h, by simp only [PyData.depth]; omega⟩
theorem Lay.mono {n m : Nat} {d : PyData} (h : Lay n d) (hm : n ≤ m) : Lay m d := ⟨h.lay, Nat.le_trans h.dep hm⟩
theorem lay_all {n : Nat} : ∀ {ds : List PyData}, (∀ d ∈ ds, Lay n d) → PyData.canLayAll0 ds = true ∧ PyData.depthAll ds ≤ n
  | [], _ => ⟨by simp only [PyData.canLayAll0], by simp only [PyData.depthAll]; omega⟩
  | d :: r, h => by
    obtain ⟨h1, h2⟩ := lay_all fun e he => h e (List.mem_cons_of_mem _ he)
    have h3 := h d (List.mem_cons_self ..)
    exact ⟨by simp only [PyData.canLayAll0, h3.lay, h1, Bool.and_self], by simp only [PyData.depthAll]; exact Nat.max_le.mpr ⟨h3.dep, h2⟩⟩
theorem Lay.tup {n : Nat} {ds : List PyData} (h : ∀ d ∈ ds, Lay n d) : Lay (n + 1) (.tuple ds) := by
  obtain ⟨h1, h2⟩ := lay_all h
  exact ⟨by simp only [PyData.canLay0]; exact h1, by simp only [PyData.depth]; omega⟩
theorem Lay.shaped {n : Nat} {d : PyData} (h : Lay n d) (hn : n ≤ 64) : SeqAt.shaped d = true := by
  unfold SeqAt.shaped
  rw [h.lay, decide_eq_true (Nat.le_trans h.dep hn)]
  rfl
def RowSane (wd : Str) (fw : Str → Bool) : RowZ → Prop
  | .fin w => fw w = true
  | .act w x cs _ => w = wd ∧ x.sane ∧ Lay 2 x.d ∧ cs.length ≤ 30 ∧ ∀ c ∈ cs, Fit 3 30000 c.1
theorem lay_row {wd w : Str} {fw : Str → Bool} {x : Action} {cs : List CaseZ} {o : Int} (h : RowSane wd fw (.act w x cs o)) (hw : okS wd = true) : Lay 6 (RowZ.act w x cs o).d := by
  obtain ⟨rfl, _, h2, _, h4⟩ := h
  refine Lay.tup fun d hd => ?_
  simp only [List.mem_cons, List.not_mem_nil, or_false] at hd
  rcases hd with rfl | rfl | rfl | rfl
  · exact Lay.str _ hw
  · exact h2.mono (by omega)
  · refine (Lay.tup (n := 4) fun d hd => ?_).mono (by omega)
    obtain ⟨c, hc, rfl⟩ := List.mem_map.mp hd
    refine Lay.tup (n := 3) fun d hd => ?_
    simp only [List.mem_cons, List.not_mem_nil, or_false] at hd
    rcases hd with rfl | rfl
    · exact Lay.of (h4 c hc)
    · exact Lay.int _ _
  · exact Lay.int _ _
def rowGoodZ (qk : Action → Bool) (at_ many : Int) : RowZ → Bool
  | .fin _ => true
  | .act _ x cs o => qk x && goodRowF x cs o at_ many
def allGood (qk : Action → Bool) (many : Int) : Nat → List RowZ → Bool
  | _, [] => true
  | i, r :: t => rowGoodZ qk i many r && allGood qk many (i + 1) t
theorem allGood_drop {qk : Action → Bool} {many : Int} {rs : List RowZ} {i : Nat} {r : RowZ} (h : rs[i]? = some r) : allGood qk many i (rs.drop i) = (rowGoodZ qk i many r && allGood qk many (i + 1) (rs.drop (i + 1))) := by
  have hi : i < rs.length := (List.getElem?_eq_some_iff.mp h).1
  have e2 : rs[i] = r := (List.getElem?_eq_some_iff.mp h).2
  rw [List.drop_eq_getElem_cons hi, e2]
  rfl
def isFinZ : Option RowZ → Bool
  | some (.fin _) => true
  | _ => false
def agentF (qk : Action → Bool) (rs : List RowZ) : Bool := (decide (1 ≤ rs.length) && decide (rs.length ≤ 24)) && (isFinZ rs[rs.length - 1]? && allGood qk rs.length 0 rs)
theorem eqvZ_act (w : Str) (x : Action) (cs : List CaseZ) (o : Int) (z : Str) : PyData.eqv (RowZ.act w x cs o).d (.tuple [.str z]) = false := by simp [RowZ.d, PyData.eqv, PyData.eqvAll]
theorem eqvZ_fin (w z : Str) : PyData.eqv (RowZ.fin w).d (.tuple [.str z]) = decide (w = z) := by
  simp only [RowZ.d, PyData.eqv, PyData.eqvAll, Bool.and_true]
  exact Bool.beq_eq_decide_eq _ _
/-! rows that are good -/
def Row.z : Row → RowZ
  | .fin w => .fin w
  | .act w x cs o => .act w x (cs.map fun c => (c.ans, (c.next : Int))) o
theorem row_z (r : Row) : r.z.d = r.d := by
  cases r with
  | fin w => rfl
  | act w x cs o =>
    simp only [Row.z, RowZ.d, Row.d, List.map_map]
    rfl
theorem ag_z (rs : List Row) : agZ (rs.map Row.z) = agD rs := by
  unfold agZ agD
  rw [List.map_map]
  congr 1
  exact List.map_congr_left fun r _ => row_z r
theorem beq_turn {α : Type} [BEq α] [LawfulBEq α] (a b : α) : (a == b) = (b == a) := by
  rw [Bool.eq_iff_iff, beq_iff_eq, beq_iff_eq]
  exact ⟨Eq.symm, Eq.symm⟩
mutual
theorem eqv_turn : ∀ x y : PyData, PyData.eqv x y = PyData.eqv y x
  | .none, y => by cases y <;> simp only [PyData.eqv]
  | .bool a, y => by cases y <;> first | (simp only [PyData.eqv]; done) | (simp only [PyData.eqv]; exact beq_turn _ _)
  | .int a, y => by cases y <;> first | (simp only [PyData.eqv]; done) | (simp only [PyData.eqv]; exact beq_turn _ _)
  | .str a, y => by cases y <;> first | (simp only [PyData.eqv]; done) | (simp only [PyData.eqv]; exact beq_turn _ _)
  | .list a, .list b => by simp only [PyData.eqv]; exact eqvs_turn a b
  | .tuple a, .tuple b => by simp only [PyData.eqv]; exact eqvs_turn a b
  | .dict _, y => by cases y <;> simp only [PyData.eqv]
  | .list _, .none => by simp only [PyData.eqv]
  | .list _, .bool _ => by simp only [PyData.eqv]
  | .list _, .int _ => by simp only [PyData.eqv]
  | .list _, .str _ => by simp only [PyData.eqv]
  | .list _, .tuple _ => by simp only [PyData.eqv]
  | .list _, .dict _ => by simp only [PyData.eqv]
  | .tuple _, .none => by simp only [PyData.eqv]
  | .tuple _, .bool _ => by simp only [PyData.eqv]
  | .tuple _, .int _ => by simp only [PyData.eqv]
  | .tuple _, .str _ => by simp only [PyData.eqv]
  | .tuple _, .list _ => by simp only [PyData.eqv]
  | .tuple _, .dict _ => by simp only [PyData.eqv]
theorem eqvs_turn : ∀ xs ys : List PyData, PyData.eqvAll xs ys = PyData.eqvAll ys xs
  | [], [] => rfl
  | [], _ :: _ => by simp only [PyData.eqvAll]
  | _ :: _, [] => by simp only [PyData.eqvAll]
  | x :: xs, y :: ys => by simp only [PyData.eqvAll]; rw [eqv_turn x y, eqvs_turn xs ys]
end
theorem count_one : ∀ {ds : List PyData} {c : PyData}, ds.Pairwise (fun a b => PyData.eqv a b = false) → c ∈ ds → (∀ d ∈ ds, PyData.eqv d d = true) → ds.countP (fun z => PyData.eqv z c) = 1
  | d :: r, c, hp, hc, hs => by
    have h1 := (List.pairwise_cons.mp hp).1
    have h2 := (List.pairwise_cons.mp hp).2
    have zero : ∀ {l : List PyData} {e : PyData}, (∀ z ∈ l, PyData.eqv z e = false) → l.countP (fun z => PyData.eqv z e) = 0 := fun {l e} h => by
      rw [List.countP_eq_zero]
      intro z hz
      rw [h z hz]
      exact Bool.false_ne_true
    rw [List.countP_cons]
    rcases List.mem_cons.mp hc with rfl | hc
    · rw [if_pos (hs c (List.mem_cons_self ..)), zero fun z hz => by rw [eqv_turn]; exact h1 z hz]
    · have hd := h1 c hc
      rw [if_neg (by rw [hd]; exact Bool.false_ne_true), Nat.add_zero]
      exact count_one h2 hc fun e he => hs e (List.mem_cons_of_mem _ he)
theorem allGood_of {qk : Action → Bool} {many : Int} : ∀ {rs : List RowZ} {i : Nat}, (∀ (k : Nat) (r : RowZ), rs[k]? = some r → rowGoodZ qk ((i + k : Nat) : Int) many r = true) → allGood qk many i rs = true
  | [], _, _ => rfl
  | r :: t, i, h => by
    unfold allGood
    rw [Bool.and_eq_true]
    refine ⟨h 0 r rfl, allGood_of fun k r' hr => ?_⟩
    have := h (k + 1) r' (by simpa using hr)
    rw [show i + 1 + k = i + (k + 1) by omega]
    exact this
theorem agent_good {rs : List Row} {w : Str} {fw : Str → Bool} {qk : Action → Bool} (R : RowsOk w fw qk rs) (D : RowsDist rs) (hl : ∃ v, rs[rs.length - 1]? = some (.fin v)) : agentF qk (rs.map Row.z) = true := by
  obtain ⟨v, hv⟩ := hl
  have h0 := R.some_
  have h1 := R.few
  unfold agentF
  rw [List.length_map, List.getElem?_map, hv, Bool.and_eq_true, Bool.and_eq_true, Bool.and_eq_true, decide_eq_true_eq, decide_eq_true_eq]
  refine ⟨⟨by omega, h1⟩, rfl, allGood_of fun k r hr => ?_⟩
  rw [List.getElem?_map] at hr
  obtain ⟨r0, hr0, rfl⟩ := Option.map_eq_some_iff.mp hr
  rw [Nat.zero_add]
  cases r0 with
  | fin v => rfl
  | act v x cs o =>
    obtain ⟨rfl, ok⟩ := R.row _ _ _ _ _ hr0
    have dist := D _ _ _ _ _ hr0
    show (qk x && goodRowF x (cs.map fun c => (c.ans, (c.next : Int))) o k rs.length) = true
    rw [ok.kind, Bool.true_and]
    unfold goodRowF
    rw [ok.act, List.length_map, List.map_map]
    have e1 : ((Prod.fst : CaseZ → PyData) ∘ fun c : Case => (c.ans, (c.next : Int))) = Case.ans := rfl
    rw [e1]
    have ow := ok.oth
    simp only [Option.isNone_none, Bool.true_and, Bool.and_eq_true, decide_eq_true_eq, Bool.not_eq_true']
    refine ⟨ok.few, ?_, ⟨by omega, by omega⟩, ?_⟩
    · rw [List.any_eq_false]
      intro c hc
      obtain ⟨c0, hc0, rfl⟩ := List.mem_map.mp hc
      have pw : (cs.map Case.ans).Pairwise (fun a b => PyData.eqv a b = false) := List.pairwise_map.mpr dist
      have c1 := count_one pw (List.mem_map_of_mem (f := Case.ans) hc0) fun d hd => by
        obtain ⟨c2, hc2, rfl⟩ := List.mem_map.mp hd
        exact PySem.SeqAt.eqv_refl _ (ok.ans c2 hc2).lay
      show ¬ (decide ((1 : Int) < ((cs.map Case.ans).countP (fun z => PyData.eqv z c0.ans) : Nat)) = true)
      rw [c1]
      decide
    · rw [List.all_eq_true]
      intro c hc
      obtain ⟨c0, hc0, rfl⟩ := List.mem_map.mp hc
      have := ok.nxt c0 hc0
      simp only [Bool.and_eq_true, decide_eq_true_eq]
      omega
theorem rows_saneZ {rs : List Row} {w : Str} {fw : Str → Bool} {qk : Action → Bool} (R : RowsOk w fw qk rs) : ∀ r ∈ rs.map Row.z, RowSane w fw r := fun r hr => by
  obtain ⟨r0, hr0, rfl⟩ := List.mem_map.mp hr
  obtain ⟨i, hi⟩ := List.mem_iff_getElem?.mp hr0
  cases r0 with
  | fin v => exact R.fin _ _ hi
  | act v x cs o =>
    obtain ⟨rfl, ok⟩ := R.row _ _ _ _ _ hi
    refine ⟨rfl, bad_sane ok.act, Lay.of (fit_action ok.act), by rw [List.length_map]; have := ok.few; omega, fun c hc => ?_⟩
    obtain ⟨c0, hc0, rfl⟩ := List.mem_map.mp hc
    exact ok.ans c0 hc0
section
variable {P : Program} {w : World} {K : PySem.W.Frag} {mg : Str → Option Value} {base : Heap}
def spIsAgent (K : PySem.W.Frag) : Sp := fun vs H Q _ => ∃ (g : Addr) (rs : List RowZ), vs = [.ref g] ∧ Dt K H (.ref g) (agZ rs) ∧ rs.length ≤ 60 ∧ (∀ r ∈ rs, RowSane "act" (fun w => decide (w = "stop")) r) ∧ ∀ H', Kp [] H H' → Q (.bl (agentF (fun _ => true) rs)) H'
theorem sc__is_agent : FnScope ["agent", "at", "row"] ["agent"] (defScope s__is_agent) := ⟨rfl, rfl, rfl, by decide +kernel, rfl, by decide +kernel, by decide +kernel⟩
theorem bn__is_agent : BindN "_is_agent" s__is_agent ["agent"] := fun _ _ _ _ _ _ us hl => match us, hl with | [_], _ => rfl
theorem b__is_agent (T : TX K mg) : Body P w K mg base "_is_agent" s__is_agent ["agent", "at", "row"] 6 (spIsAgent K) := by
  intro cdv A outer s H vs Q E h X hr
  obtain ⟨g, rs, rfl, hg, rl, hsane, q⟩ := h
  have D_is_good_row := D_is_good_row (P := P) (w := w) (base := base) T
  refine ⟨_, (pss_cons (ps_if (PW.pt (pw_or (pt_not (pt_chain op_leU op_leU pe_int (pe_callB (cr_len (K := K)) rfl (T.free 2) PySem.boot_len (pa_cons (pv 0) pa_nil)) (pe_gInt (T.int 25)))) (pw_or1 (pt_cmpR (op_neU (K := K) hr.units) (pe_ix (ix_U (K := K)) (pv 0) (pe_un un_neg pe_int) (fun _ _ => rfl)) (pe_gCon (T.glo 24)) (nomark _))))) (pss_one (ps_ret pe_bl)) pss_nil) (pss_cons (ps_for PassesOwn.never rfl (pi_enumT (K := K) rfl (T.free 23) (pa_cons (pv 0) pa_nil)) (pg_tupU (K := K) (n := 2) rfl (pgs_cons (pg_name (i := 1) sc__is_agent.nd rfl (Or.inl rfl)) (pgs_cons (pg_name (i := 2) sc__is_agent.nd rfl (Or.inl rfl)) pgs_nil))) (pss_one (ps_if (PW.pt (pw_and (pt_cmpR (op_neU (K := K) hr.units) (pv 2) (pe_gCon (T.glo 24)) (nomark _)) (pw_and1 (pt_not (pt_tru (K := K) (pe_callA D_is_good_row hr pass0 (pa_cons (pv 2) (pa_cons (pv 1) (pa_cons (pe_callB (cr_len (K := K)) rfl (T.free 2) PySem.boot_len (pa_cons (pv 0) pa_nil)) pa_nil))))))))) (pss_one (ps_ret pe_bl)) pss_nil))) (pss_one (ps_ret pe_bl)))), ?_⟩
  obtain ⟨g', ys, e0, hys, hds⟩ := dt_tup hg
  injection e0 with e0
  subst e0
  have hyl : ys.length = rs.length := by rw [dta_len hds, List.length_map]
  have aok : okS ("act" : Str) = true := by decide +kernel
  have fin1 : ∀ {i : Nat} {v : Str}, rs[i]? = some (.fin v) → v = "stop" := fun h => by
    have := hsane _ (List.mem_of_getElem? h)
    simpa [RowSane] using this
  have no : ∀ H', Kp [] H H' → agentF (fun _ => true) rs = false → Q (.bl false) H' := fun H' e h => by have := q H' e; rw [h] at this; exact this
  walk_at "st"
  rw [hyl]
  refine c_ite (fun ga => ?_) (fun ga => ?_)
  rotate_left
  · walk_at "st"
    exact no _ Kp.refl (by unfold agentF; rw [decide_eq_false (by omega : ¬ 1 ≤ rs.length)]; rfl)
  walk_at "st"
  refine c_iteN (fun gb => ?_) (fun gb => ?_)
  · walk_at "st"
    exact no _ Kp.refl (by unfold agentF; rw [decide_eq_false (by omega : ¬ rs.length ≤ 24), Bool.and_false, Bool.false_and])
  have hl1 : rs.length - 1 < rs.length := by omega
  obtain ⟨r, hr⟩ : ∃ r, rs[rs.length - 1]? = some r := ⟨_, List.getElem?_eq_getElem hl1⟩
  obtain ⟨u, hu1, hu2⟩ := dta_get hds (show (rs.map RowZ.d)[rs.length - 1]? = some r.d by rw [List.getElem?_map, hr]; rfl)
  have hneg : atI ys (-1) = some u := by
    have h3 := (List.getElem?_eq_some_iff.mp hu1).1
    unfold atI ixN
    rw [if_neg (by omega), if_pos (by omega)]
    have e1 : (-1 + (ys.length : Int)).toNat = rs.length - 1 := by omega
    simp only [Option.bind_some, e1]
    first | exact hu1 | (simp [e1]; exact hu1)
  walk_at "st"
  refine c_ixT hys hneg ?_
  walk_at "st"
  have sane := hsane _ (List.mem_of_getElem? hr)
  cases r with
  | act w1 x cs o =>
    have hl := lay_row sane aok
    refine c_neD hu2.dp (stop_dp T _) (hl.shaped (by decide)) (by decide +kernel) ?_
    rw [eqvZ_act]
    walk_at "dc"
    refine no _ Kp.refl ?_
    unfold agentF
    rw [hr]
    show (_ && (false && _)) = false
    rw [Bool.false_and, Bool.and_false]
  | fin w1 =>
    obtain rfl := fin1 hr
    refine c_neD hu2.dp (stop_dp T _) (by decide +kernel) (by decide +kernel) ?_
    rw [eqvZ_fin]
    walk_at "dc"
    have ag : agentF (fun _ => true) rs = allGood (fun _ => true) rs.length 0 rs := by
      unfold agentF
      rw [hr, decide_eq_true (by omega : 1 ≤ rs.length), decide_eq_true (by omega : rs.length ≤ 24)]
      rfl
    rw [ag] at q
    have hys' : SqT K H g (ys.map id) := by rw [List.map_id]; exact hys
    refine ⟨g, _, rfl, hys', ?_⟩
    refine forQ (itn_et (ys := ys) (u := id)) (fun i σ H' => ∃ v1 v2, σ = [some (.ref g), v1, v2] ∧ Kp [] H H' ∧ allGood (fun _ => true) rs.length 0 rs = allGood (fun _ => true) rs.length i (rs.drop i)) ⟨_, _, rfl, Kp.refl, by rw [List.drop_zero]⟩ (by rintro i σ H' ⟨_, _, _, e, _⟩; exact SqT.kp e hys') ?_ ?_
    · rintro i y σ H1 H2 hi ⟨v1, v2, rfl, e1, hs⟩ ⟨T1, u1, rfl, N, hu⟩
      obtain ⟨r1, hr1⟩ : ∃ r1, rs[i]? = some r1 := ⟨_, List.getElem?_eq_getElem (by omega)⟩
      obtain ⟨u2, h1, h2⟩ := dta_get hds (show (rs.map RowZ.d)[i]? = some r1.d by rw [List.getElem?_map, hr1]; rfl)
      rw [hu] at h1
      obtain rfl := Option.some.inj h1
      have k2 : Kp [] H H2 := e1.trans N.kp
      have h2' := Dt.kp h2 k2
      have N' := N.at_
      have sane1 := hsane _ (List.mem_of_getElem? hr1)
      rw [allGood_drop hr1] at hs
      walk_at "st"
      first | (refine c_unT (SqT.of N') rfl ?_; walk_at "st") | skip
      cases r1 with
      | fin w2 =>
        obtain rfl := fin1 hr1
        refine c_neD h2'.dp (stop_dp T _) (by decide +kernel) (by decide +kernel) ?_
        rw [eqvZ_fin]
        walk_at "dc"
        exact ⟨_, _, rfl, k2, by rw [hs]; rfl⟩
      | act w2 x cs o =>
        have hl := lay_row sane1 aok
        obtain ⟨rfl, s1, s2, s3, s4⟩ := sane1
        refine c_neD h2'.dp (stop_dp T _) (hl.shaped (by decide)) (by decide +kernel) ?_
        rw [eqvZ_act]
        obtain ⟨pr, ax, ac, rfl, hpr, hax, hac⟩ := rowZ_act h2'
        have hys2 := SqT.kp k2 hys
        walk_at "dc"
        rw [hyl]
        refine ⟨pr, ax, ac, _, x, cs, o, (i : Int), (rs.length : Int), rfl, hpr, hax, s1, hac, s3, s4, fun H3 e3 => ?_⟩
        walk_at "st"
        refine c_iteNB (fun gg => ?_) (fun gg => ?_)
        · walk_at "st"
          have := q H3 (k2.trans e3)
          rw [hs] at this
          simp only [rowGoodZ, gg, Bool.and_false, Bool.false_and] at this
          exact this
        · walk_at "st"
          refine ⟨_, _, rfl, k2.trans e3, ?_⟩
          rw [hs]
          simp only [rowGoodZ, gg, Bool.true_and]
    · rintro σ H1 ⟨v1, v2, rfl, e1, hs⟩
      rw [List.drop_of_length_le (by omega)] at hs
      walk_at "st"
      have := q H1 e1
      rw [hs] at this
      exact this
theorem D__is_agent (T : TX K mg) : DefAt P w K mg base CX0 "_is_agent" 7 ["agent"] (spIsAgent K) :=
  def_of T 10 26 sc__is_agent bn__is_agent (by walk_at "len") (b__is_agent T)
def spCheckAgent (K : PySem.W.Frag) : Sp := fun vs H Q E => ∃ (g : Addr) (rs : List RowZ), vs = [.ref g] ∧ Dt K H (.ref g) (agZ rs) ∧ rs.length ≤ 60 ∧ (∀ r ∈ rs, RowSane "act" (fun w => decide (w = "stop")) r) ∧ (agentF (fun _ => true) rs = true → ∀ H', Kp [] H H' → Q .non H') ∧ (agentF (fun _ => true) rs = false → RaisesE K H E "agent")
theorem sc_check_agent : FnScope ["agent"] ["agent"] (defScope s_check_agent) := ⟨rfl, rfl, rfl, by decide +kernel, rfl, by decide +kernel, by decide +kernel⟩
theorem bn_check_agent : BindN "check_agent" s_check_agent ["agent"] := fun _ _ _ _ _ _ us hl => match us, hl with | [_], _ => rfl
theorem b_check_agent (T : TX K mg) : BodyX P w K mg base "check_agent" s_check_agent ["agent"] 7 (spCheckAgent K) := by
  intro cdv A outer s H vs Q E h X hr tk
  obtain ⟨g, rs, rfl, hg, rl, hsane, q1, q2⟩ := h
  have D__is_agent := D__is_agent (P := P) (w := w) (base := base) T; have E_OutOfRange := E_OutOfRange (P := P) (w := w) (base := base) T
  refine ⟨_, (pss_one (ps_if (pt_not (pt_tru (K := K) (pe_callA D__is_agent hr pass0 (pa_cons (pv 0) pa_nil)))) (pss_one (ps_raiseE (K := K) E_OutOfRange hr tk (pa_cons pe_str pa_nil))) pss_nil)), ?_⟩
  walk_at "st"
  refine ⟨g, rs, rfl, hg, rl, hsane, fun H1 e1 => ?_⟩
  walk_at "st"
  refine c_iteNB (fun gg => ?_) (fun gg => ?_)
  · walk_at "st"
    exact c_err fun d H2 N => q2 gg d H2 (e1.trans N.kp) N.at_
  · walk_at "st"
    exact q1 gg _ e1
theorem D_check_agent (T : TX K mg) : DefAt P w K mg base (L2.CX P w) "check_agent" 8 ["agent"] (spCheckAgent K) :=
  def_ofX T 11 27 sc_check_agent bn_check_agent (by walk_at "len") (b_check_agent T)
end
end K61



namespace K61
open PySem L2 Sa
/-! ## desks, plainly -/
abbrev stopW : Str → Bool := fun w => decide (w = "stop")
structure DoneE where
  nm : Str
  ser : Int
  ver : Option Int
  js : List Entry
structure Dk where
  num : Int
  ser : Int
  nm : Str
  ag : Option (List Row)
  ep : Option Int
  att : Int
  jr : List Entry
  row : Nat
  done : List DoneE
inductive Res where
  | refused (at_ : Nat) (ans : PyData) (since : Int)
  | waiting
  | failed (ns : PyData)
  | accepted (v : Int)
inductive Letter where
  | opened (num ser ep : Int)
  | lost (num ser ep : Int)
  | answer (num ser att pos : Int) (ans : PyData)
  | result (num ser att : Int) (r : Res)
def Letter.num : Letter → Int
  | .opened n _ _ => n
  | .lost n _ _ => n
  | .answer n _ _ _ _ => n
  | .result n _ _ _ => n
def Letter.ser : Letter → Int
  | .opened _ n _ => n
  | .lost _ n _ => n
  | .answer _ n _ _ _ => n
  | .result _ n _ _ => n
abbrev optV : Option Int → V
  | none => .non
  | some i => .int i
def optE : Option Int → PyData
  | none => .none
  | some i => .int i
def doneD (e : DoneE) : PyData := .tuple [.str e.nm, .int e.ser, optE e.ver, jourD e.js]
def rowOf (rs : List Row) (js : List Entry) : Nat := (afterF rs 0 js).getD 0
def beginS (s : Dk) : Dk := { s with ser := s.ser + 1, ep := none, att := 0, jr := [], row := 0 }
def finishS (s : Dk) (v : Option Int) : Dk := { s with done := s.done ++ [⟨s.nm, s.ser, v, s.jr⟩], ag := none }
def goneS (s : Dk) (rs : List Row) (js : List Entry) : Dk := { s with jr := js, row := rowOf rs js }
def isAcc : Res → Bool
  | .accepted _ => true
  | _ => false
def resS (rs : List Row) (s : Dk) (att : Int) (r : Res) : Bool × Dk :=
  if s.ep.isNone || (!decide (att = s.att) && !isAcc r) then (false, s) else match r with
  | .accepted v => (true, finishS s (some v))
  | .failed _ => (true, finishS s none)
  | .waiting => (true, { s with att := s.att + 1 })
  | .refused a _ _ => (true, goneS { s with att := s.att + 1 } rs (s.jr.take a))
def ansS (rs : List Row) (s : Dk) (att pos : Int) (ans : PyData) : Bool × Dk := match rs[s.row]? with
  | some (.act _ x _ _) => if s.ep.isNone || !(decide (att = s.att) && decide (pos = s.jr.length)) then (false, s) else (true, goneS s rs (s.jr ++ [(x, ans)]))
  | _ => (false, s)
def heardA (rs : List Row) (s : Dk) : Letter → Bool × Dk
  | .opened _ _ e => if s.ep.isSome then (false, s) else (true, { s with ep := some e })
  | .lost _ _ e => if s.ep = some e then (true, beginS s) else (false, s)
  | .answer _ _ att pos ans => ansS rs s att pos ans
  | .result _ _ att r => resS rs s att r
def heardS (s : Dk) (L : Letter) : Bool × Dk := match s.ag with
  | none => (false, s)
  | some rs => if decide (L.num = s.num) && decide (L.ser = s.ser) then heardA rs s L else (false, s)
def wantedD (s : Dk) : PyData := match s.ag with
  | none => .none
  | some rs => match s.ep with
    | none => .tuple [.str "open", .int s.num, .int s.ser, .str s.nm]
    | some e => match rs[s.row]? with
      | some (.act _ x _ _) => .tuple [.str "act", .int s.num, .int s.ser, .int e, .int s.att, .int s.jr.length, x.d]
      | _ => .tuple [.str "submit", .int s.num, .int s.ser, .int e, .int s.att, .int s.jr.length]
/-! what stays within bounds -/
def pot (s : Dk) : Nat := (s.done.map fun e => e.js.length + 2).sum + (if s.ag.isSome && s.ep.isSome then 1 + s.jr.length else 0)
structure NameOk (z : Str) : Prop where
  ok : okS z = true
  len : z.length ≤ 8
structure JrOk (js : List Entry) : Prop where
  ent : ∀ e ∈ js, EntOk e
  len : js.length ≤ 6
structure DoneOk (e : DoneE) : Prop where
  nm : NameOk e.nm
  ser : 0 ≤ e.ser ∧ e.ser ≤ 200
  ver : ∀ v, e.ver = some v → 0 ≤ v ∧ v ≤ 200
  js : JrOk e.js
structure AgOk (rs : List Row) (s : Dk) : Prop where
  rows : RowsOk "act" stopW (fun _ => true) rs
  few : rs.length ≤ 7
  at_ : afterF rs 0 s.jr = some s.row
  ser : 0 ≤ s.ser
  ep0 : s.ep = none → s.jr = []
structure OkD (n m : Nat) (s : Dk) : Prop where
  num : 0 ≤ s.num ∧ s.num ≤ 2
  ser : -1 ≤ s.ser ∧ s.ser + 1 ≤ m
  nm : NameOk s.nm
  ep : ∀ e, s.ep = some e → 0 ≤ e ∧ e ≤ 200
  att : 0 ≤ s.att ∧ s.att ≤ n
  jr : JrOk s.jr
  ag : ∀ rs, s.ag = some rs → AgOk rs s
  done : ∀ e ∈ s.done, DoneOk e
  pot : pot s ≤ n
def ResOk : Res → Prop
  | .refused _ ans _ => Fit 3 30000 ans
  | .accepted v => 0 ≤ v ∧ v ≤ 200
  | _ => True
def LetOk : Letter → Prop
  | .opened _ _ e => 0 ≤ e ∧ e ≤ 200
  | .answer _ _ _ _ ans => Fit 3 30000 ans
  | .result _ _ _ r => ResOk r
  | _ => True
theorem after_far {rs : List Row} {w : Str} {fw : Str → Bool} {q : Action → Bool} (R : RowsOk w fw q rs) : ∀ {js : List Entry} {a b : Nat}, afterF rs a js = some b → a + js.length ≤ b
  | [], a, b, h => by injection h with h; subst h; exact Nat.le_refl _
  | e :: r, a, b, h => by
    unfold afterF at h
    split at h
    · rename_i v x cs o hr
      split at h
      · obtain ⟨_, ok⟩ := R.row _ _ _ _ _ hr
        have h1 := after_far R h
        have h2 := (stepC_mem ok e.2).1
        rw [List.length_cons]
        omega
      · cases h
    · cases h
theorem after_lt {rs : List Row} {w : Str} {fw : Str → Bool} {q : Action → Bool} (R : RowsOk w fw q rs) : ∀ {js : List Entry} {a b : Nat}, a < rs.length → afterF rs a js = some b → b < rs.length
  | [], a, b, ha, h => by injection h with h; subst h; exact ha
  | e :: r, a, b, ha, h => by
    unfold afterF at h
    split at h
    · rename_i v x cs o hr
      split at h
      · obtain ⟨_, ok⟩ := R.row _ _ _ _ _ hr
        exact after_lt R (stepC_mem ok e.2).2 h
      · cases h
    · cases h
theorem after_take {rs : List Row} {js : List Entry} {b : Nat} (h : afterF rs 0 js = some b) (n : Nat) : ∃ c, afterF rs 0 (js.take n) = some c := by
  have e : js = js.take n ++ js.drop n := (List.take_append_drop n js).symm
  rw [e, after_app] at h
  cases q : afterF rs 0 (js.take n) with
  | none => rw [q] at h; cases h
  | some c => exact ⟨c, rfl⟩
theorem after_more {rs : List Row} {js : List Entry} {b : Nat} {w : Str} {x : Action} {cs : List Case} {o : Nat} {ans : PyData} (h : afterF rs 0 js = some b) (hr : rs[b]? = some (.act w x cs o)) (hb : x.bad = none) : afterF rs 0 (js ++ [(x, ans)]) = some (stepC cs o ans) := by
  rw [after_app, h]
  show (match rs[b]? with
    | some (.act _ y ds p) => if PyData.eqv y.d x.d = true then afterF rs (stepC ds p ans) [] else none
    | _ => none) = _
  rw [hr]
  simp only [eqv_act hb, if_true]
  rfl
theorem AgOk.in_ {rs : List Row} {s : Dk} (h : AgOk rs s) : s.row < rs.length := after_lt h.rows h.rows.some_ h.at_
theorem AgOk.jlen {rs : List Row} {s : Dk} (h : AgOk rs s) : s.jr.length ≤ 6 := by
  have h1 := after_far h.rows h.at_
  have h2 := h.in_
  have h3 := h.few
  omega
theorem AgOk.row_take {rs : List Row} {s : Dk} (h : AgOk rs s) (n : Nat) : afterF rs 0 (s.jr.take n) = some (rowOf rs (s.jr.take n)) := by
  obtain ⟨c, hc⟩ := after_take h.at_ n
  unfold rowOf
  rw [hc]
  rfl
theorem begin_ok {n m : Nat} {s : Dk} {rs : List Row} (O : OkD n m s) (R : RowsOk "act" stopW (fun _ => true) rs) (few : rs.length ≤ 7) (nm : Str) (hn : NameOk nm) : OkD n (m + 1) (beginS { s with nm := nm, ag := some rs }) where
  num := O.num
  ser := by have := O.ser; simp only [beginS]; omega
  nm := hn
  ep := fun e h => by cases h
  att := ⟨Int.le_refl _, by simp only [beginS]; omega⟩
  jr := ⟨by simp [beginS], by simp [beginS]⟩
  ag := fun rs' h => by
    injection h with h
    subst h
    exact ⟨R, few, rfl, by have := O.ser; simp only [beginS]; omega, fun _ => rfl⟩
  done := O.done
  pot := by
    have := O.pot
    simp only [pot, beginS, Option.isSome_some, Option.isSome_none, Bool.and_false, Bool.false_eq_true, if_false] at this ⊢
    omega
theorem lost_ok {n m : Nat} {s : Dk} {rs : List Row} (O : OkD n m s) (ha : s.ag = some rs) : OkD n (m + 1) (beginS s) := by
  have A := O.ag rs ha
  have e : beginS s = beginS { s with nm := s.nm, ag := some rs } := by rw [← ha]
  rw [e]
  exact begin_ok O A.rows A.few s.nm O.nm
theorem OkD.mono {n m n' m' : Nat} {s : Dk} (O : OkD n m s) (h1 : n ≤ n') (h2 : m ≤ m') : OkD n' m' s :=
  ⟨O.num, by have := O.ser; omega, O.nm, O.ep, by have := O.att; omega, O.jr, O.ag, O.done, Nat.le_trans O.pot h1⟩
theorem finish_ok {n m : Nat} {s : Dk} {rs : List Row} {v : Option Int} (O : OkD n m s) (ha : s.ag = some rs) (he : s.ep.isNone = false) (hm : m ≤ 200) (hv : ∀ i, v = some i → 0 ≤ i ∧ i ≤ 200) : OkD (n + 1) m (finishS s v) where
  num := O.num
  ser := O.ser
  nm := O.nm
  ep := O.ep
  att := by have := O.att; simp only [finishS]; omega
  jr := O.jr
  ag := fun rs' h => by cases h
  done := fun e h => by
    rcases List.mem_append.mp h with h | h
    · exact O.done e h
    · rw [List.mem_singleton.mp h]
      exact ⟨O.nm, by have := O.ser; have := (O.ag rs ha).ser; simp only; omega, hv, O.jr⟩
  pot := by
    have h := O.pot
    have e1 : s.ep.isSome = true := by cases q : s.ep <;> simp_all
    simp only [pot, ha, e1, Option.isSome_some, Bool.and_self, if_true] at h
    simp only [pot, finishS, Option.isSome_none, Bool.false_and, Bool.false_eq_true, if_false, List.map_append, List.sum_append, List.map_cons, List.map_nil, List.sum_cons, List.sum_nil]
    omega
theorem wait_ok {n m : Nat} {s : Dk} (O : OkD n m s) : OkD (n + 1) m { s with att := s.att + 1 } where
  num := O.num
  ser := O.ser
  nm := O.nm
  ep := O.ep
  att := by have := O.att; simp only; omega
  jr := O.jr
  ag := fun rs h => ⟨(O.ag rs h).rows, (O.ag rs h).few, (O.ag rs h).at_, (O.ag rs h).ser, (O.ag rs h).ep0⟩
  done := O.done
  pot := Nat.le_succ_of_le O.pot
theorem gone_ok {n m : Nat} {s : Dk} {rs : List Row} {js : List Entry} {b : Nat} (O : OkD n m s) (ha : s.ag = some rs) (he : s.ep.isNone = false) (h : afterF rs 0 js = some b) (hj : ∀ e ∈ js, EntOk e) (hl : js.length ≤ s.jr.length + 1) : OkD (n + 1) m (goneS s rs js) := by
  have A := O.ag rs ha
  have hr : rowOf rs js = b := by unfold rowOf; rw [h]; rfl
  have j6 : js.length ≤ 6 := by
    have h1 := after_far A.rows h
    have h2 := after_lt A.rows A.rows.some_ h
    have h3 := A.few
    omega
  have e1 : s.ep.isSome = true := by cases q : s.ep <;> simp_all
  refine ⟨O.num, O.ser, O.nm, O.ep, by have := O.att; simp only [goneS]; omega, ⟨hj, j6⟩, fun rs' h' => ?_, O.done, ?_⟩
  · simp only [goneS] at h'
    rw [ha] at h'
    injection h' with h'
    subst h'
    refine ⟨A.rows, A.few, ?_, A.ser, fun z => ?_⟩
    · show afterF rs 0 js = some (rowOf rs js)
      rw [hr, h]
    · have z : s.ep = none := z
      rw [z] at e1
      cases e1
  · have h := O.pot
    simp only [pot, ha, e1, Option.isSome_some, Bool.and_self, if_true] at h
    simp only [pot, goneS, ha, e1, Option.isSome_some, Bool.and_self, if_true]
    omega
theorem isN_not {a : Bool} : (!a) = true → a = false := by cases a <;> simp
theorem heard_ok {n m : Nat} {s : Dk} {L : Letter} (O : OkD n m s) (hL : LetOk L) (hm : m ≤ 200) : OkD (n + 1) (m + 1) (heardS s L).2 := by
  have same : OkD (n + 1) (m + 1) s := O.mono (by omega) (by omega)
  unfold heardS
  cases ha : s.ag with
  | none => exact same
  | some rs =>
    have A := O.ag rs ha
    simp only
    split
    · cases L with
      | opened a b e =>
        simp only [heardA]
        split
        · exact same
        · rename_i h
          have e0 : s.ep = none := by cases q : s.ep <;> simp_all
          have p := O.pot
          have j0 := A.ep0 e0
          refine ⟨O.num, by have := O.ser; simp only; omega, O.nm, fun e' h' => by injection h' with h'; subst h'; exact hL, by have := O.att; simp only; omega, O.jr, fun rs' h' => ?_, O.done, ?_⟩
          · have h' : s.ag = some rs' := h'
            have A' := O.ag rs' h'
            exact ⟨A'.rows, A'.few, A'.at_, A'.ser, fun z => by cases z⟩
          · simp only [pot, ha, e0, Option.isSome_some, Option.isSome_none, Bool.and_false, Bool.false_eq_true, if_false] at p
            simp only [pot, ha, j0, Option.isSome_some, Bool.and_self, if_true, List.length_nil]
            omega
      | lost a b e =>
        simp only [heardA]
        split
        · exact (lost_ok O ha).mono (by omega) (Nat.le_refl _)
        · exact same
      | answer a b att pos ans =>
        simp only [heardA, ansS]
        split
        · rename_i w x cs o hr
          split
          · exact same
          · rename_i h
            have he : s.ep.isNone = false := by cases q : s.ep <;> simp_all
            obtain ⟨_, rok⟩ := A.rows.row _ _ _ _ _ hr
            refine (gone_ok O ha he (after_more A.at_ hr rok.act) (fun e he' => ?_) (by rw [List.length_append]; exact Nat.le_refl _)).mono (Nat.le_refl _) (by omega)
            rcases List.mem_append.mp he' with he' | he'
            · exact O.jr.ent e he'
            · rw [List.mem_singleton.mp he']
              exact ⟨rok.act, hL⟩
        · exact same
      | result a b att r =>
        simp only [heardA, resS]
        split
        · exact same
        · rename_i h
          have he : s.ep.isNone = false := by cases q : s.ep <;> simp_all
          cases r with
          | accepted v => exact (finish_ok O ha he hm (fun i hi => by injection hi with hi; subst hi; exact hL)).mono (Nat.le_refl _) (by omega)
          | failed ns => exact (finish_ok O ha he hm (fun i hi => by cases hi)).mono (Nat.le_refl _) (by omega)
          | waiting => exact (wait_ok O).mono (Nat.le_refl _) (by omega)
          | refused k ans since =>
            have W := wait_ok O
            have g := gone_ok (s := { s with att := s.att }) O ha he (A.row_take k) (fun e he' => O.jr.ent e (List.mem_of_mem_take he')) (by rw [List.length_take]; omega)
            refine ⟨g.num, by have := g.ser; simp only [goneS] at this ⊢; omega, g.nm, g.ep, W.att, g.jr, fun rs' h' => ?_, g.done, g.pot⟩
            have h' : s.ag = some rs' := h'
            have A' := g.ag rs' h'
            exact ⟨A'.rows, A'.few, A'.at_, A'.ser, A'.ep0⟩
    · exact same
/-! what is shown is small -/
theorem fit_int {i : Int} (h0 : 0 ≤ i) (h1 : i < 1000) : Fit 0 10 (.int i) := by
  obtain ⟨n, rfl⟩ := Int.eq_ofNat_of_zero_le h0
  exact Fit.nat (by omega)
theorem fit_opt {o : Option Int} (h : ∀ i, o = some i → 0 ≤ i ∧ i ≤ 200) : Fit 0 10 (optE o) := by
  cases o with
  | none => exact Fit.none.mono (Nat.le_refl _) (by omega)
  | some i => have := h i rfl; exact fit_int this.1 (by omega)
theorem fit_done {e : DoneE} (h : DoneOk e) : Fit 6 (31015 * e.js.length + 40) (doneD e) := by
  have f1 := (Fit.str h.nm.ok h.nm.len).mono (by omega : 0 ≤ 5) (Nat.le_refl _)
  have f2 := (fit_int h.ser.1 (by have := h.ser.2; omega)).mono (by omega : 0 ≤ 5) (Nat.le_refl _)
  have f3 := (fit_opt h.ver).mono (by omega : 0 ≤ 5) (Nat.le_refl _)
  have f4 := fit_jour h.js.ent (Nat.le_refl _)
  exact (FitAll.cons f1 (FitAll.cons f2 (FitAll.cons f3 (FitAll.cons f4 FitAll.nil)))).tup.mono (by omega) (by omega)
theorem fit_dones : ∀ {ds : List DoneE}, (∀ e ∈ ds, DoneOk e) → FitAll 6 (23300 * (ds.map fun e => e.js.length + 2).sum) (ds.map doneD)
  | [], _ => FitAll.nil
  | e :: r, h => by
    have h1 := fit_done (h e (List.mem_cons_self ..))
    have h2 := fit_dones fun e he => h e (List.mem_cons_of_mem _ he)
    have h3 := (h e (List.mem_cons_self ..)).js.len
    have g := FitAll.cons h1 h2
    rw [List.map_cons, List.map_cons, List.sum_cons]
    exact g.mono (Nat.le_refl _) (by omega)
theorem nice_done {n m : Nat} {s : Dk} (O : OkD n m s) (hn : n ≤ 40) : Nice (.list (s.done.map doneD)) := by
  have p := O.pot
  unfold pot at p
  exact (fit_dones O.done).lst.nice (by decide) (by omega)
theorem nice_jour {n m : Nat} {s : Dk} (O : OkD n m s) : Nice (jourD s.jr) := (fit_jour O.jr.ent O.jr.len).nice (by decide) (by decide)
theorem nice_want {n m : Nat} {s : Dk} (O : OkD n m s) (hn : n ≤ 40) (hm : m ≤ 200) : Nice (wantedD s) := by
  have i0 : ∀ {z : Str}, okS z = true → z.length ≤ 8 → Fit 2 10 (.str z) := fun h1 h2 => (Fit.str h1 h2).mono (by omega) (by omega)
  have iI : ∀ {i : Int}, 0 ≤ i → i < 1000 → Fit 2 10 (.int i) := fun h1 h2 => (fit_int h1 h2).mono (by omega) (by omega)
  have a1 := iI O.num.1 (by have := O.num.2; omega)
  have a4 := iI O.att.1 (by have := O.att.2; omega)
  have a5 : Fit 2 10 (.int (s.jr.length : Int)) := iI (by omega) (by have := O.jr.len; omega)
  unfold wantedD
  cases ha : s.ag with
  | none => exact Fit.none.nice (by decide) (by decide)
  | some rs =>
    have A := O.ag rs ha
    have a2 := iI A.ser (by have := O.ser; omega)
    cases he : s.ep with
    | none => exact (FitAll.cons (i0 (z := "open") (by decide +kernel) (by decide)) (FitAll.cons a1 (FitAll.cons a2 (FitAll.cons (i0 O.nm.ok O.nm.len) FitAll.nil)))).tup.nice (by decide) (by decide)
    | some e =>
      have a3 := iI (O.ep e he).1 (by have := (O.ep e he).2; omega)
      simp only
      split
      · rename_i w x cs o hr
        obtain ⟨_, rok⟩ := A.rows.row _ _ _ _ _ hr
        have fx := (fit_action rok.act)
        exact (FitAll.cons (i0 (z := "act") (by decide +kernel) (by decide)) (FitAll.cons a1 (FitAll.cons a2 (FitAll.cons a3 (FitAll.cons a4 (FitAll.cons a5 (FitAll.cons fx FitAll.nil))))))).tup.nice (by decide) (by decide)
      · exact (FitAll.cons (i0 (z := "submit") (by decide +kernel) (by decide)) (FitAll.cons a1 (FitAll.cons a2 (FitAll.cons a3 (FitAll.cons a4 (FitAll.cons a5 FitAll.nil)))))).tup.nice (by decide) (by decide)
end K61



namespace K61
open PySem L2 Sa
def dkF (a1 a2 a3 a4 a5 a6 a7 a8 a9 : V) : List (Str × V) := ([("_number", a1), ("_serial", a2), ("_name", a3), ("_agent", a4), ("_epoch", a5), ("_attempt", a6), ("_journal", a7), ("_row", a8), ("_done", a9)] : List (Str × V))
section
variable {a1 a2 a3 a4 a5 a6 a7 a8 a9 x v : V}
theorem dk_get1 : (dkF a1 a2 a3 a4 a5 a6 a7 a8 a9).lookup ("_number" : Str) = some a1 := by kernel_rfl
theorem dk_put1 : putF "_number" x (dkF a1 a2 a3 a4 a5 a6 a7 a8 a9) = dkF x a2 a3 a4 a5 a6 a7 a8 a9 := by kernel_rfl
theorem dk_ini1 : putF "_number" a1 ([] : List (Str × V)) = ([("_number", a1)] : List (Str × V)) := by kernel_rfl
theorem dk_get2 : (dkF a1 a2 a3 a4 a5 a6 a7 a8 a9).lookup ("_serial" : Str) = some a2 := by kernel_rfl
theorem dk_put2 : putF "_serial" x (dkF a1 a2 a3 a4 a5 a6 a7 a8 a9) = dkF a1 x a3 a4 a5 a6 a7 a8 a9 := by kernel_rfl
theorem dk_ini2 : putF "_serial" a2 ([("_number", a1)] : List (Str × V)) = ([("_number", a1), ("_serial", a2)] : List (Str × V)) := by kernel_rfl
theorem dk_get3 : (dkF a1 a2 a3 a4 a5 a6 a7 a8 a9).lookup ("_name" : Str) = some a3 := by kernel_rfl
theorem dk_put3 : putF "_name" x (dkF a1 a2 a3 a4 a5 a6 a7 a8 a9) = dkF a1 a2 x a4 a5 a6 a7 a8 a9 := by kernel_rfl
theorem dk_ini3 : putF "_name" a3 ([("_number", a1), ("_serial", a2)] : List (Str × V)) = ([("_number", a1), ("_serial", a2), ("_name", a3)] : List (Str × V)) := by kernel_rfl
theorem dk_get4 : (dkF a1 a2 a3 a4 a5 a6 a7 a8 a9).lookup ("_agent" : Str) = some a4 := by kernel_rfl
theorem dk_put4 : putF "_agent" x (dkF a1 a2 a3 a4 a5 a6 a7 a8 a9) = dkF a1 a2 a3 x a5 a6 a7 a8 a9 := by kernel_rfl
theorem dk_ini4 : putF "_agent" a4 ([("_number", a1), ("_serial", a2), ("_name", a3)] : List (Str × V)) = ([("_number", a1), ("_serial", a2), ("_name", a3), ("_agent", a4)] : List (Str × V)) := by kernel_rfl
theorem dk_get5 : (dkF a1 a2 a3 a4 a5 a6 a7 a8 a9).lookup ("_epoch" : Str) = some a5 := by kernel_rfl
theorem dk_put5 : putF "_epoch" x (dkF a1 a2 a3 a4 a5 a6 a7 a8 a9) = dkF a1 a2 a3 a4 x a6 a7 a8 a9 := by kernel_rfl
theorem dk_ini5 : putF "_epoch" a5 ([("_number", a1), ("_serial", a2), ("_name", a3), ("_agent", a4)] : List (Str × V)) = ([("_number", a1), ("_serial", a2), ("_name", a3), ("_agent", a4), ("_epoch", a5)] : List (Str × V)) := by kernel_rfl
theorem dk_get6 : (dkF a1 a2 a3 a4 a5 a6 a7 a8 a9).lookup ("_attempt" : Str) = some a6 := by kernel_rfl
theorem dk_put6 : putF "_attempt" x (dkF a1 a2 a3 a4 a5 a6 a7 a8 a9) = dkF a1 a2 a3 a4 a5 x a7 a8 a9 := by kernel_rfl
theorem dk_ini6 : putF "_attempt" a6 ([("_number", a1), ("_serial", a2), ("_name", a3), ("_agent", a4), ("_epoch", a5)] : List (Str × V)) = ([("_number", a1), ("_serial", a2), ("_name", a3), ("_agent", a4), ("_epoch", a5), ("_attempt", a6)] : List (Str × V)) := by kernel_rfl
theorem dk_get7 : (dkF a1 a2 a3 a4 a5 a6 a7 a8 a9).lookup ("_journal" : Str) = some a7 := by kernel_rfl
theorem dk_put7 : putF "_journal" x (dkF a1 a2 a3 a4 a5 a6 a7 a8 a9) = dkF a1 a2 a3 a4 a5 a6 x a8 a9 := by kernel_rfl
theorem dk_ini7 : putF "_journal" a7 ([("_number", a1), ("_serial", a2), ("_name", a3), ("_agent", a4), ("_epoch", a5), ("_attempt", a6)] : List (Str × V)) = ([("_number", a1), ("_serial", a2), ("_name", a3), ("_agent", a4), ("_epoch", a5), ("_attempt", a6), ("_journal", a7)] : List (Str × V)) := by kernel_rfl
theorem dk_get8 : (dkF a1 a2 a3 a4 a5 a6 a7 a8 a9).lookup ("_row" : Str) = some a8 := by kernel_rfl
theorem dk_put8 : putF "_row" x (dkF a1 a2 a3 a4 a5 a6 a7 a8 a9) = dkF a1 a2 a3 a4 a5 a6 a7 x a9 := by kernel_rfl
theorem dk_ini8 : putF "_row" a8 ([("_number", a1), ("_serial", a2), ("_name", a3), ("_agent", a4), ("_epoch", a5), ("_attempt", a6), ("_journal", a7)] : List (Str × V)) = ([("_number", a1), ("_serial", a2), ("_name", a3), ("_agent", a4), ("_epoch", a5), ("_attempt", a6), ("_journal", a7), ("_row", a8)] : List (Str × V)) := by kernel_rfl
theorem dk_get9 : (dkF a1 a2 a3 a4 a5 a6 a7 a8 a9).lookup ("_done" : Str) = some a9 := by kernel_rfl
theorem dk_put9 : putF "_done" x (dkF a1 a2 a3 a4 a5 a6 a7 a8 a9) = dkF a1 a2 a3 a4 a5 a6 a7 a8 x := by kernel_rfl
theorem dk_ini9 : putF "_done" a9 ([("_number", a1), ("_serial", a2), ("_name", a3), ("_agent", a4), ("_epoch", a5), ("_attempt", a6), ("_journal", a7), ("_row", a8)] : List (Str × V)) = dkF a1 a2 a3 a4 a5 a6 a7 a8 a9 := by kernel_rfl
end
section
variable {K : PySem.W.Frag} {mg : Str → Option Value}
theorem C_Desk (T : TX K mg) : ClsAt K mg "Desk" := ⟨T.glo 73, He.cls_ok (T.fact 95)⟩
theorem Mk_Desk (T : TX K mg) : Mk K (He.ga K "Desk") (He.ma K (He.ga K "Desk") "__init__") := He.mkr_ok (T.fact 96)
theorem dk_N1 (T : TX K mg) : NoAttr K (He.ga K "Desk") "_number" := He.noat_ok (T.fact 97)
theorem dk_N2 (T : TX K mg) : NoAttr K (He.ga K "Desk") "_serial" := He.noat_ok (T.fact 98)
theorem dk_N3 (T : TX K mg) : NoAttr K (He.ga K "Desk") "_name" := He.noat_ok (T.fact 99)
theorem dk_N4 (T : TX K mg) : NoAttr K (He.ga K "Desk") "_agent" := He.noat_ok (T.fact 100)
theorem dk_N5 (T : TX K mg) : NoAttr K (He.ga K "Desk") "_epoch" := He.noat_ok (T.fact 101)
theorem dk_N6 (T : TX K mg) : NoAttr K (He.ga K "Desk") "_attempt" := He.noat_ok (T.fact 102)
theorem dk_N7 (T : TX K mg) : NoAttr K (He.ga K "Desk") "_journal" := He.noat_ok (T.fact 103)
theorem dk_N8 (T : TX K mg) : NoAttr K (He.ga K "Desk") "_row" := He.noat_ok (T.fact 104)
theorem dk_N9 (T : TX K mg) : NoAttr K (He.ga K "Desk") "_done" := He.noat_ok (T.fact 105)
variable {H : Hp} {Q : VK} {R : Hp → Prop} {x dx : Addr} {a1 a2 a3 a4 a5 a6 a7 a8 a9 v : V}
theorem dk_g1 (T : TX K mg) (h : H x = some (.ins (He.ga K "Desk") dx (dkF a1 a2 a3 a4 a5 a6 a7 a8 a9))) (q : Q a1 H) : FldK K "_number" (.ref x) H Q := c_fldAt h (C_Desk T).cls (dk_N1 T) dk_get1 q
theorem dk_p1 (T : TX K mg) (h : H x = some (.ins (He.ga K "Desk") dx (dkF a1 a2 a3 a4 a5 a6 a7 a8 a9))) (q : R (upd H x (.ins (He.ga K "Desk") dx (dkF v a2 a3 a4 a5 a6 a7 a8 a9)))) : SetFldK K "_number" (.ref x) v H R := c_setFAt h (C_Desk T).cls (dk_N1 T) (by show 9 < 1000; decide) (by rw [dk_put1]; exact q)
theorem dk_i1 (T : TX K mg) (h : H x = some (.ins (He.ga K "Desk") dx ([] : List (Str × V)))) (q : R (upd H x (.ins (He.ga K "Desk") dx ([("_number", v)] : List (Str × V))))) : SetFldK K "_number" (.ref x) v H R := c_setFAt h (C_Desk T).cls (dk_N1 T) (by show 0 < 1000; decide) (by rw [dk_ini1]; exact q)
theorem dk_g2 (T : TX K mg) (h : H x = some (.ins (He.ga K "Desk") dx (dkF a1 a2 a3 a4 a5 a6 a7 a8 a9))) (q : Q a2 H) : FldK K "_serial" (.ref x) H Q := c_fldAt h (C_Desk T).cls (dk_N2 T) dk_get2 q
theorem dk_p2 (T : TX K mg) (h : H x = some (.ins (He.ga K "Desk") dx (dkF a1 a2 a3 a4 a5 a6 a7 a8 a9))) (q : R (upd H x (.ins (He.ga K "Desk") dx (dkF a1 v a3 a4 a5 a6 a7 a8 a9)))) : SetFldK K "_serial" (.ref x) v H R := c_setFAt h (C_Desk T).cls (dk_N2 T) (by show 9 < 1000; decide) (by rw [dk_put2]; exact q)
theorem dk_i2 (T : TX K mg) (h : H x = some (.ins (He.ga K "Desk") dx ([("_number", a1)] : List (Str × V)))) (q : R (upd H x (.ins (He.ga K "Desk") dx ([("_number", a1), ("_serial", v)] : List (Str × V))))) : SetFldK K "_serial" (.ref x) v H R := c_setFAt h (C_Desk T).cls (dk_N2 T) (by show 1 < 1000; decide) (by rw [dk_ini2]; exact q)
theorem dk_g3 (T : TX K mg) (h : H x = some (.ins (He.ga K "Desk") dx (dkF a1 a2 a3 a4 a5 a6 a7 a8 a9))) (q : Q a3 H) : FldK K "_name" (.ref x) H Q := c_fldAt h (C_Desk T).cls (dk_N3 T) dk_get3 q
theorem dk_p3 (T : TX K mg) (h : H x = some (.ins (He.ga K "Desk") dx (dkF a1 a2 a3 a4 a5 a6 a7 a8 a9))) (q : R (upd H x (.ins (He.ga K "Desk") dx (dkF a1 a2 v a4 a5 a6 a7 a8 a9)))) : SetFldK K "_name" (.ref x) v H R := c_setFAt h (C_Desk T).cls (dk_N3 T) (by show 9 < 1000; decide) (by rw [dk_put3]; exact q)
theorem dk_i3 (T : TX K mg) (h : H x = some (.ins (He.ga K "Desk") dx ([("_number", a1), ("_serial", a2)] : List (Str × V)))) (q : R (upd H x (.ins (He.ga K "Desk") dx ([("_number", a1), ("_serial", a2), ("_name", v)] : List (Str × V))))) : SetFldK K "_name" (.ref x) v H R := c_setFAt h (C_Desk T).cls (dk_N3 T) (by show 2 < 1000; decide) (by rw [dk_ini3]; exact q)
theorem dk_g4 (T : TX K mg) (h : H x = some (.ins (He.ga K "Desk") dx (dkF a1 a2 a3 a4 a5 a6 a7 a8 a9))) (q : Q a4 H) : FldK K "_agent" (.ref x) H Q := c_fldAt h (C_Desk T).cls (dk_N4 T) dk_get4 q
theorem dk_p4 (T : TX K mg) (h : H x = some (.ins (He.ga K "Desk") dx (dkF a1 a2 a3 a4 a5 a6 a7 a8 a9))) (q : R (upd H x (.ins (He.ga K "Desk") dx (dkF a1 a2 a3 v a5 a6 a7 a8 a9)))) : SetFldK K "_agent" (.ref x) v H R := c_setFAt h (C_Desk T).cls (dk_N4 T) (by show 9 < 1000; decide) (by rw [dk_put4]; exact q)
theorem dk_i4 (T : TX K mg) (h : H x = some (.ins (He.ga K "Desk") dx ([("_number", a1), ("_serial", a2), ("_name", a3)] : List (Str × V)))) (q : R (upd H x (.ins (He.ga K "Desk") dx ([("_number", a1), ("_serial", a2), ("_name", a3), ("_agent", v)] : List (Str × V))))) : SetFldK K "_agent" (.ref x) v H R := c_setFAt h (C_Desk T).cls (dk_N4 T) (by show 3 < 1000; decide) (by rw [dk_ini4]; exact q)
theorem dk_g5 (T : TX K mg) (h : H x = some (.ins (He.ga K "Desk") dx (dkF a1 a2 a3 a4 a5 a6 a7 a8 a9))) (q : Q a5 H) : FldK K "_epoch" (.ref x) H Q := c_fldAt h (C_Desk T).cls (dk_N5 T) dk_get5 q
theorem dk_p5 (T : TX K mg) (h : H x = some (.ins (He.ga K "Desk") dx (dkF a1 a2 a3 a4 a5 a6 a7 a8 a9))) (q : R (upd H x (.ins (He.ga K "Desk") dx (dkF a1 a2 a3 a4 v a6 a7 a8 a9)))) : SetFldK K "_epoch" (.ref x) v H R := c_setFAt h (C_Desk T).cls (dk_N5 T) (by show 9 < 1000; decide) (by rw [dk_put5]; exact q)
theorem dk_i5 (T : TX K mg) (h : H x = some (.ins (He.ga K "Desk") dx ([("_number", a1), ("_serial", a2), ("_name", a3), ("_agent", a4)] : List (Str × V)))) (q : R (upd H x (.ins (He.ga K "Desk") dx ([("_number", a1), ("_serial", a2), ("_name", a3), ("_agent", a4), ("_epoch", v)] : List (Str × V))))) : SetFldK K "_epoch" (.ref x) v H R := c_setFAt h (C_Desk T).cls (dk_N5 T) (by show 4 < 1000; decide) (by rw [dk_ini5]; exact q)
theorem dk_g6 (T : TX K mg) (h : H x = some (.ins (He.ga K "Desk") dx (dkF a1 a2 a3 a4 a5 a6 a7 a8 a9))) (q : Q a6 H) : FldK K "_attempt" (.ref x) H Q := c_fldAt h (C_Desk T).cls (dk_N6 T) dk_get6 q
theorem dk_p6 (T : TX K mg) (h : H x = some (.ins (He.ga K "Desk") dx (dkF a1 a2 a3 a4 a5 a6 a7 a8 a9))) (q : R (upd H x (.ins (He.ga K "Desk") dx (dkF a1 a2 a3 a4 a5 v a7 a8 a9)))) : SetFldK K "_attempt" (.ref x) v H R := c_setFAt h (C_Desk T).cls (dk_N6 T) (by show 9 < 1000; decide) (by rw [dk_put6]; exact q)
theorem dk_i6 (T : TX K mg) (h : H x = some (.ins (He.ga K "Desk") dx ([("_number", a1), ("_serial", a2), ("_name", a3), ("_agent", a4), ("_epoch", a5)] : List (Str × V)))) (q : R (upd H x (.ins (He.ga K "Desk") dx ([("_number", a1), ("_serial", a2), ("_name", a3), ("_agent", a4), ("_epoch", a5), ("_attempt", v)] : List (Str × V))))) : SetFldK K "_attempt" (.ref x) v H R := c_setFAt h (C_Desk T).cls (dk_N6 T) (by show 5 < 1000; decide) (by rw [dk_ini6]; exact q)
theorem dk_g7 (T : TX K mg) (h : H x = some (.ins (He.ga K "Desk") dx (dkF a1 a2 a3 a4 a5 a6 a7 a8 a9))) (q : Q a7 H) : FldK K "_journal" (.ref x) H Q := c_fldAt h (C_Desk T).cls (dk_N7 T) dk_get7 q
theorem dk_p7 (T : TX K mg) (h : H x = some (.ins (He.ga K "Desk") dx (dkF a1 a2 a3 a4 a5 a6 a7 a8 a9))) (q : R (upd H x (.ins (He.ga K "Desk") dx (dkF a1 a2 a3 a4 a5 a6 v a8 a9)))) : SetFldK K "_journal" (.ref x) v H R := c_setFAt h (C_Desk T).cls (dk_N7 T) (by show 9 < 1000; decide) (by rw [dk_put7]; exact q)
theorem dk_i7 (T : TX K mg) (h : H x = some (.ins (He.ga K "Desk") dx ([("_number", a1), ("_serial", a2), ("_name", a3), ("_agent", a4), ("_epoch", a5), ("_attempt", a6)] : List (Str × V)))) (q : R (upd H x (.ins (He.ga K "Desk") dx ([("_number", a1), ("_serial", a2), ("_name", a3), ("_agent", a4), ("_epoch", a5), ("_attempt", a6), ("_journal", v)] : List (Str × V))))) : SetFldK K "_journal" (.ref x) v H R := c_setFAt h (C_Desk T).cls (dk_N7 T) (by show 6 < 1000; decide) (by rw [dk_ini7]; exact q)
theorem dk_g8 (T : TX K mg) (h : H x = some (.ins (He.ga K "Desk") dx (dkF a1 a2 a3 a4 a5 a6 a7 a8 a9))) (q : Q a8 H) : FldK K "_row" (.ref x) H Q := c_fldAt h (C_Desk T).cls (dk_N8 T) dk_get8 q
theorem dk_p8 (T : TX K mg) (h : H x = some (.ins (He.ga K "Desk") dx (dkF a1 a2 a3 a4 a5 a6 a7 a8 a9))) (q : R (upd H x (.ins (He.ga K "Desk") dx (dkF a1 a2 a3 a4 a5 a6 a7 v a9)))) : SetFldK K "_row" (.ref x) v H R := c_setFAt h (C_Desk T).cls (dk_N8 T) (by show 9 < 1000; decide) (by rw [dk_put8]; exact q)
theorem dk_i8 (T : TX K mg) (h : H x = some (.ins (He.ga K "Desk") dx ([("_number", a1), ("_serial", a2), ("_name", a3), ("_agent", a4), ("_epoch", a5), ("_attempt", a6), ("_journal", a7)] : List (Str × V)))) (q : R (upd H x (.ins (He.ga K "Desk") dx ([("_number", a1), ("_serial", a2), ("_name", a3), ("_agent", a4), ("_epoch", a5), ("_attempt", a6), ("_journal", a7), ("_row", v)] : List (Str × V))))) : SetFldK K "_row" (.ref x) v H R := c_setFAt h (C_Desk T).cls (dk_N8 T) (by show 7 < 1000; decide) (by rw [dk_ini8]; exact q)
theorem dk_g9 (T : TX K mg) (h : H x = some (.ins (He.ga K "Desk") dx (dkF a1 a2 a3 a4 a5 a6 a7 a8 a9))) (q : Q a9 H) : FldK K "_done" (.ref x) H Q := c_fldAt h (C_Desk T).cls (dk_N9 T) dk_get9 q
theorem dk_p9 (T : TX K mg) (h : H x = some (.ins (He.ga K "Desk") dx (dkF a1 a2 a3 a4 a5 a6 a7 a8 a9))) (q : R (upd H x (.ins (He.ga K "Desk") dx (dkF a1 a2 a3 a4 a5 a6 a7 a8 v)))) : SetFldK K "_done" (.ref x) v H R := c_setFAt h (C_Desk T).cls (dk_N9 T) (by show 9 < 1000; decide) (by rw [dk_put9]; exact q)
theorem dk_i9 (T : TX K mg) (h : H x = some (.ins (He.ga K "Desk") dx ([("_number", a1), ("_serial", a2), ("_name", a3), ("_agent", a4), ("_epoch", a5), ("_attempt", a6), ("_journal", a7), ("_row", a8)] : List (Str × V)))) (q : R (upd H x (.ins (He.ga K "Desk") dx (dkF a1 a2 a3 a4 a5 a6 a7 a8 v)))) : SetFldK K "_done" (.ref x) v H R := c_setFAt h (C_Desk T).cls (dk_N9 T) (by show 8 < 1000; decide) (by rw [dk_ini9]; exact q)
theorem dk_no {m : Str} {a1 a2 a3 a4 a5 a6 a7 a8 a9 : V} (h : m ∉ (["_number", "_serial", "_name", "_agent", "_epoch", "_attempt", "_journal", "_row", "_done"] : List Str)) : (dkF a1 a2 a3 a4 a5 a6 a7 a8 a9).lookup m = none := by
  unfold dkF
  have n : ∀ z ∈ (["_number", "_serial", "_name", "_agent", "_epoch", "_attempt", "_journal", "_row", "_done"] : List Str), (m == z) = false := fun z hz => by
    rw [beq_eq_false_iff_ne]
    exact fun e => h (e ▸ hz)
  simp only [List.lookup, n "_number" (by simp), n "_serial" (by simp), n "_name" (by simp), n "_agent" (by simp), n "_epoch" (by simp), n "_attempt" (by simp), n "_journal" (by simp), n "_row" (by simp), n "_done" (by simp)]
theorem dk_r {m : Str} (h : H x = some (.ins (He.ga K "Desk") dx (dkF a1 a2 a3 a4 a5 a6 a7 a8 a9))) (hm : m ∉ (["_number", "_serial", "_name", "_agent", "_epoch", "_attempt", "_journal", "_row", "_done"] : List Str)) (q : R H) : RecvK K "Desk" m (.ref x) H R := c_recv h (dk_no hm) q
end
def dmD (a1 a2 a3 a4 a5 a6 a7 a8 a9 : V) : List (Key × V) := [(Sum.inr "number", a1), (Sum.inr "serial", a2), (Sum.inr "name", a3), (Sum.inr "agent", a4), (Sum.inr "epoch", a5), (Sum.inr "attempt", a6), (Sum.inr "journal", a7), (Sum.inr "row", a8), (Sum.inr "done", a9)]
section
variable {a1 a2 a3 a4 a5 a6 a7 a8 a9 x v : V} {H : Hp} {Q : VK} {R : Hp → Prop} {d : Addr}
theorem dm_mk : mergeK [] (dmD a1 a2 a3 a4 a5 a6 a7 a8 a9) = dmD a1 a2 a3 a4 a5 a6 a7 a8 a9 := by kernel_rfl
theorem dm_get1 : valV (dmD a1 a2 a3 a4 a5 a6 a7 a8 a9) (Sum.inr "number") = some a1 := by kernel_rfl
theorem dm_put1 : putK (dmD a1 a2 a3 a4 a5 a6 a7 a8 a9) (Sum.inr "number") x = dmD x a2 a3 a4 a5 a6 a7 a8 a9 := by kernel_rfl
theorem dm_g1 (h : H d = some (.dK (dmD a1 a2 a3 a4 a5 a6 a7 a8 a9))) (q : Q a1 H) : DGetK (.ref d) (.str "number") H Q := ⟨d, _, rfl, .inl ⟨_, Sum.inr "number", .inl h, rfl, dm_get1.symm⟩, q⟩
theorem dm_p1 (h : H d = some (.dK (dmD a1 a2 a3 a4 a5 a6 a7 a8 a9))) (q : R (upd H d (.dK (dmD v a2 a3 a4 a5 a6 a7 a8 a9)))) : ∃ a H4, V.ref d = .ref a ∧ DPut H a (.str "number") v H4 ∧ R H4 := ⟨d, _, rfl, .inl ⟨_, Sum.inr "number", h, rfl, (by rw [sizeLine_eq]; show 9 < _; decide), rfl⟩, by rw [dm_put1]; exact q⟩
theorem dm_get2 : valV (dmD a1 a2 a3 a4 a5 a6 a7 a8 a9) (Sum.inr "serial") = some a2 := by kernel_rfl
theorem dm_put2 : putK (dmD a1 a2 a3 a4 a5 a6 a7 a8 a9) (Sum.inr "serial") x = dmD a1 x a3 a4 a5 a6 a7 a8 a9 := by kernel_rfl
theorem dm_g2 (h : H d = some (.dK (dmD a1 a2 a3 a4 a5 a6 a7 a8 a9))) (q : Q a2 H) : DGetK (.ref d) (.str "serial") H Q := ⟨d, _, rfl, .inl ⟨_, Sum.inr "serial", .inl h, rfl, dm_get2.symm⟩, q⟩
theorem dm_p2 (h : H d = some (.dK (dmD a1 a2 a3 a4 a5 a6 a7 a8 a9))) (q : R (upd H d (.dK (dmD a1 v a3 a4 a5 a6 a7 a8 a9)))) : ∃ a H4, V.ref d = .ref a ∧ DPut H a (.str "serial") v H4 ∧ R H4 := ⟨d, _, rfl, .inl ⟨_, Sum.inr "serial", h, rfl, (by rw [sizeLine_eq]; show 9 < _; decide), rfl⟩, by rw [dm_put2]; exact q⟩
theorem dm_get3 : valV (dmD a1 a2 a3 a4 a5 a6 a7 a8 a9) (Sum.inr "name") = some a3 := by kernel_rfl
theorem dm_put3 : putK (dmD a1 a2 a3 a4 a5 a6 a7 a8 a9) (Sum.inr "name") x = dmD a1 a2 x a4 a5 a6 a7 a8 a9 := by kernel_rfl
theorem dm_g3 (h : H d = some (.dK (dmD a1 a2 a3 a4 a5 a6 a7 a8 a9))) (q : Q a3 H) : DGetK (.ref d) (.str "name") H Q := ⟨d, _, rfl, .inl ⟨_, Sum.inr "name", .inl h, rfl, dm_get3.symm⟩, q⟩
theorem dm_p3 (h : H d = some (.dK (dmD a1 a2 a3 a4 a5 a6 a7 a8 a9))) (q : R (upd H d (.dK (dmD a1 a2 v a4 a5 a6 a7 a8 a9)))) : ∃ a H4, V.ref d = .ref a ∧ DPut H a (.str "name") v H4 ∧ R H4 := ⟨d, _, rfl, .inl ⟨_, Sum.inr "name", h, rfl, (by rw [sizeLine_eq]; show 9 < _; decide), rfl⟩, by rw [dm_put3]; exact q⟩
theorem dm_get4 : valV (dmD a1 a2 a3 a4 a5 a6 a7 a8 a9) (Sum.inr "agent") = some a4 := by kernel_rfl
theorem dm_put4 : putK (dmD a1 a2 a3 a4 a5 a6 a7 a8 a9) (Sum.inr "agent") x = dmD a1 a2 a3 x a5 a6 a7 a8 a9 := by kernel_rfl
theorem dm_g4 (h : H d = some (.dK (dmD a1 a2 a3 a4 a5 a6 a7 a8 a9))) (q : Q a4 H) : DGetK (.ref d) (.str "agent") H Q := ⟨d, _, rfl, .inl ⟨_, Sum.inr "agent", .inl h, rfl, dm_get4.symm⟩, q⟩
theorem dm_p4 (h : H d = some (.dK (dmD a1 a2 a3 a4 a5 a6 a7 a8 a9))) (q : R (upd H d (.dK (dmD a1 a2 a3 v a5 a6 a7 a8 a9)))) : ∃ a H4, V.ref d = .ref a ∧ DPut H a (.str "agent") v H4 ∧ R H4 := ⟨d, _, rfl, .inl ⟨_, Sum.inr "agent", h, rfl, (by rw [sizeLine_eq]; show 9 < _; decide), rfl⟩, by rw [dm_put4]; exact q⟩
theorem dm_get5 : valV (dmD a1 a2 a3 a4 a5 a6 a7 a8 a9) (Sum.inr "epoch") = some a5 := by kernel_rfl
theorem dm_put5 : putK (dmD a1 a2 a3 a4 a5 a6 a7 a8 a9) (Sum.inr "epoch") x = dmD a1 a2 a3 a4 x a6 a7 a8 a9 := by kernel_rfl
theorem dm_g5 (h : H d = some (.dK (dmD a1 a2 a3 a4 a5 a6 a7 a8 a9))) (q : Q a5 H) : DGetK (.ref d) (.str "epoch") H Q := ⟨d, _, rfl, .inl ⟨_, Sum.inr "epoch", .inl h, rfl, dm_get5.symm⟩, q⟩
theorem dm_p5 (h : H d = some (.dK (dmD a1 a2 a3 a4 a5 a6 a7 a8 a9))) (q : R (upd H d (.dK (dmD a1 a2 a3 a4 v a6 a7 a8 a9)))) : ∃ a H4, V.ref d = .ref a ∧ DPut H a (.str "epoch") v H4 ∧ R H4 := ⟨d, _, rfl, .inl ⟨_, Sum.inr "epoch", h, rfl, (by rw [sizeLine_eq]; show 9 < _; decide), rfl⟩, by rw [dm_put5]; exact q⟩
theorem dm_get6 : valV (dmD a1 a2 a3 a4 a5 a6 a7 a8 a9) (Sum.inr "attempt") = some a6 := by kernel_rfl
theorem dm_put6 : putK (dmD a1 a2 a3 a4 a5 a6 a7 a8 a9) (Sum.inr "attempt") x = dmD a1 a2 a3 a4 a5 x a7 a8 a9 := by kernel_rfl
theorem dm_g6 (h : H d = some (.dK (dmD a1 a2 a3 a4 a5 a6 a7 a8 a9))) (q : Q a6 H) : DGetK (.ref d) (.str "attempt") H Q := ⟨d, _, rfl, .inl ⟨_, Sum.inr "attempt", .inl h, rfl, dm_get6.symm⟩, q⟩
theorem dm_p6 (h : H d = some (.dK (dmD a1 a2 a3 a4 a5 a6 a7 a8 a9))) (q : R (upd H d (.dK (dmD a1 a2 a3 a4 a5 v a7 a8 a9)))) : ∃ a H4, V.ref d = .ref a ∧ DPut H a (.str "attempt") v H4 ∧ R H4 := ⟨d, _, rfl, .inl ⟨_, Sum.inr "attempt", h, rfl, (by rw [sizeLine_eq]; show 9 < _; decide), rfl⟩, by rw [dm_put6]; exact q⟩
theorem dm_get7 : valV (dmD a1 a2 a3 a4 a5 a6 a7 a8 a9) (Sum.inr "journal") = some a7 := by kernel_rfl
theorem dm_put7 : putK (dmD a1 a2 a3 a4 a5 a6 a7 a8 a9) (Sum.inr "journal") x = dmD a1 a2 a3 a4 a5 a6 x a8 a9 := by kernel_rfl
theorem dm_g7 (h : H d = some (.dK (dmD a1 a2 a3 a4 a5 a6 a7 a8 a9))) (q : Q a7 H) : DGetK (.ref d) (.str "journal") H Q := ⟨d, _, rfl, .inl ⟨_, Sum.inr "journal", .inl h, rfl, dm_get7.symm⟩, q⟩
theorem dm_p7 (h : H d = some (.dK (dmD a1 a2 a3 a4 a5 a6 a7 a8 a9))) (q : R (upd H d (.dK (dmD a1 a2 a3 a4 a5 a6 v a8 a9)))) : ∃ a H4, V.ref d = .ref a ∧ DPut H a (.str "journal") v H4 ∧ R H4 := ⟨d, _, rfl, .inl ⟨_, Sum.inr "journal", h, rfl, (by rw [sizeLine_eq]; show 9 < _; decide), rfl⟩, by rw [dm_put7]; exact q⟩
theorem dm_get8 : valV (dmD a1 a2 a3 a4 a5 a6 a7 a8 a9) (Sum.inr "row") = some a8 := by kernel_rfl
theorem dm_put8 : putK (dmD a1 a2 a3 a4 a5 a6 a7 a8 a9) (Sum.inr "row") x = dmD a1 a2 a3 a4 a5 a6 a7 x a9 := by kernel_rfl
theorem dm_g8 (h : H d = some (.dK (dmD a1 a2 a3 a4 a5 a6 a7 a8 a9))) (q : Q a8 H) : DGetK (.ref d) (.str "row") H Q := ⟨d, _, rfl, .inl ⟨_, Sum.inr "row", .inl h, rfl, dm_get8.symm⟩, q⟩
theorem dm_p8 (h : H d = some (.dK (dmD a1 a2 a3 a4 a5 a6 a7 a8 a9))) (q : R (upd H d (.dK (dmD a1 a2 a3 a4 a5 a6 a7 v a9)))) : ∃ a H4, V.ref d = .ref a ∧ DPut H a (.str "row") v H4 ∧ R H4 := ⟨d, _, rfl, .inl ⟨_, Sum.inr "row", h, rfl, (by rw [sizeLine_eq]; show 9 < _; decide), rfl⟩, by rw [dm_put8]; exact q⟩
theorem dm_get9 : valV (dmD a1 a2 a3 a4 a5 a6 a7 a8 a9) (Sum.inr "done") = some a9 := by kernel_rfl
theorem dm_put9 : putK (dmD a1 a2 a3 a4 a5 a6 a7 a8 a9) (Sum.inr "done") x = dmD a1 a2 a3 a4 a5 a6 a7 a8 x := by kernel_rfl
theorem dm_g9 (h : H d = some (.dK (dmD a1 a2 a3 a4 a5 a6 a7 a8 a9))) (q : Q a9 H) : DGetK (.ref d) (.str "done") H Q := ⟨d, _, rfl, .inl ⟨_, Sum.inr "done", .inl h, rfl, dm_get9.symm⟩, q⟩
theorem dm_p9 (h : H d = some (.dK (dmD a1 a2 a3 a4 a5 a6 a7 a8 a9))) (q : R (upd H d (.dK (dmD a1 a2 a3 a4 a5 a6 a7 a8 v)))) : ∃ a H4, V.ref d = .ref a ∧ DPut H a (.str "done") v H4 ∧ R H4 := ⟨d, _, rfl, .inl ⟨_, Sum.inr "done", h, rfl, (by rw [sizeLine_eq]; show 9 < _; decide), rfl⟩, by rw [dm_put9]; exact q⟩
end
section
variable {K : PySem.W.Frag}
def AgV (K : PySem.W.Frag) (H : Hp) (g : V) : Option (List Row) → Prop
  | none => g = .non
  | some rs => Dt K H g (agD rs)
theorem AgV.kt {H H' : Hp} {g : V} {o : Option (List Row)} (e : Kt H H') (h : AgV K H g o) : AgV K H' g o := by
  cases o with
  | none => exact h
  | some rs => exact Dt.kt e h
/-- a row of works at l -/
structure DonAt (K : PySem.W.Frag) (H : Hp) (l : Addr) (ds : List DoneE) : Prop where
  ex : ∃ ws, H l = some (.lst ws) ∧ DtAll K H ws (ds.map doneD)
theorem DonAt.kp {ms : List Addr} {H H' : Hp} {l : Addr} {ds : List DoneE} (h : DonAt K H l ds) (e : Kp ms H H') (t : Kt H H') (n : l ∉ ms) : DonAt K H' l ds := by
  obtain ⟨ws, h1, h2⟩ := h.ex
  exact ⟨ws, e l _ n h1, DtAll.kt t h2⟩
theorem DonAt.dp {H : Hp} {l : Addr} {ds : List DoneE} (h : DonAt K H l ds) : Dp K H (.ref l) (.list (ds.map doneD)) := by
  obtain ⟨ws, h1, h2⟩ := h.ex
  exact .lst (SqL.of h1) h2.dp
structure DeskAt (K : PySem.W.Frag) (H : Hp) (t l : Addr) (s : Dk) : Prop where
  ins : ∃ dx g j, H t = some (.ins (He.ga K "Desk") dx (dkF (.int s.num) (.int s.ser) (.str s.nm) g (optV s.ep) (.int s.att) (.ref j) (.int (s.row : Nat)) (.ref l))) ∧ AgV K H g s.ag ∧ Dt K H (.ref j) (jourD s.jr)
  don : DonAt K H l s.done
theorem DeskAt.ne {H : Hp} {t l : Addr} {s : Dk} (h : DeskAt K H t l s) : l ≠ t := fun e => by
  obtain ⟨dx, g, j, h1, _⟩ := h.ins
  obtain ⟨ws, h2, _⟩ := h.don.ex
  rw [e, h1] at h2
  cases h2
theorem DeskAt.kp {ms : List Addr} {H H' : Hp} {t l : Addr} {s : Dk} (h : DeskAt K H t l s) (e : Kp ms H H') (k : Kt H H') (n1 : t ∉ ms) (n2 : l ∉ ms) : DeskAt K H' t l s := by
  obtain ⟨dx, g, j, h1, h2, h3⟩ := h.ins
  exact ⟨⟨dx, g, j, e t _ n1 h1, h2.kt k, Dt.kt k h3⟩, h.don.kp e k n2⟩
theorem DeskAt.kp0 {H H' : Hp} {t l : Addr} {s : Dk} (h : DeskAt K H t l s) (e : Kp [] H H') : DeskAt K H' t l s := h.kp e e.kt (by simp) (by simp)
theorem desk_set {H : Hp} {t l dx dx0 j C : Addr} {g : V} {fs : List (Str × V)} {s : Dk} (ht : H t = some (.ins C dx0 fs)) (hg : AgV K H g s.ag) (hj : Dt K H (.ref j) (jourD s.jr)) (hd : DonAt K H l s.done) :
    DeskAt K (upd H t (.ins (He.ga K "Desk") dx (dkF (.int s.num) (.int s.ser) (.str s.nm) g (optV s.ep) (.int s.att) (.ref j) (.int (s.row : Nat)) (.ref l)))) t l s := by
  have kt : Kt H (upd H t (.ins (He.ga K "Desk") dx (dkF (.int s.num) (.int s.ser) (.str s.nm) g (optV s.ep) (.int s.att) (.ref j) (.int (s.row : Nat)) (.ref l)))) := Kt.upd1 (NoT.ins ht)
  have ne : l ≠ t := fun e => by
    obtain ⟨ws, h2, _⟩ := hd.ex
    rw [e, ht] at h2
    cases h2
  exact ⟨⟨dx, g, j, upd_same, hg.kt kt, Dt.kt kt hj⟩, hd.kp (Kp.mut (ms := [t]) (by simp)) kt (by simpa using ne)⟩
theorem desk_put {H : Hp} {t l dx dx0 j C : Addr} {g : V} {fs fs' : List (Str × V)} {s : Dk} (ht : H t = some (.ins C dx0 fs)) (hg : AgV K H g s.ag) (hj : Dt K H (.ref j) (jourD s.jr)) (hd : DonAt K H l s.done)
    (e : fs' = dkF (.int s.num) (.int s.ser) (.str s.nm) g (optV s.ep) (.int s.att) (.ref j) (.int (s.row : Nat)) (.ref l)) : DeskAt K (upd H t (.ins (He.ga K "Desk") dx fs')) t l s := by
  rw [e]
  exact desk_set ht hg hj hd
structure MapAt (K : PySem.W.Frag) (H : Hp) (a m : Addr) (s : Dk) : Prop where
  dct : ∃ g j, H a = some (.dK (dmD (.int s.num) (.int s.ser) (.str s.nm) g (optV s.ep) (.int s.att) (.ref j) (.int (s.row : Nat)) (.ref m))) ∧ AgV K H g s.ag ∧ Dt K H (.ref j) (jourD s.jr)
  don : DonAt K H m s.done
theorem MapAt.kp {ms : List Addr} {H H' : Hp} {t l : Addr} {s : Dk} (h : MapAt K H t l s) (e : Kp ms H H') (k : Kt H H') (n1 : t ∉ ms) (n2 : l ∉ ms) : MapAt K H' t l s := by
  obtain ⟨g, j, h1, h2, h3⟩ := h.dct
  exact ⟨⟨g, j, e t _ n1 h1, h2.kt k, Dt.kt k h3⟩, h.don.kp e k n2⟩
theorem MapAt.kp0 {H H' : Hp} {t l : Addr} {s : Dk} (h : MapAt K H t l s) (e : Kp [] H H') : MapAt K H' t l s := h.kp e e.kt (by simp) (by simp)
theorem map_set {H : Hp} {t l j : Addr} {g : V} {fs : List (Key × V)} {s : Dk} (ht : H t = some (.dK fs)) (hg : AgV K H g s.ag) (hj : Dt K H (.ref j) (jourD s.jr)) (hd : DonAt K H l s.done) :
    MapAt K (upd H t (.dK (dmD (.int s.num) (.int s.ser) (.str s.nm) g (optV s.ep) (.int s.att) (.ref j) (.int (s.row : Nat)) (.ref l)))) t l s := by
  have kt : Kt H (upd H t (.dK (dmD (.int s.num) (.int s.ser) (.str s.nm) g (optV s.ep) (.int s.att) (.ref j) (.int (s.row : Nat)) (.ref l)))) := Kt.upd1 (NoT.dK ht)
  have ne : l ≠ t := fun e => by
    obtain ⟨ws, h2, _⟩ := hd.ex
    rw [e, ht] at h2
    cases h2
  exact ⟨⟨g, j, upd_same, hg.kt kt, Dt.kt kt hj⟩, hd.kp (Kp.mut (ms := [t]) (by simp)) kt (by simpa using ne)⟩
theorem map_put {H : Hp} {t l j : Addr} {g : V} {fs fs' : List (Key × V)} {s : Dk} (ht : H t = some (.dK fs)) (hg : AgV K H g s.ag) (hj : Dt K H (.ref j) (jourD s.jr)) (hd : DonAt K H l s.done)
    (e : fs' = dmD (.int s.num) (.int s.ser) (.str s.nm) g (optV s.ep) (.int s.att) (.ref j) (.int (s.row : Nat)) (.ref l)) : MapAt K (upd H t (.dK fs')) t l s := by
  rw [e]
  exact map_set ht hg hj hd
/-! letters in the heap -/
def ResAt (K : PySem.W.Frag) (H : Hp) (r : Addr) : Res → Prop
  | .refused a ans since => ∃ u, SqT K H r [.str "refused", .int (a : Nat), u, .int since] ∧ Dt K H u ans
  | .waiting => SqT K H r [.str "waiting"]
  | .failed ns => ∃ u, SqT K H r [.str "failed", u] ∧ Dt K H u ns
  | .accepted v => SqT K H r [.str "accepted", .int v]
theorem ResAt.kt {H H' : Hp} {r : Addr} {x : Res} (e : Kt H H') (h : ResAt K H r x) : ResAt K H' r x := by
  cases x with
  | refused a ans since => obtain ⟨u, h1, h2⟩ := h; exact ⟨u, SqT.kt e h1, Dt.kt e h2⟩
  | waiting => exact SqT.kt e h
  | failed ns => obtain ⟨u, h1, h2⟩ := h; exact ⟨u, SqT.kt e h1, Dt.kt e h2⟩
  | accepted v => exact SqT.kt e h
def LetAt (K : PySem.W.Frag) (H : Hp) (a : Addr) : Letter → Prop
  | .opened n s e => SqT K H a [.str "opened", .int n, .int s, .int e]
  | .lost n s e => SqT K H a [.str "lost", .int n, .int s, .int e]
  | .answer n s at_ p ans => ∃ u, SqT K H a [.str "answer", .int n, .int s, .int at_, .int p, u] ∧ Dt K H u ans
  | .result n s at_ r => ∃ q, SqT K H a [.str "result", .int n, .int s, .int at_, .ref q] ∧ ResAt K H q r
theorem LetAt.kt {H H' : Hp} {a : Addr} {x : Letter} (e : Kt H H') (h : LetAt K H a x) : LetAt K H' a x := by
  cases x with
  | opened n s ep => exact SqT.kt e h
  | lost n s ep => exact SqT.kt e h
  | answer n s at_ p ans => obtain ⟨u, h1, h2⟩ := h; exact ⟨u, SqT.kt e h1, Dt.kt e h2⟩
  | result n s at_ r => obtain ⟨u, h1, h2⟩ := h; exact ⟨u, SqT.kt e h1, h2.kt e⟩
/-- the head that all letters have -/
theorem LetAt.head {H : Hp} {a : Addr} {x : Letter} (h : LetAt K H a x) : ∃ w r, SqT K H a (.str w :: .int x.num :: .int x.ser :: r) ∧ w = (match x with
    | .opened _ _ _ => "opened"
    | .lost _ _ _ => "lost"
    | .answer _ _ _ _ _ => "answer"
    | .result _ _ _ _ => "result") := by
  cases x with
  | opened n s ep => exact ⟨_, _, h, rfl⟩
  | lost n s ep => exact ⟨_, _, h, rfl⟩
  | answer n s at_ p ans => obtain ⟨u, h1, h2⟩ := h; exact ⟨_, _, h1, rfl⟩
  | result n s at_ r => obtain ⟨u, h1, h2⟩ := h; exact ⟨_, _, h1, rfl⟩
end
end K61


namespace K61
open PySem L2 Sa
local macro_rules | `(tactic| walk_at "s1") => `(tactic| first | (with_reducible apply c_dgetK))
local macro_rules | `(tactic| walk_at "s1") => `(tactic| (with_reducible apply c_raiseO))
local macro_rules | `(tactic| walk_at "s1") => `(tactic| first | (with_reducible apply c_un) | (with_reducible apply c_negI))
local macro_rules | `(tactic| walk_at "s1") => `(tactic| first | ((with_reducible apply dk_g1 (by assumption)); (· walk_at "lk")) | ((with_reducible apply dk_p1 (by assumption)); (· walk_at "lk")) | ((with_reducible apply dk_g2 (by assumption)); (· walk_at "lk")) | ((with_reducible apply dk_p2 (by assumption)); (· walk_at "lk")) | ((with_reducible apply dk_g3 (by assumption)); (· walk_at "lk")) | ((with_reducible apply dk_p3 (by assumption)); (· walk_at "lk")) | ((with_reducible apply dk_g4 (by assumption)); (· walk_at "lk")) | ((with_reducible apply dk_p4 (by assumption)); (· walk_at "lk")) | ((with_reducible apply dk_g5 (by assumption)); (· walk_at "lk")) | ((with_reducible apply dk_p5 (by assumption)); (· walk_at "lk")) | ((with_reducible apply dk_g6 (by assumption)); (· walk_at "lk")) | ((with_reducible apply dk_p6 (by assumption)); (· walk_at "lk")) | ((with_reducible apply dk_g7 (by assumption)); (· walk_at "lk")) | ((with_reducible apply dk_p7 (by assumption)); (· walk_at "lk")) | ((with_reducible apply dk_g8 (by assumption)); (· walk_at "lk")) | ((with_reducible apply dk_p8 (by assumption)); (· walk_at "lk")) | ((with_reducible apply dk_g9 (by assumption)); (· walk_at "lk")) | ((with_reducible apply dk_p9 (by assumption)); (· walk_at "lk")) | ((with_reducible apply dk_r); (· walk_at "lk"); (· decide +kernel)))
set_option pp.maxSteps 1500
section
variable {P : Program} {w : World} {K : PySem.W.Frag} {mg : Str → Option Value} {base : Heap}
def newDk (n : Int) : Dk := ⟨n, -1, "", none, none, 0, [], 0, []⟩
def spDkInit (K : PySem.W.Frag) : Sp := fun vs H Q E => ∃ (x dx : Addr) (n : Int), vs = [.ref x, .int n] ∧ H x = some (.ins (He.ga K "Desk") dx []) ∧ (∀ l H', Kp [x] H H' → DeskAt K H' x l (newDk n) → H l = none → Q .non H')
theorem sc_Desk___init__ : FnScope ["self", "number"] ["self", "number"] (defScope s_Desk___init__) := ⟨rfl, rfl, rfl, by decide +kernel, rfl, by decide +kernel, by decide +kernel⟩
theorem bn_Desk___init__ : BindM "__init__" "Desk.__init__" s_Desk___init__ ["self", "number"] := fun _ _ _ _ _ _ us hl => match us, hl with | [_, _], _ => rfl
theorem b_Desk___init__ (T : TX K mg) : BodyM P w K mg base "Desk" "__init__" "Desk.__init__" s_Desk___init__ ["self", "number"] 1 (spDkInit K) := by
  intro cdv A outer s H vs Q E h X hr
  obtain ⟨x, dx, n, rfl, hx, q⟩ := h
  refine ⟨_, (pss_cons (ps_fldU (K := K) (pv 0) (pv 1)) (pss_cons (ps_fldU (K := K) (pv 0) (pe_un un_neg pe_int)) (pss_cons (ps_fldU (K := K) (pv 0) pe_str) (pss_cons (ps_fldU (K := K) (pv 0) pe_non) (pss_cons (ps_fldU (K := K) (pv 0) pe_non) (pss_cons (ps_fldU (K := K) (pv 0) pe_int) (pss_cons (ps_fldU (K := K) (pv 0) (pe_tup pa_nil)) (pss_cons (ps_fldU (K := K) (pv 0) pe_int) (pss_one (ps_fldU (K := K) (pv 0) (pe_lst pa_nil))))))))))), ?_⟩
  walk_at "st"
  refine dk_i1 T hx ?_
  walk_at "st"
  refine dk_i2 T upd_same ?_
  walk_at "st"
  refine dk_i3 T upd_same ?_
  walk_at "st"
  refine dk_i4 T upd_same ?_
  walk_at "st"
  refine dk_i5 T upd_same ?_
  walk_at "st"
  refine dk_i6 T upd_same ?_
  walk_at "st"
  simp only [upd_upd]
  walk_at "nw"
  intro j H1 N1
  have h1 := N1.keep upd_same
  walk_at "st"
  refine dk_i7 T h1 ?_
  walk_at "st"
  refine dk_i8 T upd_same ?_
  walk_at "st"
  simp only [upd_upd]
  walk_at "nw"
  intro l H2 N2
  have h2 := N2.keep upd_same
  walk_at "st"
  refine dk_i9 T h2 ?_
  walk_at "st"
  have nl : H l = none := by
    have f := N2.fr
    have nx : l ≠ x := fun e => by rw [e, upd_same] at f; cases f
    rw [upd_ne nx] at f
    have f2 := N1.free f
    rw [upd_ne nx] at f2
    exact f2
  have ne : j ≠ x := fun e => by have f := N1.fr; rw [e, upd_same] at f; cases f
  have hj : SqT K H2 j [] := SqT.of (N2.keep (upd_other ne N1.at_))
  refine q l _ ?_ (desk_set (s := newDk n) h2 rfl (.tup hj .nil) ⟨[], N2.at_, .nil⟩) nl
  have k1 : Kp [x] H H1 := (Kp.mut (by simp)).trans N1.kp
  exact (k1.trans ((Kp.mut (by simp)).trans N2.kp)).trans (Kp.mut (by simp))
theorem M_Desk___init__ (T : TX K mg) : MethAt P w K mg base CX0 "Desk" "__init__" 2 ["self", "number"] (spDkInit K) :=
  meth_of T 49 76 sc_Desk___init__ bn_Desk___init__ (by walk_at "len") (b_Desk___init__ T)
def spDkAt (K : PySem.W.Frag) : Sp := fun vs H Q _ => ∃ (t l : Addr) (s : Dk), vs = [.ref t] ∧ DeskAt K H t l s ∧ Q (.bl s.ag.isSome) H
theorem sc_Desk_is_at_work : FnScope ["self"] ["self"] (defScope s_Desk_is_at_work) := ⟨rfl, rfl, rfl, by decide +kernel, rfl, by decide +kernel, by decide +kernel⟩
theorem bn_Desk_is_at_work : BindM "is_at_work" "Desk.is_at_work" s_Desk_is_at_work ["self"] := fun _ _ _ _ _ _ us hl => match us, hl with | [_], _ => rfl
theorem b_Desk_is_at_work (T : TX K mg) : BodyM P w K mg base "Desk" "is_at_work" "Desk.is_at_work" s_Desk_is_at_work ["self"] 1 (spDkAt K) := by
  intro cdv A outer s H vs Q E h X hr
  obtain ⟨t, l, s, rfl, D, q⟩ := h
  refine ⟨_, (pss_one (ps_ret (pe_cmpR op_isNotU (pe_fldU (K := K) (pv 0)) pe_non (nomark _)))), ?_⟩
  obtain ⟨dx, g, j, h1, h2, h3⟩ := D.ins
  walk_at "st"
  cases ha : s.ag with
  | none =>
    rw [ha] at h2 q
    obtain rfl : g = .non := h2
    walk_at "st"
    exact q
  | some rs =>
    rw [ha] at h2 q
    obtain ⟨a, xs, rfl, _, _⟩ := dt_tup h2
    walk_at "st"
    exact q
theorem M_Desk_is_at_work (T : TX K mg) : MethAt P w K mg base CX0 "Desk" "is_at_work" 2 ["self"] (spDkAt K) :=
  meth_of T 52 80 sc_Desk_is_at_work bn_Desk_is_at_work (by walk_at "len") (b_Desk_is_at_work T)
def spDkJr (K : PySem.W.Frag) : Sp := fun vs H Q _ => ∃ (t l : Addr) (s : Dk), vs = [.ref t] ∧ DeskAt K H t l s ∧ ∀ j, Dt K H (.ref j) (jourD s.jr) → Q (.ref j) H
theorem sc_Desk_journal : FnScope ["self"] ["self"] (defScope s_Desk_journal) := ⟨rfl, rfl, rfl, by decide +kernel, rfl, by decide +kernel, by decide +kernel⟩
theorem bn_Desk_journal : BindM "journal" "Desk.journal" s_Desk_journal ["self"] := fun _ _ _ _ _ _ us hl => match us, hl with | [_], _ => rfl
theorem b_Desk_journal (T : TX K mg) : BodyM P w K mg base "Desk" "journal" "Desk.journal" s_Desk_journal ["self"] 1 (spDkJr K) := by
  intro cdv A outer s H vs Q E h X hr
  obtain ⟨t, l, s, rfl, D, q⟩ := h
  refine ⟨_, (pss_one (ps_ret (pe_fldU (K := K) (pv 0)))), ?_⟩
  obtain ⟨dx, g, j, h1, h2, h3⟩ := D.ins
  walk_at "st"
  exact q j h3
theorem M_Desk_journal (T : TX K mg) : MethAt P w K mg base CX0 "Desk" "journal" 2 ["self"] (spDkJr K) :=
  meth_of T 61 90 sc_Desk_journal bn_Desk_journal (by walk_at "len") (b_Desk_journal T)
def spDkDone (K : PySem.W.Frag) : Sp := fun vs H Q _ => ∃ (t l : Addr) (s : Dk), vs = [.ref t] ∧ DeskAt K H t l s ∧ ∀ p H', Kp [] H H' → Dp K H' (.ref p) (.list (s.done.map doneD)) → Q (.ref p) H'
theorem sc_Desk_done : FnScope ["self"] ["self"] (defScope s_Desk_done) := ⟨rfl, rfl, rfl, by decide +kernel, rfl, by decide +kernel, by decide +kernel⟩
theorem bn_Desk_done : BindM "done" "Desk.done" s_Desk_done ["self"] := fun _ _ _ _ _ _ us hl => match us, hl with | [_], _ => rfl
theorem b_Desk_done (T : TX K mg) : BodyM P w K mg base "Desk" "done" "Desk.done" s_Desk_done ["self"] 1 (spDkDone K) := by
  intro cdv A outer s H vs Q E h X hr
  obtain ⟨t, l, s, rfl, D, q⟩ := h
  refine ⟨_, (pss_one (ps_ret (pe_callTy (cr_list (K := K)) rfl (T.free 88) (by decide +kernel) (pa_cons (pe_fldU (K := K) (pv 0)) pa_nil)))), ?_⟩
  obtain ⟨dx, g, j, h1, h2, h3⟩ := D.ins
  obtain ⟨ws, h4, h5⟩ := D.don.ex
  walk_at "st"
  refine c_listL (SqL.of h4) fun p H1 N1 => ?_
  exact q p H1 N1.kp (.lst (SqL.of N1.at_) (DtAll.kp h5 N1.kp).dp)
theorem M_Desk_done (T : TX K mg) : MethAt P w K mg base CX0 "Desk" "done" 2 ["self"] (spDkDone K) :=
  meth_of T 60 89 sc_Desk_done bn_Desk_done (by walk_at "len") (b_Desk_done T)
def spDkBegin (K : PySem.W.Frag) : Sp := fun vs H Q _ => ∃ (t l : Addr) (s : Dk), vs = [.ref t] ∧ DeskAt K H t l s ∧ ∀ H', Kp [t] H H' → DeskAt K H' t l (beginS s) → Q .non H'
theorem sc_Desk__begin : FnScope ["self"] ["self"] (defScope s_Desk__begin) := ⟨rfl, rfl, rfl, by decide +kernel, rfl, by decide +kernel, by decide +kernel⟩
theorem bn_Desk__begin : BindM "_begin" "Desk._begin" s_Desk__begin ["self"] := fun _ _ _ _ _ _ us hl => match us, hl with | [_], _ => rfl
theorem b_Desk__begin (T : TX K mg) : BodyM P w K mg base "Desk" "_begin" "Desk._begin" s_Desk__begin ["self"] 1 (spDkBegin K) := by
  intro cdv A outer s H vs Q E h X hr
  obtain ⟨t, l, s, rfl, D, q⟩ := h
  refine ⟨_, (pss_cons (ps_fldU (K := K) (pv 0) (pe_op (op_addU (K := K)) (pe_fldU (K := K) (pv 0)) pe_int)) (pss_cons (ps_fldU (K := K) (pv 0) pe_non) (pss_cons (ps_fldU (K := K) (pv 0) pe_int) (pss_cons (ps_fldU (K := K) (pv 0) (pe_tup pa_nil)) (pss_one (ps_fldU (K := K) (pv 0) pe_int)))))), ?_⟩
  obtain ⟨dx, g, j, h1, h2, h3⟩ := D.ins
  walk_at "st"
  simp only [upd_upd]
  walk_at "nw"
  intro j1 H1 N1
  have kt : ∀ {o : HO}, Kt H (upd H t o) := Kt.upd1 (NoT.ins h1)
  have h1' := N1.keep upd_same
  walk_at "st"
  simp only [upd_upd]
  have k1 : Kp [t] H H1 := (Kp.mut (by simp)).trans N1.kp
  have t1 : Kt H H1 := kt.trans N1.kp.kt
  refine q _ (k1.trans (Kp.mut (by simp))) (desk_set (s := beginS s) h1' (h2.kt t1) (.tup (SqT.of N1.at_) .nil) (D.don.kp k1 t1 (by simpa using D.ne)))
theorem M_Desk__begin (T : TX K mg) : MethAt P w K mg base CX0 "Desk" "_begin" 2 ["self"] (spDkBegin K) :=
  meth_of T 50 77 sc_Desk__begin bn_Desk__begin (by walk_at "len") (b_Desk__begin T)
def spDkFin (K : PySem.W.Frag) : Sp := fun vs H Q _ => ∃ (t l : Addr) (s : Dk) (v : Option Int), vs = [.ref t, optV v] ∧ DeskAt K H t l s ∧ s.done.length ≤ 1000 ∧ ∀ H', Kp [t, l] H H' → DeskAt K H' t l (finishS s v) → Q .non H'
theorem sc_Desk__finish : FnScope ["self", "version"] ["self", "version"] (defScope s_Desk__finish) := ⟨rfl, rfl, rfl, by decide +kernel, rfl, by decide +kernel, by decide +kernel⟩
theorem bn_Desk__finish : BindM "_finish" "Desk._finish" s_Desk__finish ["self", "version"] := fun _ _ _ _ _ _ us hl => match us, hl with | [_, _], _ => rfl
theorem b_Desk__finish (T : TX K mg) : BodyM P w K mg base "Desk" "_finish" "Desk._finish" s_Desk__finish ["self", "version"] 1 (spDkFin K) := by
  intro cdv A outer s H vs Q E h X hr
  obtain ⟨t, l, s, v, rfl, D, dl, q⟩ := h
  refine ⟨_, (pss_cons (ps_expr (pe_appendU (K := K) (pe_fldU (K := K) (pv 0)) (pe_tup (pa_cons (pe_fldU (K := K) (pv 0)) (pa_cons (pe_fldU (K := K) (pv 0)) (pa_cons (pv 1) (pa_cons (pe_fldU (K := K) (pv 0)) pa_nil))))))) (pss_one (ps_fldU (K := K) (pv 0) pe_non))), ?_⟩
  obtain ⟨dx, g, j, h1, h2, h3⟩ := D.ins
  obtain ⟨ws, h4, h5⟩ := D.don.ex
  have ne := D.ne
  have wl : ws.length = s.done.length := by rw [dta_len h5, List.length_map]
  walk_at "st"
  walk_at "nw"
  intro p H1 N1
  have h1' := N1.keep h1
  have h4' := N1.keep h4
  walk_at "st"
  have kt : Kt H (upd H1 l (.lst (ws ++ [.ref p]))) := N1.kp.kt.trans (Kt.upd1 (NoT.lst h4'))
  have k2 : Kp [t, l] H (upd H1 l (.lst (ws ++ [.ref p]))) := N1.kp.trans (Kp.mut (by simp))
  have hp : SqT K (upd H1 l (.lst (ws ++ [.ref p]))) p [.str s.nm, .int s.ser, optV v, .ref j] := SqT.kt (Kt.upd1 (NoT.lst h4')) (SqT.of N1.at_)
  have hv : Dt K (upd H1 l (.lst (ws ++ [.ref p]))) (optV v) (optE v) := by cases v with
    | none => exact .non
    | some i => exact .int i
  refine q _ (k2.trans (Kp.mut (by simp))) (desk_set (s := finishS s v) (g := .non) (upd_other ne.symm h1') rfl (Dt.kt kt h3) ⟨_, upd_same, ?_⟩)
  simp only [finishS, List.map_append]
  exact dta_snoc (DtAll.kt kt h5) (.tup hp (.cons (.str _) (.cons (.int _) (.cons hv (.cons (Dt.kt kt h3) .nil)))))
theorem M_Desk__finish (T : TX K mg) : MethAt P w K mg base CX0 "Desk" "_finish" 2 ["self", "version"] (spDkFin K) :=
  meth_of T 58 86 sc_Desk__finish bn_Desk__finish (by walk_at "len") (b_Desk__finish T)
def spDkOpened (K : PySem.W.Frag) : Sp := fun vs H Q _ => ∃ (t l : Addr) (s : Dk) (e : Int), vs = [.ref t, .int e] ∧ DeskAt K H t l s ∧ (s.ep.isSome = true → Q (.bl false) H) ∧ (s.ep.isSome = false → ∀ H', Kp [t] H H' → DeskAt K H' t l { s with ep := some e } → Q (.bl true) H')
theorem sc_Desk__hear_opened : FnScope ["self", "epoch"] ["self", "epoch"] (defScope s_Desk__hear_opened) := ⟨rfl, rfl, rfl, by decide +kernel, rfl, by decide +kernel, by decide +kernel⟩
theorem bn_Desk__hear_opened : BindM "_hear_opened" "Desk._hear_opened" s_Desk__hear_opened ["self", "epoch"] := fun _ _ _ _ _ _ us hl => match us, hl with | [_, _], _ => rfl
theorem b_Desk__hear_opened (T : TX K mg) : BodyM P w K mg base "Desk" "_hear_opened" "Desk._hear_opened" s_Desk__hear_opened ["self", "epoch"] 1 (spDkOpened K) := by
  intro cdv A outer s H vs Q E h X hr
  obtain ⟨t, l, s, e, rfl, D, q1, q2⟩ := h
  refine ⟨_, (pss_cons (ps_if (pt_cmpR op_isNotU (pe_fldU (K := K) (pv 0)) pe_non (nomark _)) (pss_one (ps_ret pe_bl)) pss_nil) (pss_cons (ps_fldU (K := K) (pv 0) (pv 1)) (pss_one (ps_ret pe_bl)))), ?_⟩
  obtain ⟨dx, g, j, h1, h2, h3⟩ := D.ins
  walk_at "st"
  cases he : s.ep with
  | some i =>
    rw [he] at h1 q1
    walk_at "dc"
    exact q1 rfl
  | none =>
    rw [he] at q2
    walk_at "dc"
    exact q2 rfl _ (Kp.mut (by simp)) (desk_set (s := { s with ep := some e }) h1 h2 h3 D.don)
theorem M_Desk__hear_opened (T : TX K mg) : MethAt P w K mg base CX0 "Desk" "_hear_opened" 2 ["self", "epoch"] (spDkOpened K) :=
  meth_of T 55 83 sc_Desk__hear_opened bn_Desk__hear_opened (by walk_at "len") (b_Desk__hear_opened T)
def spDkLost (K : PySem.W.Frag) : Sp := fun vs H Q _ => ∃ (t l : Addr) (s : Dk) (e : Int), vs = [.ref t, .int e] ∧ DeskAt K H t l s ∧ (s.ep ≠ some e → Q (.bl false) H) ∧ (s.ep = some e → ∀ H', Kp [t] H H' → DeskAt K H' t l (beginS s) → Q (.bl true) H')
theorem sc_Desk__hear_lost : FnScope ["self", "epoch"] ["self", "epoch"] (defScope s_Desk__hear_lost) := ⟨rfl, rfl, rfl, by decide +kernel, rfl, by decide +kernel, by decide +kernel⟩
theorem bn_Desk__hear_lost : BindM "_hear_lost" "Desk._hear_lost" s_Desk__hear_lost ["self", "epoch"] := fun _ _ _ _ _ _ us hl => match us, hl with | [_, _], _ => rfl
theorem b_Desk__hear_lost (T : TX K mg) : BodyM P w K mg base "Desk" "_hear_lost" "Desk._hear_lost" s_Desk__hear_lost ["self", "epoch"] 2 (spDkLost K) := by
  intro cdv A outer s H vs Q E h X hr
  obtain ⟨t, l, s, e, rfl, D, q1, q2⟩ := h
  have C_Desk := C_Desk T; have M_Desk__begin := M_Desk__begin (P := P) (w := w) (base := base) T
  refine ⟨_, (pss_cons (ps_if (PW.pt (pw_or (pt_cmpR op_isU (pe_fldU (K := K) (pv 0)) pe_non (nomark _)) (pw_or1 (pt_cmpR (op_neU (K := K) hr.units) (pe_fldU (K := K) (pv 0)) (pv 1) (nomark _))))) (pss_one (ps_ret pe_bl)) pss_nil) (pss_cons (ps_expr (pe_methS0 M_Desk__begin C_Desk hr at0 (pv 0))) (pss_one (ps_ret pe_bl)))), ?_⟩
  obtain ⟨dx, g, j, h1, h2, h3⟩ := D.ins
  walk_at "st"
  cases he : s.ep with
  | none =>
    rw [he] at q1
    walk_at "dc"
    exact q1 (fun z => nomatch z)
  | some i =>
    rw [he] at q1 q2 h1
    walk_at "dc"
    refine c_iteN (fun gi => ?_) (fun gi => ?_)
    · walk_at "st"
      exact q1 (fun z => gi (by injection z))
    · subst gi
      walk_at "st"
      refine ⟨t, l, s, rfl, D, fun H1 e1 D1 => ?_⟩
      walk_at "st"
      exact q2 rfl H1 e1 D1
theorem M_Desk__hear_lost (T : TX K mg) : MethAt P w K mg base CX0 "Desk" "_hear_lost" 3 ["self", "epoch"] (spDkLost K) :=
  meth_of T 56 84 sc_Desk__hear_lost bn_Desk__hear_lost (by walk_at "len") (b_Desk__hear_lost T)
end
end K61



namespace K61
open PySem L2 Sa
local macro_rules | `(tactic| walk_at "s1") => `(tactic| first | (with_reducible apply c_dgetK))
local macro_rules | `(tactic| walk_at "s1") => `(tactic| (with_reducible apply c_raiseO))
local macro_rules | `(tactic| walk_at "s1") => `(tactic| first | (with_reducible apply c_un) | (with_reducible apply c_negI))
local macro_rules | `(tactic| walk_at "s1") => `(tactic| first | ((with_reducible apply dk_g1 (by assumption)); (· walk_at "lk")) | ((with_reducible apply dk_p1 (by assumption)); (· walk_at "lk")) | ((with_reducible apply dk_g2 (by assumption)); (· walk_at "lk")) | ((with_reducible apply dk_p2 (by assumption)); (· walk_at "lk")) | ((with_reducible apply dk_g3 (by assumption)); (· walk_at "lk")) | ((with_reducible apply dk_p3 (by assumption)); (· walk_at "lk")) | ((with_reducible apply dk_g4 (by assumption)); (· walk_at "lk")) | ((with_reducible apply dk_p4 (by assumption)); (· walk_at "lk")) | ((with_reducible apply dk_g5 (by assumption)); (· walk_at "lk")) | ((with_reducible apply dk_p5 (by assumption)); (· walk_at "lk")) | ((with_reducible apply dk_g6 (by assumption)); (· walk_at "lk")) | ((with_reducible apply dk_p6 (by assumption)); (· walk_at "lk")) | ((with_reducible apply dk_g7 (by assumption)); (· walk_at "lk")) | ((with_reducible apply dk_p7 (by assumption)); (· walk_at "lk")) | ((with_reducible apply dk_g8 (by assumption)); (· walk_at "lk")) | ((with_reducible apply dk_p8 (by assumption)); (· walk_at "lk")) | ((with_reducible apply dk_g9 (by assumption)); (· walk_at "lk")) | ((with_reducible apply dk_p9 (by assumption)); (· walk_at "lk")) | ((with_reducible apply dk_r); (· walk_at "lk"); (· decide +kernel)))
set_option pp.maxSteps 1500
theorem pot_done {n m : Nat} {s : Dk} (O : OkD n m s) : 2 * s.done.length ≤ n := by
  have p := O.pot
  have : ∀ ds : List DoneE, 2 * ds.length ≤ (ds.map fun e => e.js.length + 2).sum := fun ds => by
    induction ds with
    | nil => simp
    | cons e r ih => rw [List.map_cons, List.sum_cons, List.length_cons]; omega
  have := this s.done
  unfold pot at p
  omega
theorem actOk {K : PySem.W.Frag} {H H' : Hp} {a : Addr} {x : Action} (h : ActAt K H a x) (e : Kt H H') : Dt K H' (.ref a) x.d := (h.kt e).dt
theorem cut_take {α : Type} {ys : List α} {k : Nat} : cutL ys none (some ((k : Nat) : Int)) = ys.take k := by
  unfold cutL
  have e1 : HT.sIx ys.length 0 none = 0 := rfl
  have e2 : HT.sIx ys.length ys.length (some ((k : Nat) : Int)) = min k ys.length := by
    unfold HT.sIx
    first | (simp; omega) | (split <;> omega) | rfl
  rw [e1, e2, List.drop_zero, Nat.sub_zero, List.take_eq_take_iff]
  omega
theorem Kp.more {t l : Addr} {H H' : Hp} (e : Kp [t] H H') : Kp [t, l] H H' := fun a o n h => e a o (by simp only [List.mem_cons, List.not_mem_nil, or_false, not_or] at n ⊢; exact n.1) h
section
variable {P : Program} {w : World} {K : PySem.W.Frag} {mg : Str → Option Value} {base : Heap}
def spDkWanted (K : PySem.W.Frag) : Sp := fun vs H Q _ => ∃ (t l : Addr) (s : Dk) (n m : Nat), vs = [.ref t] ∧ DeskAt K H t l s ∧ OkD n m s ∧ ∀ v H', Kp [] H H' → Dt K H' v (wantedD s) → Q v H'
theorem sc_Desk_wanted : FnScope ["self", "row", "where"] ["self"] (defScope s_Desk_wanted) := ⟨rfl, rfl, rfl, by decide +kernel, rfl, by decide +kernel, by decide +kernel⟩
theorem bn_Desk_wanted : BindM "wanted" "Desk.wanted" s_Desk_wanted ["self"] := fun _ _ _ _ _ _ us hl => match us, hl with | [_], _ => rfl
theorem b_Desk_wanted (T : TX K mg) : BodyM P w K mg base "Desk" "wanted" "Desk.wanted" s_Desk_wanted ["self", "row", "where"] 2 (spDkWanted K) := by
  intro cdv A outer s H vs Q E h X hr
  obtain ⟨t, l, s, n, m, rfl, D, O, q⟩ := h
  have C_Desk := C_Desk T; have M_Desk_is_at_work := M_Desk_is_at_work (P := P) (w := w) (base := base) T
  refine ⟨_, (pss_cons (ps_if (pt_not (pt_tru (K := K) (pe_methS0 M_Desk_is_at_work C_Desk hr at0 (pv 0)))) (pss_one (ps_ret pe_non)) pss_nil) (pss_cons (ps_if (pt_cmpR op_isU (pe_fldU (K := K) (pv 0)) pe_non (nomark _)) (pss_one (ps_ret (pe_tup (pa_cons pe_str (pa_cons (pe_fldU (K := K) (pv 0)) (pa_cons (pe_fldU (K := K) (pv 0)) (pa_cons (pe_fldU (K := K) (pv 0)) pa_nil))))))) pss_nil) (pss_cons (ps_set (i := 1) sc_Desk_wanted.nd rfl (Or.inl rfl) (pe_ix (ix_U (K := K)) (pe_fldU (K := K) (pv 0)) (pe_fldU (K := K) (pv 0)) (fun _ _ => rfl))) (pss_cons (ps_set (i := 2) sc_Desk_wanted.nd rfl (Or.inl rfl) (pe_tup (pa_cons (pe_fldU (K := K) (pv 0)) (pa_cons (pe_fldU (K := K) (pv 0)) (pa_cons (pe_fldU (K := K) (pv 0)) (pa_cons (pe_fldU (K := K) (pv 0)) (pa_cons (pe_callB (cr_len (K := K)) rfl (T.free 2) PySem.boot_len (pa_cons (pe_fldU (K := K) (pv 0)) pa_nil)) pa_nil))))))) (pss_one (ps_ret (pe_ifExp (pt_cmpR (op_eqU (K := K) hr.units) (pv 1) (pe_gCon (T.glo 24)) (nomark _)) (pe_op (op_addU (K := K)) (pe_tup (pa_cons pe_str pa_nil)) (pv 2)) (pe_op (op_addU (K := K)) (pe_op (op_addU (K := K)) (pe_tup (pa_cons pe_str pa_nil)) (pv 2)) (pe_tup (pa_cons (pe_ix (ix_U (K := K)) (pv 1) pe_int (fun _ _ => rfl)) pa_nil)))))))))), ?_⟩
  obtain ⟨dx, g, j, h1, h2, h3⟩ := D.ins
  obtain ⟨j', ys, e1, hys, hjs⟩ := dt_tup h3
  injection e1 with e1
  subst e1
  have hyl : ys.length = s.jr.length := by rw [dta_len hjs, List.length_map]
  have aok : okS ("act" : Str) = true := by decide +kernel
  walk_at "st"
  refine ⟨t, l, s, rfl, D, ?_⟩
  cases ha : s.ag with
  | none =>
    walk_at "dc"
    exact q .non H Kp.refl (by unfold wantedD; rw [ha]; exact .non)
  | some rs =>
    rw [ha] at h2
    have A := O.ag rs ha
    obtain ⟨ga, vs, rfl, hvs, hds, hvl⟩ := rows_at h2
    cases he : s.ep with
    | none =>
      rw [he] at h1
      walk_at "dc"
      walk_at "nw"
      intro p H1 N1
      exact q _ H1 N1.kp (by unfold wantedD; rw [ha]; simp only [he]; exact .tup (SqT.of N1.at_) (.cons (.str _) (.cons (.int _) (.cons (.int _) (.cons (.str _) .nil)))))
    | some e =>
      rw [he] at h1
      obtain ⟨r, hr⟩ : ∃ r, rs[s.row]? = some r := ⟨_, List.getElem?_eq_getElem A.in_⟩
      obtain ⟨u, hu1, hu2⟩ := row_at hds hr
      walk_at "dc"
      refine c_ixT hvs (atI_nat hu1) ?_
      walk_at "st"
      first | (refine c_lenT hys ?_; walk_at "st") | skip
      rw [hyl]
      walk_at "nw"
      intro p H1 N1
      have hp := SqT.of N1.at_ (K := K)
      have hu3 := Dt.kp hu2 N1.kp
      walk_at "st"
      cases r with
      | fin w1 =>
        have hw := A.rows.fin _ _ hr
        have hw1 : w1 = "stop" := by simpa using hw
        subst hw1
        refine c_eqD hu3.dp (stop_dp T _) (by decide +kernel) (by decide +kernel) ?_
        rw [eqv_rows_fin]
        walk_at "dc"
        walk_at "nw"
        intro p2 H2 N2
        walk_at "st"
        refine c_addT (SqT.of N2.at_) (SqT.kp N2.kp hp) (by rw [sizeLine_eq]; simp only [List.length_cons, List.length_nil]; omega) fun p3 H3 e3 hp3 => ?_
        refine q _ H3 ((N1.kp.trans N2.kp).trans e3) ?_
        unfold wantedD
        rw [ha]
        simp only [he, hr]
        exact .tup hp3 (.cons (.str _) (.cons (.int _) (.cons (.int _) (.cons (.int _) (.cons (.int _) (.cons (.int _) .nil))))))
      | act w1 x cs o =>
        obtain ⟨rfl, rok⟩ := A.rows.row _ _ _ _ _ hr
        obtain ⟨pr, ax, ac, rfl, hpr, hax, hac⟩ := row_act hu3
        refine c_eqD hu3.dp (stop_dp T _) ((shaped_row rok A.rows.few aok (by decide)).shaped (by decide)) (by decide +kernel) ?_
        rw [eqv_rows_act]
        walk_at "dc"
        walk_at "nw"
        intro p2 H2 N2
        walk_at "st"
        refine c_addT (SqT.of N2.at_) (SqT.kp N2.kp hp) (by rw [sizeLine_eq]; simp only [List.length_cons, List.length_nil]; omega) fun p3 H3 e3 hp3 => ?_
        have k13 := N2.kp.trans e3
        have hpr3 := SqT.kp k13 hpr
        walk_at "st"
        first | (refine c_ixT hpr3 rfl ?_; walk_at "st") | skip
        walk_at "nw"
        intro p4 H4 N4
        walk_at "st"
        refine c_addT (SqT.kp N4.kp hp3) (SqT.of N4.at_) (by rw [sizeLine_eq]; simp only [List.length_cons, List.length_nil, List.length_append]; omega) fun p5 H5 e5 hp5 => ?_
        have k15 := (k13.trans N4.kp).trans e5
        refine q _ H5 (N1.kp.trans k15) ?_
        unfold wantedD
        rw [ha]
        simp only [he, hr]
        exact .tup hp5 (.cons (.str _) (.cons (.int _) (.cons (.int _) (.cons (.int _) (.cons (.int _) (.cons (.int _) (.cons (actOk hax k15.kt) .nil)))))))
theorem M_Desk_wanted (T : TX K mg) : MethAt P w K mg base CX0 "Desk" "wanted" 3 ["self"] (spDkWanted K) :=
  meth_of T 53 81 sc_Desk_wanted bn_Desk_wanted (by walk_at "len") (b_Desk_wanted T)
def spDkAns (K : PySem.W.Frag) : Sp := fun vs H Q _ => ∃ (t l : Addr) (s : Dk) (n m : Nat) (rs : List Row) (att pos : Int) (u : V) (ans : PyData), vs = [.ref t, .int att, .int pos, u] ∧ DeskAt K H t l s ∧ OkD n m s ∧ s.ag = some rs ∧ Dt K H u ans ∧ Fit 3 30000 ans ∧
  ∀ b s' H', ansS rs s att pos ans = (b, s') → Kp [t] H H' → DeskAt K H' t l s' → Q (.bl b) H'
theorem sc_Desk__hear_answer : FnScope ["self", "attempt", "position", "answer", "row"] ["self", "attempt", "position", "answer"] (defScope s_Desk__hear_answer) := ⟨rfl, rfl, rfl, by decide +kernel, rfl, by decide +kernel, by decide +kernel⟩
theorem bn_Desk__hear_answer : BindM "_hear_answer" "Desk._hear_answer" s_Desk__hear_answer ["self", "attempt", "position", "answer"] := fun _ _ _ _ _ _ us hl => match us, hl with | [_, _, _, _], _ => rfl
theorem b_Desk__hear_answer (T : TX K mg) : BodyM P w K mg base "Desk" "_hear_answer" "Desk._hear_answer" s_Desk__hear_answer ["self", "attempt", "position", "answer", "row"] 2 (spDkAns K) := by
  intro cdv A outer s H vs Q E h X hr
  obtain ⟨t, l, s, n, m, rs, att, pos, u, ans, rfl, D, O, ha, hu, hf, q⟩ := h
  have D_next_row := D_next_row (P := P) (w := w) (base := base) T
  refine ⟨_, (pss_cons (ps_if (PW.pt (pw_or (pt_cmpR op_isU (pe_fldU (K := K) (pv 0)) pe_non (nomark _)) (pw_or1 (pt_cmpR (op_eqU (K := K) hr.units) (pe_ix (ix_U (K := K)) (pe_fldU (K := K) (pv 0)) (pe_fldU (K := K) (pv 0)) (fun _ _ => rfl)) (pe_gCon (T.glo 24)) (nomark _))))) (pss_one (ps_ret pe_bl)) pss_nil) (pss_cons (ps_if (PW.pt (pw_or (pt_cmpR (op_neU (K := K) hr.units) (pv 1) (pe_fldU (K := K) (pv 0)) (nomark _)) (pw_or1 (pt_cmpR (op_neU (K := K) hr.units) (pv 2) (pe_callB (cr_len (K := K)) rfl (T.free 2) PySem.boot_len (pa_cons (pe_fldU (K := K) (pv 0)) pa_nil)) (nomark _))))) (pss_one (ps_ret pe_bl)) pss_nil) (pss_cons (ps_set (i := 4) sc_Desk__hear_answer.nd rfl (Or.inl rfl) (pe_ix (ix_U (K := K)) (pe_fldU (K := K) (pv 0)) (pe_fldU (K := K) (pv 0)) (fun _ _ => rfl))) (pss_cons (ps_fldU (K := K) (pv 0) (pe_op (op_addU (K := K)) (pe_fldU (K := K) (pv 0)) (pe_tup (pa_cons (pe_tup (pa_cons (pe_ix (ix_U (K := K)) (pv 4) pe_int (fun _ _ => rfl)) (pa_cons (pv 3) pa_nil))) pa_nil)))) (pss_cons (ps_fldU (K := K) (pv 0) (pe_callA D_next_row hr pass0 (pa_cons (pv 4) (pa_cons (pv 3) pa_nil)))) (pss_one (ps_ret pe_bl))))))), ?_⟩
  obtain ⟨dx, g, j, h1, h2, h3⟩ := D.ins
  rw [ha] at h2
  have A := O.ag rs ha
  obtain ⟨ga, vs, rfl, hvs, hds, hvl⟩ := rows_at h2
  obtain ⟨j', ys, e1, hys, hjs⟩ := dt_tup h3
  injection e1 with e1
  subst e1
  have hyl : ys.length = s.jr.length := by rw [dta_len hjs, List.length_map]
  have aok : okS ("act" : Str) = true := by decide +kernel
  obtain ⟨r, hr⟩ : ∃ r, rs[s.row]? = some r := ⟨_, List.getElem?_eq_getElem A.in_⟩
  obtain ⟨v, hu1, hu2⟩ := row_at hds hr
  have no : ∀ {c : Bool}, (s.ep.isNone || !(decide (att = s.att) && decide (pos = s.jr.length))) = true ∨ isAct rs s.row = false → Q (.bl false) H := fun {c} hc => by
    refine q false s H ?_ Kp.refl D
    unfold ansS
    rw [hr]
    cases r with
    | fin w1 => rfl
    | act w1 x cs o =>
      rcases hc with hc | hc
      · simp only [hc, if_true]
      · unfold isAct at hc; rw [hr] at hc; cases hc
  walk_at "st"
  cases he : s.ep with
  | none =>
    walk_at "dc"
    exact no (c := true) (.inl (by rw [he]; rfl))
  | some e =>
    rw [he] at h1
    walk_at "dc"
    refine c_ixT hvs (atI_nat hu1) ?_
    walk_at "st"
    cases r with
    | fin w1 =>
      have hw := A.rows.fin _ _ hr
      have hw1 : w1 = "stop" := by simpa using hw
      subst hw1
      refine c_eqD hu2.dp (stop_dp T _) (by decide +kernel) (by decide +kernel) ?_
      rw [eqv_rows_fin]
      walk_at "dc"
      exact no (c := true) (.inr (by unfold isAct; rw [hr]))
    | act w1 x cs o =>
      obtain ⟨rfl, rok⟩ := A.rows.row _ _ _ _ _ hr
      obtain ⟨pr, ax, ac, rfl, hpr, hax, hac⟩ := row_act hu2
      refine c_eqD hu2.dp (stop_dp T _) ((shaped_row rok A.rows.few aok (by decide)).shaped (by decide)) (by decide +kernel) ?_
      rw [eqv_rows_act]
      walk_at "dc"
      refine c_iteN (fun g1 => ?_) (fun g1 => ?_)
      · walk_at "st"
        exact no (c := true) (.inl (by rw [he, decide_eq_false g1]; rfl))
      walk_at "st"
      first | (refine c_lenT hys ?_; walk_at "st") | skip
      rw [hyl]
      refine c_iteN (fun g2 => ?_) (fun g2 => ?_)
      · walk_at "st"
        exact no (c := true) (.inl (by rw [he, decide_eq_false g2, Bool.and_false]; rfl))
      walk_at "st"
      refine c_ixT hvs (atI_nat hu1) ?_
      walk_at "st"
      first | (refine c_ixT hpr rfl ?_; walk_at "st") | skip
      walk_at "nw"
      intro p1 H1 N1
      walk_at "st"
      walk_at "nw"
      intro p2 H2 N2
      walk_at "st"
      have k2 : Kp [] H H2 := N1.kp.trans N2.kp
      have jl := O.jr.len
      refine c_addT (SqT.kp k2 hys) (SqT.of N2.at_) (by rw [sizeLine_eq]; simp only [List.length_cons, List.length_nil]; omega) fun p3 H3 e3 hp3 => ?_
      have k3 := k2.trans e3
      have h1' := k3.at0 h1
      walk_at "st"
      have kt : Kt H3 (upd H3 t (.ins (He.ga K "Desk") dx (dkF (.int s.num) (.int s.ser) (.str s.nm) (.ref ga) (optV (some e)) (.int s.att) (.ref p3) (.int (s.row : Nat)) (.ref l)))) := Kt.upd1 (NoT.ins h1')
      refine ⟨pr, ax, ac, u, _, cs, o, ans, rfl, SqT.kt (k3.kt.trans kt) hpr, Dt.kt (k3.kt.trans kt) hac, rok.ans, Dt.kt (k3.kt.trans kt) hu, hf, ?_⟩
      walk_at "st"
      simp only [upd_upd]
      have hro : rowOf rs (s.jr ++ [(x, ans)]) = stepC cs o ans := by
        unfold rowOf
        rw [after_more A.at_ hr rok.act]
        rfl
      refine q true (goneS s rs (s.jr ++ [(x, ans)])) _ ?_ (k3.mono.trans (Kp.mut (by simp))) ?_
      · unfold ansS
        rw [hr]
        simp only [he, decide_eq_true g1, decide_eq_true g2]
        rfl
      · refine desk_put (s := goneS s rs (s.jr ++ [(x, ans)])) h1' (g := .ref ga) (j := p3) (by simp only [goneS, ha]; exact Dt.kp h2 k3) ?_ (D.don.kp k3 k3.kt (by simp)) (by simp only [goneS, he, hro])
        · simp only [goneS, jourD, List.map_append]
          exact .tup hp3 (dta_snoc (DtAll.kp hjs k3) (.tup (SqT.kp (N2.kp.trans e3) (SqT.of N1.at_)) (.cons (actOk hax k3.kt) (.cons (Dt.kp hu k3) .nil))))
theorem M_Desk__hear_answer (T : TX K mg) : MethAt P w K mg base CX0 "Desk" "_hear_answer" 3 ["self", "attempt", "position", "answer"] (spDkAns K) :=
  meth_of T 57 85 sc_Desk__hear_answer bn_Desk__hear_answer (by walk_at "len") (b_Desk__hear_answer T)
def spDkRes (K : PySem.W.Frag) : Sp := fun vs H Q _ => ∃ (t l r : Addr) (s : Dk) (n m : Nat) (rs : List Row) (att : Int) (x : Res), vs = [.ref t, .int att, .ref r] ∧ DeskAt K H t l s ∧ OkD n m s ∧ n ≤ 1000 ∧ s.ag = some rs ∧ ResAt K H r x ∧
  ∀ b s' H', resS rs s att x = (b, s') → Kp [t, l] H H' → DeskAt K H' t l s' → Q (.bl b) H'
theorem sc_Desk__hear_result : FnScope ["self", "attempt", "result"] ["self", "attempt", "result"] (defScope s_Desk__hear_result) := ⟨rfl, rfl, rfl, by decide +kernel, rfl, by decide +kernel, by decide +kernel⟩
theorem bn_Desk__hear_result : BindM "_hear_result" "Desk._hear_result" s_Desk__hear_result ["self", "attempt", "result"] := fun _ _ _ _ _ _ us hl => match us, hl with | [_, _, _], _ => rfl
theorem b_Desk__hear_result (T : TX K mg) : BodyM P w K mg base "Desk" "_hear_result" "Desk._hear_result" s_Desk__hear_result ["self", "attempt", "result"] 3 (spDkRes K) := by
  intro cdv A outer s H vs Q E h X hr
  obtain ⟨t, l, r, s, n, m, rs, att, x, rfl, D, O, hn, ha, hx, q⟩ := h
  have C_Desk := C_Desk T; have D_row_after := D_row_after (P := P) (w := w) (base := base) T; have M_Desk__finish := M_Desk__finish (P := P) (w := w) (base := base) T
  refine ⟨_, (pss_cons (ps_if (PW.pt (pw_or (pt_cmpR op_isU (pe_fldU (K := K) (pv 0)) pe_non (nomark _)) (pw_or1 (PW.pt (pw_and (pt_cmpR (op_neU (K := K) hr.units) (pv 1) (pe_fldU (K := K) (pv 0)) (nomark _)) (pw_and1 (pt_cmpR (op_neU (K := K) hr.units) (pe_ix (ix_U (K := K)) (pv 2) pe_int (fun _ _ => rfl)) pe_str (nomark _)))))))) (pss_one (ps_ret pe_bl)) pss_nil) (pss_cons (ps_if (pt_cmpR (op_eqU (K := K) hr.units) (pe_ix (ix_U (K := K)) (pv 2) pe_int (fun _ _ => rfl)) pe_str (nomark _)) (pss_one (ps_expr (pe_methS1 M_Desk__finish C_Desk hr at0 (pv 0) (pa_cons (pe_ix (ix_U (K := K)) (pv 2) pe_int (fun _ _ => rfl)) pa_nil)))) (pss_one (ps_if (pt_cmpR (op_eqU (K := K) hr.units) (pe_ix (ix_U (K := K)) (pv 2) pe_int (fun _ _ => rfl)) pe_str (nomark _)) (pss_one (ps_expr (pe_methS1 M_Desk__finish C_Desk hr at0 (pv 0) (pa_cons pe_non pa_nil)))) (pss_cons (ps_fldU (K := K) (pv 0) (pe_op (op_addU (K := K)) (pe_fldU (K := K) (pv 0)) pe_int)) (pss_one (ps_if (pt_cmpR (op_eqU (K := K) hr.units) (pe_ix (ix_U (K := K)) (pv 2) pe_int (fun _ _ => rfl)) pe_str (nomark _)) (pss_cons (ps_fldU (K := K) (pv 0) (pe_slice (sl_U (K := K)) (pe_fldU (K := K) (pv 0)) po_none (po_some (pe_ix (ix_U (K := K)) (pv 2) pe_int (fun _ _ => rfl))))) (pss_one (ps_fldU (K := K) (pv 0) (pe_callA D_row_after hr pass0 (pa_cons (pe_fldU (K := K) (pv 0)) (pa_cons (pe_fldU (K := K) (pv 0)) pa_nil)))))) pss_nil)))))) (pss_one (ps_ret pe_bl)))), ?_⟩
  obtain ⟨dx, g, j, h1, h2, h3⟩ := D.ins
  rw [ha] at h2
  have A := O.ag rs ha
  have dl := pot_done O
  obtain ⟨j', ys, e1, hys, hjs⟩ := dt_tup h3
  injection e1 with e1
  subst e1
  have hyl : ys.length = s.jr.length := by rw [dta_len hjs, List.length_map]
  have no : (s.ep.isNone || (!decide (att = s.att) && !isAcc x)) = true → Q (.bl false) H := fun hc => by
    refine q false s H ?_ Kp.refl D
    unfold resS
    rw [hc, if_pos rfl]
  have yes : ∀ {b s' H'}, (s.ep.isNone || (!decide (att = s.att) && !isAcc x)) = false → resS rs s att x = (b, s') → Kp [t, l] H H' → DeskAt K H' t l s' → Q (.bl b) H' := fun _ => q _ _ _
  walk_at "st"
  cases he : s.ep with
  | none =>
    walk_at "dc"
    exact no (by rw [he]; rfl)
  | some e =>
    rw [he] at h1
    cases x with
    | accepted v =>
      have hx : SqT K H r [.str "accepted", .int v] := hx
      have fin : (∀ H', Kp [t, l] H H' → DeskAt K H' t l (finishS s (some v)) → Q (.bl true) H') := fun H' k d => q true _ H' (by unfold resS; rw [he]; simp [isAcc]) k d
      walk_at "dc"
      refine c_iteN (fun g1 => ?_) (fun g1 => ?_)
      all_goals
        walk_at "st"
        first | (refine c_ixT hx rfl ?_; walk_at "st") | skip
        walk_at "dc"
        first | (refine c_ixT hx rfl ?_; walk_at "dc") | skip
        first | (refine c_ixT hx rfl ?_; walk_at "dc") | skip
        refine ⟨t, l, s, some v, rfl, D, by omega, fun H1 k1 D1 => ?_⟩
        walk_at "st"
        exact fin H1 k1 D1
    | failed ns =>
      obtain ⟨u, hx, _⟩ := hx
      walk_at "dc"
      refine c_iteN (fun g1 => ?_) (fun g1 => ?_)
      · walk_at "dc"
        first | (refine c_ixT hx rfl ?_; walk_at "dc") | skip
        exact no (by rw [decide_eq_false g1]; simp [isAcc])
      · walk_at "dc"
        first | (refine c_ixT hx rfl ?_; walk_at "dc") | skip
        first | (refine c_ixT hx rfl ?_; walk_at "dc") | skip
        refine ⟨t, l, s, none, rfl, D, by omega, fun H1 k1 D1 => ?_⟩
        walk_at "st"
        exact q true _ H1 (by unfold resS; rw [he, decide_eq_true g1]; rfl) k1 D1
    | waiting =>
      have hx : SqT K H r [.str "waiting"] := hx
      walk_at "dc"
      refine c_iteN (fun g1 => ?_) (fun g1 => ?_)
      · walk_at "dc"
        first | (refine c_ixT hx rfl ?_; walk_at "dc") | skip
        exact no (by rw [decide_eq_false g1]; simp [isAcc])
      · walk_at "dc"
        first | (refine c_ixT hx rfl ?_; walk_at "dc") | skip
        first | (refine c_ixT hx rfl ?_; walk_at "dc") | skip
        have kt : Kt H (upd H t (.ins (He.ga K "Desk") dx (dkF (.int s.num) (.int s.ser) (.str s.nm) g (optV (some e)) (.int (s.att + 1)) (.ref j) (.int (s.row : Nat)) (.ref l)))) := Kt.upd1 (NoT.ins h1)
        first | (refine c_ixT (SqT.kt kt hx) rfl ?_; walk_at "dc") | skip
        refine q true { s with att := s.att + 1 } _ (by unfold resS; rw [he, decide_eq_true g1]; rfl) (Kp.mut (by simp)) ?_
        exact desk_put (s := { s with att := s.att + 1 }) h1 (g := g) (j := j) (by simp only [ha]; exact h2) h3 D.don (by simp only [he])
    | refused k ans since =>
      obtain ⟨u, hx, _⟩ := hx
      walk_at "dc"
      refine c_iteN (fun g1 => ?_) (fun g1 => ?_)
      · walk_at "dc"
        first | (refine c_ixT hx rfl ?_; walk_at "dc") | skip
        exact no (by rw [decide_eq_false g1]; simp [isAcc])
      · obtain ⟨ga, vs, rfl, hvs, hds, hvl⟩ := rows_at h2
        walk_at "dc"
        first | (refine c_ixT hx rfl ?_; walk_at "dc") | skip
        first | (refine c_ixT hx rfl ?_; walk_at "dc") | skip
        have kt : Kt H (upd H t (.ins (He.ga K "Desk") dx (dkF (.int s.num) (.int s.ser) (.str s.nm) (.ref ga) (optV (some e)) (.int (s.att + 1)) (.ref j) (.int (s.row : Nat)) (.ref l)))) := Kt.upd1 (NoT.ins h1)
        have hx1 := SqT.kt kt hx
        have hys1 := SqT.kt kt hys
        have hjs1 := DtAll.kt kt hjs
        have h21 := Dt.kt kt h2
        have don1 := D.don.kp (Kp.mut (ms := [t]) (o := .ins (He.ga K "Desk") dx (dkF (.int s.num) (.int s.ser) (.str s.nm) (.ref ga) (optV (some e)) (.int (s.att + 1)) (.ref j) (.int (s.row : Nat)) (.ref l))) (by simp)) kt (by simpa using D.ne)
        have k1 : Kp [t] H (upd H t (.ins (He.ga K "Desk") dx (dkF (.int s.num) (.int s.ser) (.str s.nm) (.ref ga) (optV (some e)) (.int (s.att + 1)) (.ref j) (.int (s.row : Nat)) (.ref l)))) := Kp.mut (by simp)
        have hat : (upd H t (.ins (He.ga K "Desk") dx (dkF (.int s.num) (.int s.ser) (.str s.nm) (.ref ga) (optV (some e)) (.int (s.att + 1)) (.ref j) (.int (s.row : Nat)) (.ref l)))) t = some (.ins (He.ga K "Desk") dx (dkF (.int s.num) (.int s.ser) (.str s.nm) (.ref ga) (optV (some e)) (.int (s.att + 1)) (.ref j) (.int (s.row : Nat)) (.ref l))) := upd_same
        generalize upd H t (.ins (He.ga K "Desk") dx (dkF (.int s.num) (.int s.ser) (.str s.nm) (.ref ga) (optV (some e)) (.int (s.att + 1)) (.ref j) (.int (s.row : Nat)) (.ref l))) = H1 at *
        first | (refine c_ixT hx1 rfl ?_; walk_at "dc") | skip
        first | (refine c_ixT hx1 rfl ?_; walk_at "dc") | skip
        refine c_slT hys1 fun p2 H2 e2 hp2 => ?_
        rw [cut_take] at hp2
        have hat2 := e2.at0 hat
        walk_at "st"
        have hjt : ∀ H3, Kt H2 H3 → Dt K H3 (.ref p2) (jourD (s.jr.take k)) := fun H3 k3 => .tup (SqT.kt k3 hp2) (by rw [List.map_take]; exact DtAll.kt (e2.kt.trans k3) (dta_take k hjs1))
        have kt2 : Kt H2 (upd H2 t (.ins (He.ga K "Desk") dx (dkF (.int s.num) (.int s.ser) (.str s.nm) (.ref ga) (optV (some e)) (.int (s.att + 1)) (.ref p2) (.int (s.row : Nat)) (.ref l)))) := Kt.upd1 (NoT.ins hat2)
        refine ⟨ga, p2, rs, s.jr.take k, _, rfl, Dt.kt (e2.kt.trans kt2) h21, A.rows, hjt _ kt2, fun en he => O.jr.ent en (List.mem_of_mem_take he), by rw [List.length_take]; have := O.jr.len; omega, ?_⟩
        rw [A.row_take k]
        walk_at "st"
        simp only [upd_upd]
        refine q true (goneS { s with att := s.att + 1 } rs (s.jr.take k)) _ (by unfold resS; rw [he, decide_eq_true g1]; rfl) ((Kp.more (k1.trans e2.mono)).trans (Kp.mut (by simp))) ?_
        exact desk_put (s := goneS { s with att := s.att + 1 } rs (s.jr.take k)) hat2 (g := .ref ga) (j := p2) (by simp only [goneS, ha]; exact Dt.kp h21 e2) (hjt _ Kt.refl) (don1.kp e2 e2.kt (by simp)) (by simp only [goneS, he, optN])
theorem M_Desk__hear_result (T : TX K mg) : MethAt P w K mg base CX0 "Desk" "_hear_result" 4 ["self", "attempt", "result"] (spDkRes K) :=
  meth_of T 59 87 sc_Desk__hear_result bn_Desk__hear_result (by walk_at "len") (b_Desk__hear_result T)
end
end K61



namespace K61
open PySem L2 Sa
local macro_rules | `(tactic| walk_at "s1") => `(tactic| first | (with_reducible apply c_dgetK))
local macro_rules | `(tactic| walk_at "s1") => `(tactic| (with_reducible apply c_raiseO))
local macro_rules | `(tactic| walk_at "s1") => `(tactic| first | (with_reducible apply c_un) | (with_reducible apply c_negI))
local macro_rules | `(tactic| walk_at "s1") => `(tactic| first | ((with_reducible apply dk_g1 (by assumption)); (· walk_at "lk")) | ((with_reducible apply dk_p1 (by assumption)); (· walk_at "lk")) | ((with_reducible apply dk_g2 (by assumption)); (· walk_at "lk")) | ((with_reducible apply dk_p2 (by assumption)); (· walk_at "lk")) | ((with_reducible apply dk_g3 (by assumption)); (· walk_at "lk")) | ((with_reducible apply dk_p3 (by assumption)); (· walk_at "lk")) | ((with_reducible apply dk_g4 (by assumption)); (· walk_at "lk")) | ((with_reducible apply dk_p4 (by assumption)); (· walk_at "lk")) | ((with_reducible apply dk_g5 (by assumption)); (· walk_at "lk")) | ((with_reducible apply dk_p5 (by assumption)); (· walk_at "lk")) | ((with_reducible apply dk_g6 (by assumption)); (· walk_at "lk")) | ((with_reducible apply dk_p6 (by assumption)); (· walk_at "lk")) | ((with_reducible apply dk_g7 (by assumption)); (· walk_at "lk")) | ((with_reducible apply dk_p7 (by assumption)); (· walk_at "lk")) | ((with_reducible apply dk_g8 (by assumption)); (· walk_at "lk")) | ((with_reducible apply dk_p8 (by assumption)); (· walk_at "lk")) | ((with_reducible apply dk_g9 (by assumption)); (· walk_at "lk")) | ((with_reducible apply dk_p9 (by assumption)); (· walk_at "lk")) | ((with_reducible apply dk_r); (· walk_at "lk"); (· decide +kernel)))
set_option pp.maxSteps 1500
section
variable {P : Program} {w : World} {K : PySem.W.Frag} {mg : Str → Option Value} {base : Heap}
def spDkHear (K : PySem.W.Frag) : Sp := fun vs H Q _ => ∃ (t l a : Addr) (s : Dk) (n m : Nat) (L : Letter), vs = [.ref t, .ref a] ∧ DeskAt K H t l s ∧ OkD n m s ∧ n ≤ 1000 ∧ LetAt K H a L ∧ LetOk L ∧
  ∀ H', Kp [t, l] H H' → DeskAt K H' t l (heardS s L).2 → Q (.bl (heardS s L).1) H'
theorem sc_Desk_hear : FnScope ["self", "letter"] ["self", "letter"] (defScope s_Desk_hear) := ⟨rfl, rfl, rfl, by decide +kernel, rfl, by decide +kernel, by decide +kernel⟩
theorem bn_Desk_hear : BindM "hear" "Desk.hear" s_Desk_hear ["self", "letter"] := fun _ _ _ _ _ _ us hl => match us, hl with | [_, _], _ => rfl
theorem b_Desk_hear (T : TX K mg) : BodyM P w K mg base "Desk" "hear" "Desk.hear" s_Desk_hear ["self", "letter"] 4 (spDkHear K) := by
  intro cdv A outer s H vs Q E h X hr
  obtain ⟨t, l, a, s, n, m, L, rfl, D, O, hn, hL, okL, q⟩ := h
  have C_Desk := C_Desk T; have M_Desk__hear_answer := M_Desk__hear_answer (P := P) (w := w) (base := base) T; have M_Desk__hear_lost := M_Desk__hear_lost (P := P) (w := w) (base := base) T; have M_Desk__hear_opened := M_Desk__hear_opened (P := P) (w := w) (base := base) T; have M_Desk__hear_result := M_Desk__hear_result (P := P) (w := w) (base := base) T; have M_Desk_is_at_work := M_Desk_is_at_work (P := P) (w := w) (base := base) T
  refine ⟨_, (pss_cons (ps_if (PW.pt (pw_or (pt_not (pt_tru (K := K) (pe_methS0 M_Desk_is_at_work C_Desk hr at0 (pv 0)))) (pw_or (pt_cmpR (op_neU (K := K) hr.units) (pe_ix (ix_U (K := K)) (pv 1) pe_int (fun _ _ => rfl)) (pe_fldU (K := K) (pv 0)) (nomark _)) (pw_or1 (pt_cmpR (op_neU (K := K) hr.units) (pe_ix (ix_U (K := K)) (pv 1) pe_int (fun _ _ => rfl)) (pe_fldU (K := K) (pv 0)) (nomark _)))))) (pss_one (ps_ret pe_bl)) pss_nil) (pss_cons (ps_if (pt_cmpR (op_eqU (K := K) hr.units) (pe_ix (ix_U (K := K)) (pv 1) pe_int (fun _ _ => rfl)) pe_str (nomark _)) (pss_one (ps_ret (pe_methS1 M_Desk__hear_opened C_Desk hr at0 (pv 0) (pa_cons (pe_ix (ix_U (K := K)) (pv 1) pe_int (fun _ _ => rfl)) pa_nil)))) pss_nil) (pss_cons (ps_if (pt_cmpR (op_eqU (K := K) hr.units) (pe_ix (ix_U (K := K)) (pv 1) pe_int (fun _ _ => rfl)) pe_str (nomark _)) (pss_one (ps_ret (pe_methS1 M_Desk__hear_lost C_Desk hr at0 (pv 0) (pa_cons (pe_ix (ix_U (K := K)) (pv 1) pe_int (fun _ _ => rfl)) pa_nil)))) pss_nil) (pss_cons (ps_if (pt_cmpR (op_eqU (K := K) hr.units) (pe_ix (ix_U (K := K)) (pv 1) pe_int (fun _ _ => rfl)) pe_str (nomark _)) (pss_one (ps_ret (pe_methS1 M_Desk__hear_answer C_Desk hr at0 (pv 0) (pa_cons (pe_ix (ix_U (K := K)) (pv 1) pe_int (fun _ _ => rfl)) (pa_cons (pe_ix (ix_U (K := K)) (pv 1) pe_int (fun _ _ => rfl)) (pa_cons (pe_ix (ix_U (K := K)) (pv 1) pe_int (fun _ _ => rfl)) pa_nil)))))) pss_nil) (pss_one (ps_ret (pe_methS1 M_Desk__hear_result C_Desk hr at0 (pv 0) (pa_cons (pe_ix (ix_U (K := K)) (pv 1) pe_int (fun _ _ => rfl)) (pa_cons (pe_ix (ix_U (K := K)) (pv 1) pe_int (fun _ _ => rfl)) pa_nil))))))))), ?_⟩
  obtain ⟨dx, g, j, h1, h2, h3⟩ := D.ins
  have no : heardS s L = (false, s) → Q (.bl false) H := fun e => by
    rw [e] at q
    exact q H Kp.refl D
  have q : ∀ b s' H', heardS s L = (b, s') → Kp [t, l] H H' → DeskAt K H' t l s' → Q (.bl b) H' := fun b s' H' e k d => by
    rw [e] at q
    exact q H' k d
  walk_at "st"
  refine ⟨t, l, s, rfl, D, ?_⟩
  cases ha : s.ag with
  | none =>
    walk_at "dc"
    exact no (by unfold heardS; rw [ha])
  | some rs =>
    rw [ha] at h2
    have hs : (decide (L.num = s.num) && decide (L.ser = s.ser)) = true → heardS s L = heardA rs s L := fun e => by
      unfold heardS
      rw [ha]
      simp only [e, if_true]
    have hno : (decide (L.num = s.num) && decide (L.ser = s.ser)) = false → heardS s L = (false, s) := fun e => by
      unfold heardS
      rw [ha]
      simp only [e, Bool.false_eq_true, if_false]
    cases L with
    | opened nu se e =>
      have hL : SqT K H a [.str "opened", .int nu, .int se, .int e] := hL
      walk_at "dc"
      first | (refine c_ixT hL rfl ?_; walk_at "dc") | skip
      refine c_iteN (fun g1 => ?_) (fun g1 => ?_)
      · walk_at "st"
        exact no (hno (by show (decide (nu = s.num) && _) = false; rw [decide_eq_false g1]; rfl))
      walk_at "dc"
      first | (refine c_ixT hL rfl ?_; walk_at "dc") | skip
      refine c_iteN (fun g2 => ?_) (fun g2 => ?_)
      · walk_at "st"
        exact no (hno (by show (_ && decide (se = s.ser)) = false; rw [decide_eq_false g2, Bool.and_false]))
      have hs := hs (by show (decide (nu = s.num) && decide (se = s.ser)) = true; rw [decide_eq_true g1, decide_eq_true g2]; rfl)
      walk_at "dc"
      first | (refine c_ixT hL rfl ?_; walk_at "dc") | skip
      first | (refine c_ixT hL rfl ?_; walk_at "dc") | skip
      refine ⟨t, l, s, e, rfl, D, fun hz => ?_, fun hz H1 k1 D1 => ?_⟩
      · walk_at "st"
        exact q false s H (by rw [hs]; simp only [heardA, hz, if_true]) Kp.refl D
      · walk_at "st"
        exact q true _ H1 (by rw [hs]; simp only [heardA, hz, Bool.false_eq_true, if_false]) (Kp.more k1) D1
    | lost nu se e =>
      have hL : SqT K H a [.str "lost", .int nu, .int se, .int e] := hL
      walk_at "dc"
      first | (refine c_ixT hL rfl ?_; walk_at "dc") | skip
      refine c_iteN (fun g1 => ?_) (fun g1 => ?_)
      · walk_at "st"
        exact no (hno (by show (decide (nu = s.num) && _) = false; rw [decide_eq_false g1]; rfl))
      walk_at "dc"
      first | (refine c_ixT hL rfl ?_; walk_at "dc") | skip
      refine c_iteN (fun g2 => ?_) (fun g2 => ?_)
      · walk_at "st"
        exact no (hno (by show (_ && decide (se = s.ser)) = false; rw [decide_eq_false g2, Bool.and_false]))
      have hs := hs (by show (decide (nu = s.num) && decide (se = s.ser)) = true; rw [decide_eq_true g1, decide_eq_true g2]; rfl)
      walk_at "dc"
      first | (refine c_ixT hL rfl ?_; walk_at "dc") | skip
      first | (refine c_ixT hL rfl ?_; walk_at "dc") | skip
      first | (refine c_ixT hL rfl ?_; walk_at "dc") | skip
      refine ⟨t, l, s, e, rfl, D, fun hz => ?_, fun hz H1 k1 D1 => ?_⟩
      · walk_at "st"
        exact q false s H (by rw [hs]; simp only [heardA, if_neg hz]) Kp.refl D
      · walk_at "st"
        exact q true _ H1 (by rw [hs]; simp only [heardA, if_pos hz]) (Kp.more k1) D1
    | answer nu se at_ po ans =>
      obtain ⟨u, hL, hu⟩ := hL
      walk_at "dc"
      first | (refine c_ixT hL rfl ?_; walk_at "dc") | skip
      refine c_iteN (fun g1 => ?_) (fun g1 => ?_)
      · walk_at "st"
        exact no (hno (by show (decide (nu = s.num) && _) = false; rw [decide_eq_false g1]; rfl))
      walk_at "dc"
      first | (refine c_ixT hL rfl ?_; walk_at "dc") | skip
      refine c_iteN (fun g2 => ?_) (fun g2 => ?_)
      · walk_at "st"
        exact no (hno (by show (_ && decide (se = s.ser)) = false; rw [decide_eq_false g2, Bool.and_false]))
      have hs := hs (by show (decide (nu = s.num) && decide (se = s.ser)) = true; rw [decide_eq_true g1, decide_eq_true g2]; rfl)
      walk_at "dc"
      first | (refine c_ixT hL rfl ?_; walk_at "dc") | skip
      first | (refine c_ixT hL rfl ?_; walk_at "dc") | skip
      first | (refine c_ixT hL rfl ?_; walk_at "dc") | skip
      first | (refine c_ixT hL rfl ?_; walk_at "dc") | skip
      first | (refine c_ixT hL rfl ?_; walk_at "dc") | skip
      first | (refine c_ixT hL rfl ?_; walk_at "dc") | skip
      refine ⟨t, l, s, n, m, rs, at_, po, u, ans, rfl, D, O, ha, hu, okL, fun b s' H1 e k1 D1 => ?_⟩
      walk_at "st"
      exact q b s' H1 (by rw [hs]; exact e) (Kp.more k1) D1
    | result nu se at_ r =>
      obtain ⟨p, hL, hp⟩ := hL
      walk_at "dc"
      first | (refine c_ixT hL rfl ?_; walk_at "dc") | skip
      refine c_iteN (fun g1 => ?_) (fun g1 => ?_)
      · walk_at "st"
        exact no (hno (by show (decide (nu = s.num) && _) = false; rw [decide_eq_false g1]; rfl))
      walk_at "dc"
      first | (refine c_ixT hL rfl ?_; walk_at "dc") | skip
      refine c_iteN (fun g2 => ?_) (fun g2 => ?_)
      · walk_at "st"
        exact no (hno (by show (_ && decide (se = s.ser)) = false; rw [decide_eq_false g2, Bool.and_false]))
      have hs := hs (by show (decide (nu = s.num) && decide (se = s.ser)) = true; rw [decide_eq_true g1, decide_eq_true g2]; rfl)
      walk_at "dc"
      first | (refine c_ixT hL rfl ?_; walk_at "dc") | skip
      first | (refine c_ixT hL rfl ?_; walk_at "dc") | skip
      first | (refine c_ixT hL rfl ?_; walk_at "dc") | skip
      first | (refine c_ixT hL rfl ?_; walk_at "dc") | skip
      first | (refine c_ixT hL rfl ?_; walk_at "dc") | skip
      refine ⟨t, l, p, s, n, m, rs, at_, r, rfl, D, O, hn, ha, hp, fun b s' H1 e k1 D1 => ?_⟩
      walk_at "st"
      exact q b s' H1 (by rw [hs]; exact e) k1 D1
theorem M_Desk_hear (T : TX K mg) : MethAt P w K mg base CX0 "Desk" "hear" 5 ["self", "letter"] (spDkHear K) :=
  meth_of T 54 82 sc_Desk_hear bn_Desk_hear (by walk_at "len") (b_Desk_hear T)
def spDkStart (K : PySem.W.Frag) : Sp := fun vs H Q E => ∃ (t l g : Addr) (s : Dk) (nm : Str) (rs : List RowZ) (ag : List Row), vs = [.ref t, .str nm, .ref g] ∧ DeskAt K H t l s ∧ nm.length ≤ 1000 ∧ Dt K H (.ref g) (agZ rs) ∧ rs.length ≤ 60 ∧ (∀ r ∈ rs, RowSane "act" stopW r) ∧ (agentF (fun _ => true) rs = true → rs = ag.map Row.z) ∧
  (s.ag.isSome = true → ∀ H', Kp [] H H' → E (.ref (He.ga K "AtWork")) none H') ∧ (s.ag.isSome = false → isNameS nm = false → RaisesE K H E "name") ∧ (s.ag.isSome = false → isNameS nm = true → agentF (fun _ => true) rs = false → RaisesE K H E "agent") ∧
  (s.ag.isSome = false → isNameS nm = true → agentF (fun _ => true) rs = true → ∀ H', Kp [t] H H' → DeskAt K H' t l (beginS { s with nm := nm, ag := some ag }) → Q (.int (s.ser + 1)) H')
theorem sc_Desk_start : FnScope ["self", "name", "agent"] ["self", "name", "agent"] (defScope s_Desk_start) := ⟨rfl, rfl, rfl, by decide +kernel, rfl, by decide +kernel, by decide +kernel⟩
theorem bn_Desk_start : BindM "start" "Desk.start" s_Desk_start ["self", "name", "agent"] := fun _ _ _ _ _ _ us hl => match us, hl with | [_, _, _], _ => rfl
theorem b_Desk_start (T : TX K mg) : BodyMX P w K mg base "Desk" "start" "Desk.start" s_Desk_start ["self", "name", "agent"] 8 (spDkStart K) := by
  intro cdv A outer s H vs Q E h X hr tk
  obtain ⟨t, l, g0, s, nm, rs, ag0, rfl, D, hnm, hg0, rl, rsane, hag, q1, q2, q3, q4⟩ := h
  have C_Desk := C_Desk T; have D_check_agent := D_check_agent (P := P) (w := w) (base := base) T; have D_is_name := D_is_name (P := P) (w := w) (base := base) T; have E_OutOfRange := E_OutOfRange (P := P) (w := w) (base := base) T; have M_Desk__begin := M_Desk__begin (P := P) (w := w) (base := base) T; have M_Desk_is_at_work := M_Desk_is_at_work (P := P) (w := w) (base := base) T
  refine ⟨_, (pss_cons (ps_if (pt_tru (K := K) (pe_methS0 M_Desk_is_at_work C_Desk hr at0 (pv 0))) (pss_one (ps_raiseO (K := K) (T.exo 69 78) tk)) pss_nil) (pss_cons (ps_if (pt_not (pt_tru (K := K) (pe_callA D_is_name hr pass0 (pa_cons (pv 1) pa_nil)))) (pss_one (ps_raiseE (K := K) E_OutOfRange hr tk (pa_cons pe_str pa_nil))) pss_nil) (pss_cons (ps_expr (pe_callX D_check_agent hr tk (pa_cons (pv 2) pa_nil))) (pss_cons (ps_fldU (K := K) (pv 0) (pv 1)) (pss_cons (ps_fldU (K := K) (pv 0) (pv 2)) (pss_cons (ps_expr (pe_methS0 M_Desk__begin C_Desk hr at0 (pv 0))) (pss_one (ps_ret (pe_fldU (K := K) (pv 0)))))))))), ?_⟩
  obtain ⟨dx, g, j, h1, h2, h3⟩ := D.ins
  walk_at "st"
  refine ⟨t, l, s, rfl, D, ?_⟩
  cases ha : s.ag with
  | some ag =>
    walk_at "dc"
    first | exact c_raiseO (q1 (by rw [ha]; rfl) H Kp.refl) | exact q1 (by rw [ha]; rfl) H Kp.refl
  | none =>
    have hz : s.ag.isSome = false := by rw [ha]; rfl
    walk_at "dc"
    refine ⟨nm, rfl, by omega, fun H1 e1 => ?_⟩
    walk_at "st"
    refine c_iteNB (fun gn => ?_) (fun gn => ?_)
    · walk_at "st"
      exact c_err fun d H2 N => q2 hz gn d H2 (e1.trans N.kp) N.at_
    walk_at "st"
    refine ⟨g0, rs, rfl, Dt.kp hg0 e1, rl, rsane, fun good H2 e2 => ?_, fun bad => (q3 hz gn bad).kp e1⟩
    have q4 := q4 hz gn good
    have k2 := e1.trans e2
    have h1' := k2.at0 h1
    walk_at "st"
    simp only [upd_upd]
    rw [hag good, ag_z] at hg0
    refine ⟨t, l, { s with nm := nm, ag := some ag0 }, rfl, desk_set (s := { s with nm := nm, ag := some ag0 }) h1' (Dt.kp hg0 k2) (Dt.kp h3 k2) (D.don.kp k2 k2.kt (by simp)), fun H3 k3 D3 => ?_⟩
    obtain ⟨dx3, g3, j3, h31, _⟩ := D3.ins
    walk_at "st"
    exact q4 H3 ((k2.mono.trans (Kp.mut (by simp))).trans k3) D3
theorem M_Desk_start (T : TX K mg) : MethAt P w K mg base (L2.CX P w) "Desk" "start" 9 ["self", "name", "agent"] (spDkStart K) :=
  meth_ofX T 51 79 sc_Desk_start bn_Desk_start (by walk_at "len") (b_Desk_start T)
end
end K61



namespace K61
open PySem L2 Sa
local macro_rules | `(tactic| walk_at "s1") => `(tactic| first | (with_reducible apply c_dgetK))
local macro_rules | `(tactic| walk_at "s1") => `(tactic| (with_reducible apply c_raiseO))
local macro_rules | `(tactic| walk_at "s1") => `(tactic| first | (with_reducible apply c_un) | (with_reducible apply c_negI))
local macro_rules | `(tactic| walk_at "s1") => `(tactic| first | ((with_reducible apply dm_g1); (· walk_at "lk")) | ((with_reducible apply dm_p1); (· walk_at "lk")) | ((with_reducible apply dm_g2); (· walk_at "lk")) | ((with_reducible apply dm_p2); (· walk_at "lk")) | ((with_reducible apply dm_g3); (· walk_at "lk")) | ((with_reducible apply dm_p3); (· walk_at "lk")) | ((with_reducible apply dm_g4); (· walk_at "lk")) | ((with_reducible apply dm_p4); (· walk_at "lk")) | ((with_reducible apply dm_g5); (· walk_at "lk")) | ((with_reducible apply dm_p5); (· walk_at "lk")) | ((with_reducible apply dm_g6); (· walk_at "lk")) | ((with_reducible apply dm_p6); (· walk_at "lk")) | ((with_reducible apply dm_g7); (· walk_at "lk")) | ((with_reducible apply dm_p7); (· walk_at "lk")) | ((with_reducible apply dm_g8); (· walk_at "lk")) | ((with_reducible apply dm_p8); (· walk_at "lk")) | ((with_reducible apply dm_g9); (· walk_at "lk")) | ((with_reducible apply dm_p9); (· walk_at "lk")))
set_option pp.maxSteps 1500
section
variable {P : Program} {w : World} {K : PySem.W.Frag} {mg : Str → Option Value} {base : Heap}
def spLWanted (K : PySem.W.Frag) : Sp := fun vs H Q _ => ∃ (t l : Addr) (s : Dk) (n m : Nat), vs = [.ref t] ∧ MapAt K H t l s ∧ OkD n m s ∧ ∀ v H', Kp [] H H' → Dt K H' v (wantedD s) → Q v H'
theorem sc__law_wanted : FnScope ["_law_desk", "_law_row", "_law_where"] ["_law_desk"] (defScope s__law_wanted) := ⟨rfl, rfl, rfl, by decide +kernel, rfl, by decide +kernel, by decide +kernel⟩
theorem bn__law_wanted : BindN "_law_wanted" s__law_wanted ["_law_desk"] := fun _ _ _ _ _ _ us hl => match us, hl with | [_], _ => rfl
theorem b__law_wanted (T : TX K mg) : Body P w K mg base "_law_wanted" s__law_wanted ["_law_desk", "_law_row", "_law_where"] 1 (spLWanted K) := by
  intro cdv A outer s H vs Q E h X hr
  obtain ⟨t, l, s, n, m, rfl, D, O, q⟩ := h
  refine ⟨_, (pss_cons (ps_if (pt_cmpR op_isU (pe_dget (hu_of hr) (pv 0) pe_str (fun _ _ => rfl)) pe_non (nomark _)) (pss_one (ps_ret pe_non)) pss_nil) (pss_cons (ps_if (pt_cmpR op_isU (pe_dget (hu_of hr) (pv 0) pe_str (fun _ _ => rfl)) pe_non (nomark _)) (pss_one (ps_ret (pe_tup (pa_cons pe_str (pa_cons (pe_dget (hu_of hr) (pv 0) pe_str (fun _ _ => rfl)) (pa_cons (pe_dget (hu_of hr) (pv 0) pe_str (fun _ _ => rfl)) (pa_cons (pe_dget (hu_of hr) (pv 0) pe_str (fun _ _ => rfl)) pa_nil))))))) pss_nil) (pss_cons (ps_set (i := 1) sc__law_wanted.nd rfl (Or.inl rfl) (pe_ix (ix_U (K := K)) (pe_dget (hu_of hr) (pv 0) pe_str (fun _ _ => rfl)) (pe_dget (hu_of hr) (pv 0) pe_str (fun _ _ => rfl)) (fun _ _ => rfl))) (pss_cons (ps_set (i := 2) sc__law_wanted.nd rfl (Or.inl rfl) (pe_tup (pa_cons (pe_dget (hu_of hr) (pv 0) pe_str (fun _ _ => rfl)) (pa_cons (pe_dget (hu_of hr) (pv 0) pe_str (fun _ _ => rfl)) (pa_cons (pe_dget (hu_of hr) (pv 0) pe_str (fun _ _ => rfl)) (pa_cons (pe_dget (hu_of hr) (pv 0) pe_str (fun _ _ => rfl)) (pa_cons (pe_callB (cr_len (K := K)) rfl (T.free 2) PySem.boot_len (pa_cons (pe_dget (hu_of hr) (pv 0) pe_str (fun _ _ => rfl)) pa_nil)) pa_nil))))))) (pss_cons (ps_if (pt_cmpR (op_eqU (K := K) hr.units) (pe_ix (ix_U (K := K)) (pv 1) pe_int (fun _ _ => rfl)) pe_str (nomark _)) (pss_one (ps_ret (pe_op (op_addU (K := K)) (pe_tup (pa_cons pe_str pa_nil)) (pv 2)))) pss_nil) (pss_one (ps_ret (pe_op (op_addU (K := K)) (pe_op (op_addU (K := K)) (pe_tup (pa_cons pe_str pa_nil)) (pv 2)) (pe_tup (pa_cons (pe_ix (ix_U (K := K)) (pv 1) pe_int (fun _ _ => rfl)) pa_nil)))))))))), ?_⟩
  obtain ⟨g, j, h1, h2, h3⟩ := D.dct
  obtain ⟨j', ys, e1, hys, hjs⟩ := dt_tup h3
  injection e1 with e1
  subst e1
  have hyl : ys.length = s.jr.length := by rw [dta_len hjs, List.length_map]
  walk_at "st"
  cases ha : s.ag with
  | none =>
    rw [ha] at h2
    obtain rfl : g = .non := h2
    walk_at "dc"
    exact q .non H Kp.refl (by unfold wantedD; rw [ha]; exact .non)
  | some rs =>
    rw [ha] at h2
    have A := O.ag rs ha
    obtain ⟨ga, vs, rfl, hvs, hds, hvl⟩ := rows_at h2
    cases he : s.ep with
    | none =>
      rw [he] at h1
      walk_at "dc"
      walk_at "nw"
      intro p H1 N1
      exact q _ H1 N1.kp (by unfold wantedD; rw [ha]; simp only [he]; exact .tup (SqT.of N1.at_) (.cons (.str _) (.cons (.int _) (.cons (.int _) (.cons (.str _) .nil)))))
    | some e =>
      rw [he] at h1
      obtain ⟨r, hr⟩ : ∃ r, rs[s.row]? = some r := ⟨_, List.getElem?_eq_getElem A.in_⟩
      obtain ⟨u, hu1, hu2⟩ := row_at hds hr
      walk_at "dc"
      refine c_ixT hvs (atI_nat hu1) ?_
      walk_at "st"
      first | (refine c_lenT hys ?_; walk_at "st") | skip
      rw [hyl]
      walk_at "nw"
      intro p H1 N1
      have hp := SqT.of N1.at_ (K := K)
      have hu3 := Dt.kp hu2 N1.kp
      walk_at "st"
      cases r with
      | fin w1 =>
        have hw := A.rows.fin _ _ hr
        have hw1 : w1 = "stop" := by simpa using hw
        subst hw1
        obtain ⟨pr, rfl, hpr⟩ := row_fin hu3
        first | (refine c_ixT hpr rfl ?_; walk_at "dc") | walk_at "dc"
        walk_at "nw"
        intro p2 H2 N2
        walk_at "st"
        refine c_addT (SqT.of N2.at_) (SqT.kp N2.kp hp) (by rw [sizeLine_eq]; simp only [List.length_cons, List.length_nil]; omega) fun p3 H3 e3 hp3 => ?_
        refine q _ H3 ((N1.kp.trans N2.kp).trans e3) ?_
        unfold wantedD
        rw [ha]
        simp only [he, hr]
        exact .tup hp3 (.cons (.str _) (.cons (.int _) (.cons (.int _) (.cons (.int _) (.cons (.int _) (.cons (.int _) .nil))))))
      | act w1 x cs o =>
        obtain ⟨rfl, rok⟩ := A.rows.row _ _ _ _ _ hr
        obtain ⟨pr, ax, ac, rfl, hpr, hax, hac⟩ := row_act hu3
        first | (refine c_ixT hpr rfl ?_; walk_at "dc") | walk_at "dc"
        walk_at "nw"
        intro p2 H2 N2
        walk_at "st"
        refine c_addT (SqT.of N2.at_) (SqT.kp N2.kp hp) (by rw [sizeLine_eq]; simp only [List.length_cons, List.length_nil]; omega) fun p3 H3 e3 hp3 => ?_
        have k13 := N2.kp.trans e3
        have hpr3 := SqT.kp k13 hpr
        walk_at "st"
        first | (refine c_ixT hpr3 rfl ?_; walk_at "st") | skip
        walk_at "nw"
        intro p4 H4 N4
        walk_at "st"
        refine c_addT (SqT.kp N4.kp hp3) (SqT.of N4.at_) (by rw [sizeLine_eq]; simp only [List.length_cons, List.length_nil, List.length_append]; omega) fun p5 H5 e5 hp5 => ?_
        have k15 := (k13.trans N4.kp).trans e5
        refine q _ H5 (N1.kp.trans k15) ?_
        unfold wantedD
        rw [ha]
        simp only [he, hr]
        exact .tup hp5 (.cons (.str _) (.cons (.int _) (.cons (.int _) (.cons (.int _) (.cons (.int _) (.cons (.int _) (.cons (actOk hax k15.kt) .nil)))))))
theorem D__law_wanted (T : TX K mg) : DefAt P w K mg base CX0 "_law_wanted" 2 ["_law_desk"] (spLWanted K) :=
  def_of T 39 61 sc__law_wanted bn__law_wanted (by walk_at "len") (b__law_wanted T)
def spLBegin (K : PySem.W.Frag) : Sp := fun vs H Q _ => ∃ (t l : Addr) (s : Dk), vs = [.ref t] ∧ MapAt K H t l s ∧ ∀ H', Kp [t] H H' → MapAt K H' t l (beginS s) → Q .non H'
theorem MapAt.ne {H : Hp} {t l : Addr} {s : Dk} (h : MapAt K H t l s) : l ≠ t := fun e => by
  obtain ⟨g, j, h1, _⟩ := h.dct
  obtain ⟨ws, h2, _⟩ := h.don.ex
  rw [e, h1] at h2
  cases h2
theorem sc__law_begin : FnScope ["_law_desk"] ["_law_desk"] (defScope s__law_begin) := ⟨rfl, rfl, rfl, by decide +kernel, rfl, by decide +kernel, by decide +kernel⟩
theorem bn__law_begin : BindN "_law_begin" s__law_begin ["_law_desk"] := fun _ _ _ _ _ _ us hl => match us, hl with | [_], _ => rfl
theorem b__law_begin (T : TX K mg) : Body P w K mg base "_law_begin" s__law_begin ["_law_desk"] 1 (spLBegin K) := by
  intro cdv A outer s H vs Q E h X hr
  obtain ⟨t, l, s, rfl, D, q⟩ := h
  refine ⟨_, (pss_cons (ps_dput (hu_of hr) (pv 0) pe_str (pe_op (op_addU (K := K)) (pe_dget (hu_of hr) (pv 0) pe_str (fun _ _ => rfl)) pe_int) rfl) (pss_cons (ps_dput (hu_of hr) (pv 0) pe_str pe_non rfl) (pss_cons (ps_dput (hu_of hr) (pv 0) pe_str pe_int rfl) (pss_cons (ps_dput (hu_of hr) (pv 0) pe_str (pe_tup pa_nil) rfl) (pss_one (ps_dput (hu_of hr) (pv 0) pe_str pe_int rfl)))))), ?_⟩
  obtain ⟨g, j, h1, h2, h3⟩ := D.dct
  walk_at "st"
  simp only [upd_upd]
  walk_at "nw"
  intro j1 H1 N1
  have kt : ∀ {o : HO}, Kt H (upd H t o) := Kt.upd1 (NoT.dK h1)
  have h1' := N1.keep upd_same
  walk_at "st"
  simp only [upd_upd]
  have k1 : Kp [t] H H1 := (Kp.mut (by simp)).trans N1.kp
  have t1 : Kt H H1 := kt.trans N1.kp.kt
  refine q _ (k1.trans (Kp.mut (by simp))) (map_set (s := beginS s) h1' (h2.kt t1) (.tup (SqT.of N1.at_) .nil) (D.don.kp k1 t1 (by simpa using D.ne)))
theorem D__law_begin (T : TX K mg) : DefAt P w K mg base CX0 "_law_begin" 2 ["_law_desk"] (spLBegin K) :=
  def_of T 40 62 sc__law_begin bn__law_begin (by walk_at "len") (b__law_begin T)
def spLGone (K : PySem.W.Frag) : Sp := fun vs H Q _ => ∃ (t l j0 : Addr) (s : Dk) (rs : List Row) (js : List Entry) (b : Nat), vs = [.ref t, .ref j0] ∧ MapAt K H t l s ∧ s.ag = some rs ∧ RowsOk "act" stopW (fun _ => true) rs ∧ Dt K H (.ref j0) (jourD js) ∧ (∀ e ∈ js, EntOk e) ∧ js.length ≤ 100 ∧ afterF rs 0 js = some b ∧
  ∀ H', Kp [t] H H' → MapAt K H' t l (goneS s rs js) → Q .non H'
theorem sc__law_gone : FnScope ["_law_desk", "_law_journal", "_law_row", "_law_action_here", "_law_answer_here"] ["_law_desk", "_law_journal"] (defScope s__law_gone) := ⟨rfl, rfl, rfl, by decide +kernel, rfl, by decide +kernel, by decide +kernel⟩
theorem bn__law_gone : BindN "_law_gone" s__law_gone ["_law_desk", "_law_journal"] := fun _ _ _ _ _ _ us hl => match us, hl with | [_, _], _ => rfl
theorem b__law_gone (T : TX K mg) : Body P w K mg base "_law_gone" s__law_gone ["_law_desk", "_law_journal", "_law_row", "_law_action_here", "_law_answer_here"] 2 (spLGone K) := by
  intro cdv A outer s H vs Q E h X hr
  obtain ⟨t, l, j0, s, rs, js, b, rfl, D, ha, R, hj0, hb, jl, haf, q⟩ := h
  have D__law_step := D__law_step (P := P) (w := w) (base := base) T
  refine ⟨_, (pss_cons (ps_set (i := 2) sc__law_gone.nd rfl (Or.inl rfl) pe_int) (pss_cons (ps_for PassesOwn.never rfl (pi_tupU (K := K) (pv 1)) (pg_tupU (K := K) (n := 2) rfl (pgs_cons (pg_name (i := 3) sc__law_gone.nd rfl (Or.inl rfl)) (pgs_cons (pg_name (i := 4) sc__law_gone.nd rfl (Or.inl rfl)) pgs_nil))) (pss_one (ps_set (i := 2) sc__law_gone.nd rfl (Or.inl rfl) (pe_callA D__law_step hr pass0 (pa_cons (pe_ix (ix_U (K := K)) (pe_dget (hu_of hr) (pv 0) pe_str (fun _ _ => rfl)) (pv 2) (fun _ _ => rfl)) (pa_cons (pv 4) pa_nil)))))) (pss_cons (ps_dput (hu_of hr) (pv 0) pe_str (pv 1) rfl) (pss_one (ps_dput (hu_of hr) (pv 0) pe_str (pv 2) rfl))))), ?_⟩
  obtain ⟨g, j, h1, h2, h3⟩ := D.dct
  rw [ha] at h2
  obtain ⟨ga, vs, rfl, hvs, hds, hvl⟩ := rows_at h2
  obtain ⟨j', ys, e1, hys, hjs⟩ := dt_tup hj0
  injection e1 with e1
  subst e1
  have hyl : ys.length = js.length := by rw [dta_len hjs, List.length_map]
  have hys' : SqT K H j0 (ys.map id) := by rw [List.map_id]; exact hys
  walk_at "st"
  first | refine ⟨j0, rfl, ⟨_, hys'⟩, ?_⟩ | skip
  refine forQ (itn_t (ys := ys) (u := id)) (fun i σ H' => ∃ (at_ : Nat) (v3 v4 : Option V), σ = [some (.ref t), some (.ref j0), some (.int (at_ : Nat)), v3, v4] ∧ H' = H ∧ afterF rs at_ (js.drop i) = some b) ⟨0, _, _, rfl, rfl, by rw [List.drop_zero]; exact haf⟩ (by rintro i σ H' ⟨_, _, _, _, e, _⟩; rw [e]; exact hys') ?_ ?_
  · rintro i y σ H1 H2 hi ⟨at_, v3, v4, rfl, rfl, hs⟩ ⟨rfl, z, hz, rfl⟩
    obtain ⟨e, he⟩ : ∃ e, js[i]? = some e := ⟨_, List.getElem?_eq_getElem (by omega)⟩
    obtain ⟨p, a, v, g1, g2, g3, g4⟩ := ent_at hjs he
    have eok := hb e (List.mem_of_getElem? he)
    rw [hz] at g1
    obtain rfl := Option.some.inj g1
    rw [after_step he] at hs
    split at hs
    · rename_i w1 x cs o hr
      split at hs
      · obtain ⟨u, hu1, hu2⟩ := row_at hds hr
        obtain ⟨rfl, rok⟩ := R.row _ _ _ _ _ hr
        obtain ⟨pr, ax, ac, rfl, hpr, hax, hac⟩ := row_act hu2
        walk_at "st"
        first | (refine c_unT g2 rfl ?_; walk_at "st") | skip
        refine c_ixT hvs (atI_nat hu1) ?_
        walk_at "st"
        refine ⟨pr, ax, ac, v, _, cs, o, e.2, rfl, hpr, hac, rok.ans, g4, eok.ans, ?_⟩
        walk_at "st"
        exact ⟨_, _, _, rfl, rfl, hs⟩
      · cases hs
    · cases hs
  · rintro σ H1 ⟨at_, v3, v4, rfl, rfl, hs⟩
    rw [List.drop_of_length_le (by omega)] at hs
    injection hs with hs
    subst hs
    walk_at "st"
    simp only [upd_upd]
    have hro : rowOf rs js = at_ := by unfold rowOf; rw [haf]; rfl
    exact q _ (Kp.mut (by simp)) (map_put (s := goneS s rs js) h1 (g := .ref ga) (j := j0) (by simp only [goneS, ha]; exact h2) hj0 D.don (by simp only [goneS, hro]))
theorem D__law_gone (T : TX K mg) : DefAt P w K mg base CX0 "_law_gone" 3 ["_law_desk", "_law_journal"] (spLGone K) :=
  def_of T 41 63 sc__law_gone bn__law_gone (by walk_at "len") (b__law_gone T)
end
end K61



namespace K61
open PySem L2 Sa
local macro_rules | `(tactic| walk_at "s1") => `(tactic| first | (with_reducible apply c_dgetK))
local macro_rules | `(tactic| walk_at "s1") => `(tactic| (with_reducible apply c_raiseO))
local macro_rules | `(tactic| walk_at "s1") => `(tactic| first | (with_reducible apply c_un) | (with_reducible apply c_negI))
local macro_rules | `(tactic| walk_at "s1") => `(tactic| first | ((with_reducible apply dm_g1); (· walk_at "lk")) | ((with_reducible apply dm_p1); (· walk_at "lk")) | ((with_reducible apply dm_g2); (· walk_at "lk")) | ((with_reducible apply dm_p2); (· walk_at "lk")) | ((with_reducible apply dm_g3); (· walk_at "lk")) | ((with_reducible apply dm_p3); (· walk_at "lk")) | ((with_reducible apply dm_g4); (· walk_at "lk")) | ((with_reducible apply dm_p4); (· walk_at "lk")) | ((with_reducible apply dm_g5); (· walk_at "lk")) | ((with_reducible apply dm_p5); (· walk_at "lk")) | ((with_reducible apply dm_g6); (· walk_at "lk")) | ((with_reducible apply dm_p6); (· walk_at "lk")) | ((with_reducible apply dm_g7); (· walk_at "lk")) | ((with_reducible apply dm_p7); (· walk_at "lk")) | ((with_reducible apply dm_g8); (· walk_at "lk")) | ((with_reducible apply dm_p8); (· walk_at "lk")) | ((with_reducible apply dm_g9); (· walk_at "lk")) | ((with_reducible apply dm_p9); (· walk_at "lk")))
set_option pp.maxSteps 1500
section
variable {P : Program} {w : World} {K : PySem.W.Frag} {mg : Str → Option Value} {base : Heap}
def Moved (H : Hp) (l l' : Addr) : Prop := l' = l ∨ H l' = none
def spLResult (K : PySem.W.Frag) : Sp := fun vs H Q _ => ∃ (t l a : Addr) (s : Dk) (n m : Nat) (rs : List Row) (nu se att : Int) (x : Res), vs = [.ref t, .ref a] ∧ MapAt K H t l s ∧ OkD n m s ∧ n ≤ 1000 ∧ s.ag = some rs ∧ LetAt K H a (.result nu se att x) ∧
  ∀ b s' l' H', resS rs s att x = (b, s') → Kp [t] H H' → MapAt K H' t l' s' → Moved H l l' → Q (.bl b) H'
theorem sc__law_result : FnScope ["_law_desk", "_law_letter_here", "_law_result_here", "_law_version"] ["_law_desk", "_law_letter_here"] (defScope s__law_result) := ⟨rfl, rfl, rfl, by decide +kernel, rfl, by decide +kernel, by decide +kernel⟩
theorem bn__law_result : BindN "_law_result" s__law_result ["_law_desk", "_law_letter_here"] := fun _ _ _ _ _ _ us hl => match us, hl with | [_, _], _ => rfl
theorem b__law_result (T : TX K mg) : Body P w K mg base "_law_result" s__law_result ["_law_desk", "_law_letter_here", "_law_result_here", "_law_version"] 3 (spLResult K) := by
  intro cdv A outer s H vs Q E h X hr
  obtain ⟨t, l, a, s, n, m, rs, nu, se, att, x, rfl, D, O, hn, ha, hL, q⟩ := h
  have D__law_gone := D__law_gone (P := P) (w := w) (base := base) T
  refine ⟨_, (pss_cons (ps_set (i := 2) sc__law_result.nd rfl (Or.inl rfl) (pe_ix (ix_U (K := K)) (pv 1) pe_int (fun _ _ => rfl))) (pss_cons (ps_if (PW.pt (pw_or (pt_cmpR op_isU (pe_dget (hu_of hr) (pv 0) pe_str (fun _ _ => rfl)) pe_non (nomark _)) (pw_or1 (PW.pt (pw_and (pt_cmpR (op_neU (K := K) hr.units) (pe_ix (ix_U (K := K)) (pv 1) pe_int (fun _ _ => rfl)) (pe_dget (hu_of hr) (pv 0) pe_str (fun _ _ => rfl)) (nomark _)) (pw_and1 (pt_cmpR (op_neU (K := K) hr.units) (pe_ix (ix_U (K := K)) (pv 2) pe_int (fun _ _ => rfl)) pe_str (nomark _)))))))) (pss_one (ps_ret pe_bl)) pss_nil) (pss_cons (ps_if (pt_cmpR (op_inU (K := K)) (pe_ix (ix_U (K := K)) (pv 2) pe_int (fun _ _ => rfl)) (pe_tup (pa_cons pe_str (pa_cons pe_str pa_nil))) rfl) (pss_cons (ps_set (i := 3) sc__law_result.nd rfl (Or.inl rfl) pe_non) (pss_cons (ps_if (pt_cmpR (op_eqU (K := K) hr.units) (pe_ix (ix_U (K := K)) (pv 2) pe_int (fun _ _ => rfl)) pe_str (nomark _)) (pss_one (ps_set (i := 3) sc__law_result.nd rfl (Or.inl rfl) (pe_ix (ix_U (K := K)) (pv 2) pe_int (fun _ _ => rfl)))) pss_nil) (pss_cons (ps_dput (hu_of hr) (pv 0) pe_str (pe_op (op_addU (K := K)) (pe_dget (hu_of hr) (pv 0) pe_str (fun _ _ => rfl)) (pe_lst (pa_cons (pe_tup (pa_cons (pe_dget (hu_of hr) (pv 0) pe_str (fun _ _ => rfl)) (pa_cons (pe_dget (hu_of hr) (pv 0) pe_str (fun _ _ => rfl)) (pa_cons (pv 3) (pa_cons (pe_dget (hu_of hr) (pv 0) pe_str (fun _ _ => rfl)) pa_nil))))) pa_nil))) rfl) (pss_cons (ps_dput (hu_of hr) (pv 0) pe_str pe_non rfl) (pss_one (ps_ret pe_bl)))))) pss_nil) (pss_cons (ps_dput (hu_of hr) (pv 0) pe_str (pe_op (op_addU (K := K)) (pe_dget (hu_of hr) (pv 0) pe_str (fun _ _ => rfl)) pe_int) rfl) (pss_cons (ps_if (pt_cmpR (op_eqU (K := K) hr.units) (pe_ix (ix_U (K := K)) (pv 2) pe_int (fun _ _ => rfl)) pe_str (nomark _)) (pss_one (ps_expr (pe_callA D__law_gone hr pass0 (pa_cons (pv 0) (pa_cons (pe_slice (sl_U (K := K)) (pe_dget (hu_of hr) (pv 0) pe_str (fun _ _ => rfl)) po_none (po_some (pe_ix (ix_U (K := K)) (pv 2) pe_int (fun _ _ => rfl)))) pa_nil))))) pss_nil) (pss_one (ps_ret pe_bl))))))), ?_⟩
  obtain ⟨r, hL, hx⟩ := hL
  obtain ⟨g, j, h1, h2, h3⟩ := D.dct
  rw [ha] at h2
  have A := O.ag rs ha
  have dl := pot_done O
  obtain ⟨ws, h4, h5⟩ := D.don.ex
  have wl : ws.length = s.done.length := by rw [dta_len h5, List.length_map]
  obtain ⟨j', ys, e1, hys, hjs⟩ := dt_tup h3
  injection e1 with e1
  subst e1
  have no : (s.ep.isNone || (!decide (att = s.att) && !isAcc x)) = true → Q (.bl false) H := fun hc => by
    refine q false s l H ?_ Kp.refl D (.inl rfl)
    unfold resS
    rw [hc, if_pos rfl]
  walk_at "st"
  first | (refine c_ixT hL rfl ?_; walk_at "st") | skip
  cases he : s.ep with
  | none =>
    rw [he] at h1
    walk_at "dc"
    exact no (by rw [he]; rfl)
  | some e =>
    rw [he] at h1
    have fin : ∀ {H4 : Hp} {p2 p4 : Addr} (v : Option Int), resS rs s att x = (true, finishS s v) → Kp [] H H4 → SqT K H4 p2 [.str s.nm, .int s.ser, optV v, .ref j] → H4 p4 = some (.lst (ws ++ [.ref p2])) → H p4 = none →
        Q (.bl true) (upd H4 t (.dK (dmD (.int s.num) (.int s.ser) (.str s.nm) .non (optV (some e)) (.int s.att) (.ref j) (.int (s.row : Nat)) (.ref p4)))) := by
      intro H4 p2 p4 v hr k hp h4' fr
      have hv : Dt K H4 (optV v) (optE v) := by cases v with
        | none => exact .non
        | some i => exact .int i
      have := map_put (K := K) (fs' := dmD (.int s.num) (.int s.ser) (.str s.nm) .non (optV (some e)) (.int s.att) (.ref j) (.int (s.row : Nat)) (.ref p4)) (s := finishS s v) (k.at0 h1) (g := .non) (j := j) (l := p4) rfl (Dt.kp h3 k) ⟨_, h4', by simp only [finishS, List.map_append]; exact dta_snoc (DtAll.kp h5 k) (.tup hp (.cons (.str _) (.cons (.int _) (.cons hv (.cons (Dt.kp h3 k) .nil)))))⟩ (by simp only [finishS, he])
      exact q true _ p4 _ hr (k.mono.trans (Kp.mut (by simp))) this (.inr fr)
    cases x with
    | accepted v =>
      have hx : SqT K H r [.str "accepted", .int v] := hx
      have hr : resS rs s att (.accepted v) = (true, finishS s (some v)) := by unfold resS; rw [he]; simp [isAcc]
      walk_at "dc"
      first | (refine c_ixT hL rfl ?_; walk_at "dc") | skip
      refine c_iteN (fun g1 => ?_) (fun g1 => ?_)
      all_goals
        walk_at "dc"
        first | (refine c_ixT hx rfl ?_; walk_at "dc") | skip
        first | (refine c_ixT hx rfl ?_; walk_at "dc") | skip
        walk_at "nw"
        intro p1 H1 N1
        refine c_inSs (ys := ["accepted", "failed"]) (.inr (SqT.of N1.at_)) ?_
        walk_at "dc"
        have hx1 := SqT.kp N1.kp hx
        first | (refine c_ixT hx1 rfl ?_; walk_at "dc") | skip
        first | (refine c_ixT hx1 rfl ?_; walk_at "dc") | skip
        walk_at "nw"
        intro p2 H2 N2
        walk_at "st"
        walk_at "nw"
        intro p3 H3 N3
        have k3 : Kp [] H H3 := (N1.kp.trans N2.kp).trans N3.kp
        refine c_addL (k3.at0 h4) N3.at_ (by rw [sizeLine_eq]; simp only [List.length_cons, List.length_nil]; omega) fun p4 H4 N4 => ?_
        have k4 : Kp [] H H4 := k3.trans N4.kp
        have h1' := k4.at0 h1
        walk_at "st"
        simp only [upd_upd]
        exact fin (some v) hr k4 (SqT.kp (N3.kp.trans N4.kp) (SqT.of N2.at_)) N4.at_ (free0 k3 N4.fr)
    | failed ns =>
      obtain ⟨u, hx, _⟩ := hx
      walk_at "dc"
      first | (refine c_ixT hL rfl ?_; walk_at "dc") | skip
      refine c_iteN (fun g1 => ?_) (fun g1 => ?_)
      · walk_at "dc"
        first | (refine c_ixT hx rfl ?_; walk_at "dc") | skip
        exact no (by rw [decide_eq_false g1]; simp [isAcc])
      have hr : resS rs s att (.failed ns) = (true, finishS s none) := by unfold resS; rw [he, decide_eq_true g1]; rfl
      walk_at "dc"
      first | (refine c_ixT hx rfl ?_; walk_at "dc") | skip
      first | (refine c_ixT hx rfl ?_; walk_at "dc") | skip
      walk_at "nw"
      intro p1 H1 N1
      refine c_inSs (ys := ["accepted", "failed"]) (.inr (SqT.of N1.at_)) ?_
      walk_at "dc"
      have hx1 := SqT.kp N1.kp hx
      first | (refine c_ixT hx1 rfl ?_; walk_at "dc") | skip
      first | (refine c_ixT hx1 rfl ?_; walk_at "dc") | skip
      walk_at "nw"
      intro p2 H2 N2
      walk_at "st"
      walk_at "nw"
      intro p3 H3 N3
      have k3 : Kp [] H H3 := (N1.kp.trans N2.kp).trans N3.kp
      refine c_addL (k3.at0 h4) N3.at_ (by rw [sizeLine_eq]; simp only [List.length_cons, List.length_nil]; omega) fun p4 H4 N4 => ?_
      have k4 : Kp [] H H4 := k3.trans N4.kp
      have h1' := k4.at0 h1
      walk_at "st"
      simp only [upd_upd]
      exact fin none hr k4 (SqT.kp (N3.kp.trans N4.kp) (SqT.of N2.at_)) N4.at_ (free0 k3 N4.fr)
    | waiting =>
      have hx : SqT K H r [.str "waiting"] := hx
      walk_at "dc"
      first | (refine c_ixT hL rfl ?_; walk_at "dc") | skip
      refine c_iteN (fun g1 => ?_) (fun g1 => ?_)
      · walk_at "dc"
        first | (refine c_ixT hx rfl ?_; walk_at "dc") | skip
        exact no (by rw [decide_eq_false g1]; simp [isAcc])
      walk_at "dc"
      first | (refine c_ixT hx rfl ?_; walk_at "dc") | skip
      first | (refine c_ixT hx rfl ?_; walk_at "dc") | skip
      walk_at "nw"
      intro p1 H1 N1
      refine c_inSs (ys := ["accepted", "failed"]) (.inr (SqT.of N1.at_)) ?_
      have h1' := N1.keep h1
      have hx1 := SqT.kp N1.kp hx
      walk_at "dc"
      have kt : Kt H1 (upd H1 t (.dK (dmD (.int s.num) (.int s.ser) (.str s.nm) g (optV (some e)) (.int (s.att + 1)) (.ref j) (.int (s.row : Nat)) (.ref l)))) := Kt.upd1 (NoT.dK h1')
      first | (refine c_ixT (SqT.kt kt hx1) rfl ?_; walk_at "dc") | skip
      exact q true { s with att := s.att + 1 } l _ (by unfold resS; rw [he, decide_eq_true g1]; rfl) (N1.kp.trans (Kp.mut (by simp))) (map_put (s := { s with att := s.att + 1 }) h1' (g := g) (j := j) (by simp only [ha]; exact Dt.kp h2 N1.kp) (Dt.kp h3 N1.kp) (D.don.kp (ms := []) N1.kp N1.kp.kt (by simp)) (by simp only [he])) (.inl rfl)
    | refused k ans since =>
      obtain ⟨u, hx, _⟩ := hx
      walk_at "dc"
      first | (refine c_ixT hL rfl ?_; walk_at "dc") | skip
      refine c_iteN (fun g1 => ?_) (fun g1 => ?_)
      · walk_at "dc"
        first | (refine c_ixT hx rfl ?_; walk_at "dc") | skip
        exact no (by rw [decide_eq_false g1]; simp [isAcc])
      walk_at "dc"
      first | (refine c_ixT hx rfl ?_; walk_at "dc") | skip
      first | (refine c_ixT hx rfl ?_; walk_at "dc") | skip
      walk_at "nw"
      intro p1 H1 N1
      refine c_inSs (ys := ["accepted", "failed"]) (.inr (SqT.of N1.at_)) ?_
      have h1' := N1.keep h1
      have hx1 := SqT.kp N1.kp hx
      walk_at "dc"
      have kt : Kt H1 (upd H1 t (.dK (dmD (.int s.num) (.int s.ser) (.str s.nm) g (optV (some e)) (.int (s.att + 1)) (.ref j) (.int (s.row : Nat)) (.ref l)))) := Kt.upd1 (NoT.dK h1')
      have hx2 := SqT.kt kt hx1
      have hys2 := SqT.kt kt (SqT.kp N1.kp hys)
      have hjs2 := DtAll.kt kt (DtAll.kp hjs N1.kp)
      have D2 := map_put (K := K) (fs' := dmD (.int s.num) (.int s.ser) (.str s.nm) g (optV (some e)) (.int (s.att + 1)) (.ref j) (.int (s.row : Nat)) (.ref l)) (s := { s with att := s.att + 1 }) h1' (g := g) (j := j) (by simp only [ha]; exact Dt.kp h2 N1.kp) (Dt.kp h3 N1.kp) (D.don.kp (ms := []) N1.kp N1.kp.kt (by simp)) (by simp only [he])
      have k2 : Kp [t] H (upd H1 t (.dK (dmD (.int s.num) (.int s.ser) (.str s.nm) g (optV (some e)) (.int (s.att + 1)) (.ref j) (.int (s.row : Nat)) (.ref l)))) := N1.kp.trans (Kp.mut (by simp))
      have hat : (upd H1 t (.dK (dmD (.int s.num) (.int s.ser) (.str s.nm) g (optV (some e)) (.int (s.att + 1)) (.ref j) (.int (s.row : Nat)) (.ref l)))) t = some (.dK (dmD (.int s.num) (.int s.ser) (.str s.nm) g (optV (some e)) (.int (s.att + 1)) (.ref j) (.int (s.row : Nat)) (.ref l))) := upd_same
      generalize upd H1 t (.dK (dmD (.int s.num) (.int s.ser) (.str s.nm) g (optV (some e)) (.int (s.att + 1)) (.ref j) (.int (s.row : Nat)) (.ref l))) = H2 at *
      first | (refine c_ixT hx2 rfl ?_; walk_at "dc") | skip
      first | (refine c_ixT hx2 rfl ?_; walk_at "dc") | skip
      refine c_slT hys2 fun p3 H3 e3 hp3 => ?_
      rw [cut_take] at hp3
      walk_at "st"
      refine ⟨t, l, p3, { s with att := s.att + 1 }, rs, s.jr.take k, _, rfl, D2.kp0 e3, ha, A.rows, .tup hp3 (by rw [List.map_take]; exact DtAll.kp (dta_take k hjs2) e3), fun en he' => O.jr.ent en (List.mem_of_mem_take he'), by rw [List.length_take]; have := O.jr.len; omega, A.row_take k, fun H4 k4 D4 => ?_⟩
      walk_at "st"
      exact q true _ l H4 (by unfold resS; rw [he, decide_eq_true g1]; rfl) ((k2.trans e3.mono).trans k4) D4 (.inl rfl)
theorem D__law_result (T : TX K mg) : DefAt P w K mg base CX0 "_law_result" 4 ["_law_desk", "_law_letter_here"] (spLResult K) :=
  def_of T 42 64 sc__law_result bn__law_result (by walk_at "len") (b__law_result T)
def spLHeard (K : PySem.W.Frag) : Sp := fun vs H Q _ => ∃ (t l a : Addr) (s : Dk) (n m : Nat) (L : Letter), vs = [.ref t, .ref a] ∧ MapAt K H t l s ∧ OkD n m s ∧ n ≤ 1000 ∧ LetAt K H a L ∧ LetOk L ∧
  ∀ l' H', Kp [t] H H' → MapAt K H' t l' (heardS s L).2 → Moved H l l' → Q (.bl (heardS s L).1) H'
theorem sc__law_heard : FnScope ["_law_desk", "_law_letter_here", "_law_row"] ["_law_desk", "_law_letter_here"] (defScope s__law_heard) := ⟨rfl, rfl, rfl, by decide +kernel, rfl, by decide +kernel, by decide +kernel⟩
theorem bn__law_heard : BindN "_law_heard" s__law_heard ["_law_desk", "_law_letter_here"] := fun _ _ _ _ _ _ us hl => match us, hl with | [_, _], _ => rfl
theorem b__law_heard (T : TX K mg) : Body P w K mg base "_law_heard" s__law_heard ["_law_desk", "_law_letter_here", "_law_row"] 4 (spLHeard K) := by
  intro cdv A outer s H vs Q E h X hr
  obtain ⟨t, l, a, s, n, m, L, rfl, D, O, hn, hL, okL, q⟩ := h
  have D__law_begin := D__law_begin (P := P) (w := w) (base := base) T; have D__law_gone := D__law_gone (P := P) (w := w) (base := base) T; have D__law_result := D__law_result (P := P) (w := w) (base := base) T
  refine ⟨_, (pss_cons (ps_if (PW.pt (pw_or (pt_cmpR op_isU (pe_dget (hu_of hr) (pv 0) pe_str (fun _ _ => rfl)) pe_non (nomark _)) (pw_or (pt_cmpR (op_neU (K := K) hr.units) (pe_ix (ix_U (K := K)) (pv 1) pe_int (fun _ _ => rfl)) (pe_dget (hu_of hr) (pv 0) pe_str (fun _ _ => rfl)) (nomark _)) (pw_or1 (pt_cmpR (op_neU (K := K) hr.units) (pe_ix (ix_U (K := K)) (pv 1) pe_int (fun _ _ => rfl)) (pe_dget (hu_of hr) (pv 0) pe_str (fun _ _ => rfl)) (nomark _)))))) (pss_one (ps_ret pe_bl)) pss_nil) (pss_cons (ps_if (pt_cmpR (op_eqU (K := K) hr.units) (pe_ix (ix_U (K := K)) (pv 1) pe_int (fun _ _ => rfl)) pe_str (nomark _)) (pss_cons (ps_if (pt_cmpR op_isNotU (pe_dget (hu_of hr) (pv 0) pe_str (fun _ _ => rfl)) pe_non (nomark _)) (pss_one (ps_ret pe_bl)) pss_nil) (pss_cons (ps_dput (hu_of hr) (pv 0) pe_str (pe_ix (ix_U (K := K)) (pv 1) pe_int (fun _ _ => rfl)) rfl) (pss_one (ps_ret pe_bl)))) pss_nil) (pss_cons (ps_if (pt_cmpR (op_eqU (K := K) hr.units) (pe_ix (ix_U (K := K)) (pv 1) pe_int (fun _ _ => rfl)) pe_str (nomark _)) (pss_cons (ps_if (PW.pt (pw_or (pt_cmpR op_isU (pe_dget (hu_of hr) (pv 0) pe_str (fun _ _ => rfl)) pe_non (nomark _)) (pw_or1 (pt_cmpR (op_neU (K := K) hr.units) (pe_ix (ix_U (K := K)) (pv 1) pe_int (fun _ _ => rfl)) (pe_dget (hu_of hr) (pv 0) pe_str (fun _ _ => rfl)) (nomark _))))) (pss_one (ps_ret pe_bl)) pss_nil) (pss_cons (ps_expr (pe_callA D__law_begin hr pass0 (pa_cons (pv 0) pa_nil))) (pss_one (ps_ret pe_bl)))) pss_nil) (pss_cons (ps_if (pt_cmpR (op_eqU (K := K) hr.units) (pe_ix (ix_U (K := K)) (pv 1) pe_int (fun _ _ => rfl)) pe_str (nomark _)) (pss_one (ps_ret (pe_callA D__law_result hr pass0 (pa_cons (pv 0) (pa_cons (pv 1) pa_nil))))) pss_nil) (pss_cons (ps_set (i := 2) sc__law_heard.nd rfl (Or.inl rfl) (pe_ix (ix_U (K := K)) (pe_dget (hu_of hr) (pv 0) pe_str (fun _ _ => rfl)) (pe_dget (hu_of hr) (pv 0) pe_str (fun _ _ => rfl)) (fun _ _ => rfl))) (pss_cons (ps_if (PW.pt (pw_or (pt_cmpR op_isU (pe_dget (hu_of hr) (pv 0) pe_str (fun _ _ => rfl)) pe_non (nomark _)) (pw_or (pt_cmpR (op_eqU (K := K) hr.units) (pe_ix (ix_U (K := K)) (pv 2) pe_int (fun _ _ => rfl)) pe_str (nomark _)) (pw_or (pt_cmpR (op_neU (K := K) hr.units) (pe_ix (ix_U (K := K)) (pv 1) pe_int (fun _ _ => rfl)) (pe_dget (hu_of hr) (pv 0) pe_str (fun _ _ => rfl)) (nomark _)) (pw_or1 (pt_cmpR (op_neU (K := K) hr.units) (pe_ix (ix_U (K := K)) (pv 1) pe_int (fun _ _ => rfl)) (pe_callB (cr_len (K := K)) rfl (T.free 2) PySem.boot_len (pa_cons (pe_dget (hu_of hr) (pv 0) pe_str (fun _ _ => rfl)) pa_nil)) (nomark _))))))) (pss_one (ps_ret pe_bl)) pss_nil) (pss_cons (ps_expr (pe_callA D__law_gone hr pass0 (pa_cons (pv 0) (pa_cons (pe_op (op_addU (K := K)) (pe_dget (hu_of hr) (pv 0) pe_str (fun _ _ => rfl)) (pe_tup (pa_cons (pe_tup (pa_cons (pe_ix (ix_U (K := K)) (pv 2) pe_int (fun _ _ => rfl)) (pa_cons (pe_ix (ix_U (K := K)) (pv 1) pe_int (fun _ _ => rfl)) pa_nil))) pa_nil))) pa_nil)))) (pss_one (ps_ret pe_bl))))))))), ?_⟩
  obtain ⟨g, j, h1, h2, h3⟩ := D.dct
  have q : ∀ b s' l' H', heardS s L = (b, s') → Kp [t] H H' → MapAt K H' t l' s' → Moved H l l' → Q (.bl b) H' := fun b s' l' H' e k d mv => by
    rw [e] at q
    exact q l' H' k d mv
  have no : heardS s L = (false, s) → Q (.bl false) H := fun e => q false s l H e Kp.refl D (.inl rfl)
  walk_at "st"
  cases ha : s.ag with
  | none =>
    rw [ha] at h2
    obtain rfl : g = .non := h2
    walk_at "dc"
    exact no (by unfold heardS; rw [ha])
  | some rs =>
    rw [ha] at h2
    have A := O.ag rs ha
    obtain ⟨ga, vs, rfl, hvs, hds, hvl⟩ := rows_at h2
    have hs : (decide (L.num = s.num) && decide (L.ser = s.ser)) = true → heardS s L = heardA rs s L := fun e => by
      unfold heardS
      rw [ha]
      simp only [e, if_true]
    have hno : (decide (L.num = s.num) && decide (L.ser = s.ser)) = false → heardS s L = (false, s) := fun e => by
      unfold heardS
      rw [ha]
      simp only [e, Bool.false_eq_true, if_false]
    cases L with
    | opened nu se e =>
      have hL : SqT K H a [.str "opened", .int nu, .int se, .int e] := hL
      walk_at "dc"
      first | (refine c_ixT hL rfl ?_; walk_at "dc") | skip
      refine c_iteN (fun g1 => ?_) (fun g1 => ?_)
      · walk_at "st"
        exact no (hno (by show (decide (nu = s.num) && _) = false; rw [decide_eq_false g1]; rfl))
      walk_at "dc"
      first | (refine c_ixT hL rfl ?_; walk_at "dc") | skip
      refine c_iteN (fun g2 => ?_) (fun g2 => ?_)
      · walk_at "st"
        exact no (hno (by show (_ && decide (se = s.ser)) = false; rw [decide_eq_false g2, Bool.and_false]))
      have hs := hs (by show (decide (nu = s.num) && decide (se = s.ser)) = true; rw [decide_eq_true g1, decide_eq_true g2]; rfl)
      walk_at "dc"
      first | (refine c_ixT hL rfl ?_; walk_at "dc") | skip
      cases he : s.ep with
      | some e0 =>
        rw [he] at h1
        walk_at "dc"
        exact no (by rw [hs]; simp only [heardA, he, Option.isSome_some, if_true])
      | none =>
        rw [he] at h1
        walk_at "dc"
        first | (refine c_ixT hL rfl ?_; walk_at "dc") | skip
        have := map_set (K := K) (s := { s with ep := some e }) h1 (g := .ref ga) (j := j) (l := l) (by simp only [ha]; exact h2) h3 D.don
        exact q true { s with ep := some e } l _ (by rw [hs]; simp only [heardA, he, Option.isSome_none, Bool.false_eq_true, if_false]) (Kp.mut (by simp)) this (.inl rfl)
    | lost nu se e =>
      have hL : SqT K H a [.str "lost", .int nu, .int se, .int e] := hL
      walk_at "dc"
      first | (refine c_ixT hL rfl ?_; walk_at "dc") | skip
      refine c_iteN (fun g1 => ?_) (fun g1 => ?_)
      · walk_at "st"
        exact no (hno (by show (decide (nu = s.num) && _) = false; rw [decide_eq_false g1]; rfl))
      walk_at "dc"
      first | (refine c_ixT hL rfl ?_; walk_at "dc") | skip
      refine c_iteN (fun g2 => ?_) (fun g2 => ?_)
      · walk_at "st"
        exact no (hno (by show (_ && decide (se = s.ser)) = false; rw [decide_eq_false g2, Bool.and_false]))
      have hs := hs (by show (decide (nu = s.num) && decide (se = s.ser)) = true; rw [decide_eq_true g1, decide_eq_true g2]; rfl)
      walk_at "dc"
      first | (refine c_ixT hL rfl ?_; walk_at "dc") | skip
      first | (refine c_ixT hL rfl ?_; walk_at "dc") | skip
      cases he : s.ep with
      | none =>
        rw [he] at h1
        walk_at "dc"
        exact no (by rw [hs]; simp [heardA, he])
      | some e0 =>
        rw [he] at h1
        walk_at "dc"
        first | (refine c_ixT hL rfl ?_; walk_at "dc") | skip
        refine c_iteN (fun g3 => ?_) (fun g3 => ?_)
        · walk_at "st"
          exact no (by rw [hs]; simp only [heardA, he]; rw [if_neg (fun z => g3 (by injection z with z; exact z.symm))])
        subst g3
        walk_at "st"
        refine ⟨t, l, s, rfl, D, fun H1 k1 D1 => ?_⟩
        walk_at "st"
        exact q true _ l H1 (by rw [hs]; simp only [heardA, he, if_true]) k1 D1 (.inl rfl)
    | answer nu se at_ po ans =>
      obtain ⟨u, hL, hu⟩ := hL
      obtain ⟨r, hr⟩ : ∃ r, rs[s.row]? = some r := ⟨_, List.getElem?_eq_getElem A.in_⟩
      obtain ⟨v, hu1, hu2⟩ := row_at hds hr
      obtain ⟨j', ys, e1, hys, hjs⟩ := dt_tup h3
      injection e1 with e1
      subst e1
      have hyl : ys.length = s.jr.length := by rw [dta_len hjs, List.length_map]
      walk_at "dc"
      first | (refine c_ixT hL rfl ?_; walk_at "dc") | skip
      refine c_iteN (fun g1 => ?_) (fun g1 => ?_)
      · walk_at "st"
        exact no (hno (by show (decide (nu = s.num) && _) = false; rw [decide_eq_false g1]; rfl))
      walk_at "dc"
      first | (refine c_ixT hL rfl ?_; walk_at "dc") | skip
      refine c_iteN (fun g2 => ?_) (fun g2 => ?_)
      · walk_at "st"
        exact no (hno (by show (_ && decide (se = s.ser)) = false; rw [decide_eq_false g2, Bool.and_false]))
      have hs := hs (by show (decide (nu = s.num) && decide (se = s.ser)) = true; rw [decide_eq_true g1, decide_eq_true g2]; rfl)
      have no : ansS rs s at_ po ans = (false, s) → Q (.bl false) H := fun e => no (by rw [hs]; exact e)
      walk_at "dc"
      first | (refine c_ixT hL rfl ?_; walk_at "dc") | skip
      first | (refine c_ixT hL rfl ?_; walk_at "dc") | skip
      first | (refine c_ixT hL rfl ?_; walk_at "dc") | skip
      refine c_ixT hvs (atI_nat hu1) ?_
      walk_at "st"
      cases he : s.ep with
      | none =>
        rw [he] at h1
        walk_at "dc"
        exact no (by unfold ansS; rw [hr, he]; cases r <;> rfl)
      | some e0 =>
        rw [he] at h1
        walk_at "dc"
        cases r with
        | fin w1 =>
          have hw := A.rows.fin _ _ hr
          have hw1 : w1 = "stop" := by simpa using hw
          subst hw1
          obtain ⟨pr, rfl, hpr⟩ := row_fin hu2
          first | (refine c_ixT hpr rfl ?_; walk_at "dc") | walk_at "dc"
          exact no (by unfold ansS; rw [hr])
        | act w1 x cs o =>
          obtain ⟨rfl, rok⟩ := A.rows.row _ _ _ _ _ hr
          obtain ⟨pr, ax, ac, rfl, hpr, hax, hac⟩ := row_act hu2
          first | (refine c_ixT hpr rfl ?_; walk_at "dc") | walk_at "dc"
          first | (refine c_ixT hL rfl ?_; walk_at "dc") | skip
          refine c_iteN (fun g3 => ?_) (fun g3 => ?_)
          · walk_at "st"
            exact no (by unfold ansS; rw [hr, he, decide_eq_false g3]; rfl)
          walk_at "dc"
          first | (refine c_ixT hL rfl ?_; walk_at "dc") | skip
          first | (refine c_lenT hys ?_; walk_at "st") | skip
          rw [hyl]
          refine c_iteN (fun g4 => ?_) (fun g4 => ?_)
          · walk_at "st"
            exact no (by unfold ansS; rw [hr, he, decide_eq_false g4, Bool.and_false]; rfl)
          walk_at "st"
          first | (refine c_ixT hpr rfl ?_; walk_at "st") | skip
          first | (refine c_ixT hL rfl ?_; walk_at "st") | skip
          walk_at "nw"
          intro p1 H1 N1
          walk_at "st"
          walk_at "nw"
          intro p2 H2 N2
          have k2 : Kp [] H H2 := N1.kp.trans N2.kp
          have jl := O.jr.len
          walk_at "st"
          refine c_addT (SqT.kp k2 hys) (SqT.of N2.at_) (by rw [sizeLine_eq]; simp only [List.length_cons, List.length_nil]; omega) fun p3 H3 e3 hp3 => ?_
          have k3 := k2.trans e3
          walk_at "st"
          refine ⟨t, l, p3, s, rs, s.jr ++ [(x, ans)], _, rfl, D.kp0 k3, ha, A.rows, ?_, fun en he' => ?_, by rw [List.length_append, List.length_singleton]; omega, after_more A.at_ hr rok.act, fun H4 k4 D4 => ?_⟩
          · unfold jourD
            rw [List.map_append]
            exact .tup hp3 (dta_snoc (DtAll.kp hjs k3) (.tup (SqT.kp (N2.kp.trans e3) (SqT.of N1.at_)) (.cons (actOk hax k3.kt) (.cons (Dt.kp hu k3) .nil))))
          · rcases List.mem_append.mp he' with he' | he'
            · exact O.jr.ent en he'
            · rw [List.mem_singleton.mp he']
              exact ⟨rok.act, okL⟩
          · walk_at "st"
            exact q true _ l H4 (by rw [hs]; show ansS rs s at_ po ans = _; unfold ansS; rw [hr, he, decide_eq_true g3, decide_eq_true g4]; rfl) (k3.mono.trans k4) D4 (.inl rfl)
    | result nu se at_ r =>
      have hL0 := hL
      obtain ⟨p, hL, hp⟩ := hL
      walk_at "dc"
      first | (refine c_ixT hL rfl ?_; walk_at "dc") | skip
      refine c_iteN (fun g1 => ?_) (fun g1 => ?_)
      · walk_at "st"
        exact no (hno (by show (decide (nu = s.num) && _) = false; rw [decide_eq_false g1]; rfl))
      walk_at "dc"
      first | (refine c_ixT hL rfl ?_; walk_at "dc") | skip
      refine c_iteN (fun g2 => ?_) (fun g2 => ?_)
      · walk_at "st"
        exact no (hno (by show (_ && decide (se = s.ser)) = false; rw [decide_eq_false g2, Bool.and_false]))
      have hs := hs (by show (decide (nu = s.num) && decide (se = s.ser)) = true; rw [decide_eq_true g1, decide_eq_true g2]; rfl)
      walk_at "dc"
      first | (refine c_ixT hL rfl ?_; walk_at "dc") | skip
      first | (refine c_ixT hL rfl ?_; walk_at "dc") | skip
      first | (refine c_ixT hL rfl ?_; walk_at "dc") | skip
      refine ⟨t, l, a, s, n, m, rs, nu, se, at_, r, rfl, D, O, hn, ha, hL0, fun b s' l' H1 e k1 D1 mv => ?_⟩
      walk_at "st"
      exact q b s' l' H1 (by rw [hs]; exact e) k1 D1 mv
theorem D__law_heard (T : TX K mg) : DefAt P w K mg base CX0 "_law_heard" 5 ["_law_desk", "_law_letter_here"] (spLHeard K) :=
  def_of T 43 65 sc__law_heard bn__law_heard (by walk_at "len") (b__law_heard T)
end
end K61



namespace K61
open PySem L2 Sa
local macro_rules | `(tactic| walk_at "s1") => `(tactic| first | (with_reducible apply c_dgetK))
local macro_rules | `(tactic| walk_at "s1") => `(tactic| (with_reducible apply c_raiseO))
local macro_rules | `(tactic| walk_at "s1") => `(tactic| first | (with_reducible apply c_un) | (with_reducible apply c_negI))
local macro_rules | `(tactic| walk_at "s1") => `(tactic| first | ((with_reducible apply dm_g1); (· walk_at "lk")) | ((with_reducible apply dm_p1); (· walk_at "lk")) | ((with_reducible apply dm_g2); (· walk_at "lk")) | ((with_reducible apply dm_p2); (· walk_at "lk")) | ((with_reducible apply dm_g3); (· walk_at "lk")) | ((with_reducible apply dm_p3); (· walk_at "lk")) | ((with_reducible apply dm_g4); (· walk_at "lk")) | ((with_reducible apply dm_p4); (· walk_at "lk")) | ((with_reducible apply dm_g5); (· walk_at "lk")) | ((with_reducible apply dm_p5); (· walk_at "lk")) | ((with_reducible apply dm_g6); (· walk_at "lk")) | ((with_reducible apply dm_p6); (· walk_at "lk")) | ((with_reducible apply dm_g7); (· walk_at "lk")) | ((with_reducible apply dm_p7); (· walk_at "lk")) | ((with_reducible apply dm_g8); (· walk_at "lk")) | ((with_reducible apply dm_p8); (· walk_at "lk")) | ((with_reducible apply dm_g9); (· walk_at "lk")) | ((with_reducible apply dm_p9); (· walk_at "lk")))
set_option pp.maxSteps 1500
theorem fit_w {z : Str} (h : okS z = true) (hl : z.length ≤ 11) : Fit 3 30000 (wordD z) := (Fit.word h hl).mono (by omega) (by omega)
section
variable {P : Program} {w : World} {K : PySem.W.Frag} {mg : Str → Option Value} {base : Heap}
def spLAnswer (K : PySem.W.Frag) : Sp := fun vs H Q _ => ∃ (b d : Addr) (u : V) (r : Row), vs = [.ref b, u] ∧ Bx H b d ∧ Dt K H u r.d ∧ (∀ v, r = .fin v → v = "stop") ∧ (∀ v x cs o, r = .act v x cs o → v = "act" ∧ (∀ c ∈ cs, Fit 3 30000 c.ans ∧ c.next < 1000) ∧ cs.length ≤ 6) ∧
  ∀ v ans H', Kp [b] H H' → Bx H' b d → Dt K H' v ans → Fit 3 30000 ans → Q v H'
theorem sc__law_answer : FnScope ["_law_box", "_law_row"] ["_law_box", "_law_row"] (defScope s__law_answer) := ⟨rfl, rfl, rfl, by decide +kernel, rfl, by decide +kernel, by decide +kernel⟩
theorem bn__law_answer : BindN "_law_answer" s__law_answer ["_law_box", "_law_row"] := fun _ _ _ _ _ _ us hl => match us, hl with | [_, _], _ => rfl
theorem b__law_answer (T : TX K mg) : Body P w K mg base "_law_answer" s__law_answer ["_law_box", "_law_row"] 2 (spLAnswer K) := by
  intro cdv A outer s H vs Q E h X hr
  obtain ⟨b, d, u, r, rfl, B, hu, hfin, hact, q⟩ := h
  have D__law_draw := D__law_draw (P := P) (w := w) (base := base) T
  refine ⟨_, (pss_cons (ps_if (PW.pt (pw_and (pt_cmpR (op_eqU (K := K) hr.units) (pe_ix (ix_U (K := K)) (pv 1) pe_int (fun _ _ => rfl)) pe_str (nomark _)) (pw_and (pt_cmpR (op_neU (K := K) hr.units) (pe_ix (ix_U (K := K)) (pv 1) pe_int (fun _ _ => rfl)) (pe_tup pa_nil) (nomark _)) (pw_and1 (pt_cmpR op_gtU (pe_callA D__law_draw hr pass0 (pa_cons (pv 0) (pa_cons pe_int pa_nil))) pe_int (nomark _)))))) (pss_one (ps_ret (pe_ix (ix_U (K := K)) (pe_ix (ix_U (K := K)) (pe_ix (ix_U (K := K)) (pv 1) pe_int (fun _ _ => rfl)) (pe_callA D__law_draw hr pass0 (pa_cons (pv 0) (pa_cons (pe_callB (cr_len (K := K)) rfl (T.free 2) PySem.boot_len (pa_cons (pe_ix (ix_U (K := K)) (pv 1) pe_int (fun _ _ => rfl)) pa_nil)) pa_nil))) (fun _ _ => rfl)) pe_int (fun _ _ => rfl)))) pss_nil) (pss_one (ps_ret (pe_ix (ix_U (K := K)) (pe_lst (pa_cons (pe_tup (pa_cons pe_str pa_nil)) (pa_cons (pe_tup (pa_cons pe_str pa_nil)) (pa_cons (pe_tup (pa_cons pe_str pa_nil)) pa_nil)))) (pe_callA D__law_draw hr pass0 (pa_cons (pv 0) (pa_cons pe_int pa_nil))) (fun _ _ => rfl))))), ?_⟩
  cases r with
  | fin w1 =>
    obtain rfl := hfin w1 rfl
    obtain ⟨pr, rfl, hpr⟩ := row_fin hu
    walk_at "st"
    first | (refine c_ixT hpr rfl ?_; walk_at "dc") | walk_at "dc"
    walk_at "nw"
    intro p1 H1 N1
    walk_at "st"
    walk_at "nw"
    intro p2 H2 N2
    walk_at "st"
    walk_at "nw"
    intro p3 H3 N3
    walk_at "st"
    walk_at "nw"
    intro p4 H4 N4
    have B4 := (((B.nw N1).nw N2).nw N3)
    walk_at "st"
    refine ⟨b, d, 3, rfl, B4.nw N4, by decide, fun n5 H5 n50 n51 e5 B5 => ?_⟩
    refine c_pick (xs := [.ref p1, .ref p2, .ref p3]) (B4.pick N4 e5) n50 n51 fun v hv => ?_
    have k34 : Kp [b] H3 H5 := N4.kp.trans e5
    have t3 : Kt H3 H5 := B4.kt k34
    have k : Kp [b] H H5 := ((N1.kp.trans N2.kp).trans N3.kp).trans k34
    simp only [List.mem_cons, List.not_mem_nil, or_false] at hv
    rcases hv with rfl | rfl | rfl
    · exact q _ (wordD "none") H5 k B5 (.tup (SqT.kt t3 (SqT.kp (N2.kp.trans N3.kp) (SqT.of N1.at_))) (.cons (.str _) .nil)) (fit_w (by decide +kernel) (by decide))
    · exact q _ (wordD "done") H5 k B5 (.tup (SqT.kt t3 (SqT.kp N3.kp (SqT.of N2.at_))) (.cons (.str _) .nil)) (fit_w (by decide +kernel) (by decide))
    · exact q _ (wordD "blocked") H5 k B5 (.tup (SqT.kt t3 (SqT.of N3.at_)) (.cons (.str _) .nil)) (fit_w (by decide +kernel) (by decide))
  | act w1 x cs o =>
    obtain ⟨rfl, hcs, hcl⟩ := hact _ _ _ _ rfl
    obtain ⟨pr, ax, ac, rfl, hpr, hax, hac⟩ := row_act hu
    obtain ⟨ac', cv, e0, hcv, hcd⟩ := dt_tup hac
    injection e0 with e0
    subst e0
    have cvl : cv.length = cs.length := by rw [dta_len hcd, List.length_map]
    walk_at "st"
    first | (refine c_ixT hpr rfl ?_; walk_at "dc") | walk_at "dc"
    first | (refine c_ixT hpr rfl ?_; walk_at "dc") | skip
    walk_at "nw"
    intro p0 H0 N0
    have hac0 := Dt.kp hac N0.kp
    refine c_neD hac0.dp (Dt.tup (SqT.of N0.at_) .nil).dp ((fit_cases hcs hcl).shaped (by decide)) (by decide +kernel) ?_
    have B0 := B.nw N0
    have k0 : Kp [b] H H0 := N0.kp
    have hpr0 := SqT.kp N0.kp hpr
    have last : ∀ {H1 : Hp}, Kp [b] H H1 → Bx H1 b d → ∀ {p1 p2 p3 p4 : Addr} {H2 H3 H4 H5 H6 : Hp} {n : Int}, New H1 p1 (.tup [.str "none"]) H2 → New H2 p2 (.tup [.str "done"]) H3 → New H3 p3 (.tup [.str "blocked"]) H4 → New H4 p4 (.lst [.ref p1, .ref p2, .ref p3]) H5 →
        0 ≤ n → n < 3 → Kp [b] H5 H6 → Bx H6 b d → rIx K (.ref p4) (.int n) H6 Q := by
      intro H1 k1 B1 p1 p2 p3 p4 H2 H3 H4 H5 H6 n N1 N2 N3 N4 n0 n1 e6 B6
      have B4 := ((B1.nw N1).nw N2).nw N3
      refine c_pick (xs := [.ref p1, .ref p2, .ref p3]) (B4.pick N4 e6) n0 n1 fun v hv => ?_
      have k34 : Kp [b] H4 H6 := N4.kp.trans e6
      have t3 : Kt H4 H6 := B4.kt k34
      have k : Kp [b] H H6 := k1.trans (((N1.kp.trans N2.kp).trans N3.kp).trans k34)
      simp only [List.mem_cons, List.not_mem_nil, or_false] at hv
      rcases hv with rfl | rfl | rfl
      · exact q _ (wordD "none") H6 k B6 (.tup (SqT.kt t3 (SqT.kp (N2.kp.trans N3.kp) (SqT.of N1.at_))) (.cons (.str _) .nil)) (fit_w (by decide +kernel) (by decide))
      · exact q _ (wordD "done") H6 k B6 (.tup (SqT.kt t3 (SqT.kp N3.kp (SqT.of N2.at_))) (.cons (.str _) .nil)) (fit_w (by decide +kernel) (by decide))
      · exact q _ (wordD "blocked") H6 k B6 (.tup (SqT.kt t3 (SqT.of N3.at_)) (.cons (.str _) .nil)) (fit_w (by decide +kernel) (by decide))
    walk_at "st"
    refine c_iteNB (fun gc => ?_) (fun gc => ?_)
    · have hpos : 0 < cs.length := by
        cases cs with
        | nil => simp [PyData.eqv, PyData.eqvAll] at gc
        | cons c r => simp
      walk_at "st"
      refine ⟨b, d, 3, rfl, B0, by decide, fun n1 H1 n10 n11 e1 B1 => ?_⟩
      have hpr1 := SqT.kt (B0.kt e1) hpr0
      have k1 := k0.trans e1
      walk_at "st"
      refine c_ite (fun gd => ?_) (fun gd => ?_)
      · walk_at "st"
        first | (refine c_ixT hpr1 rfl ?_; walk_at "st") | skip
        first | (refine c_ixT hpr1 rfl ?_; walk_at "st") | skip
        have hcv1 := SqT.kt (B.kt k1) hcv
        first | (refine c_lenT hcv1 ?_; walk_at "st") | skip
        rw [cvl]
        refine ⟨b, d, _, rfl, B1, by omega, fun n2 H2 n20 n21 e2 B2 => ?_⟩
        have k2 := k1.trans e2
        have hcv2 := SqT.kt (B1.kt e2) hcv1
        have hcd2 := DtAll.kt (B.kt k2) hcd
        obtain ⟨c, hc⟩ : ∃ c, cs[n2.toNat]? = some c := ⟨_, List.getElem?_eq_getElem (by omega)⟩
        obtain ⟨pc, uc, hc1, hc2, hc3⟩ := case_at hcd2 hc
        refine c_ixT hcv2 (v := .ref pc) ?_ ?_
        · obtain ⟨m, rfl⟩ := Int.eq_ofNat_of_zero_le n20
          exact atI_nat hc1
        walk_at "st"
        first | refine c_ixT hc2 rfl ?_ | skip
        exact q uc c.ans H2 k2 B2 hc3 (hcs c (List.mem_of_getElem? hc)).1
      · walk_at "st"
        walk_at "nw"
        intro p1 H2 N1
        walk_at "st"
        walk_at "nw"
        intro p2 H3 N2
        walk_at "st"
        walk_at "nw"
        intro p3 H4 N3
        walk_at "st"
        walk_at "nw"
        intro p4 H5 N4
        walk_at "st"
        refine ⟨b, d, 3, rfl, (((B1.nw N1).nw N2).nw N3).nw N4, by decide, fun n5 H6 n50 n51 e6 B6 => ?_⟩
        exact last k1 B1 N1 N2 N3 N4 n50 n51 e6 B6
    · walk_at "st"
      walk_at "nw"
      intro p1 H2 N1
      walk_at "st"
      walk_at "nw"
      intro p2 H3 N2
      walk_at "st"
      walk_at "nw"
      intro p3 H4 N3
      walk_at "st"
      walk_at "nw"
      intro p4 H5 N4
      walk_at "st"
      refine ⟨b, d, 3, rfl, (((B0.nw N1).nw N2).nw N3).nw N4, by decide, fun n5 H6 n50 n51 e6 B6 => ?_⟩
      exact last k0 B0 N1 N2 N3 N4 n50 n51 e6 B6
theorem D__law_answer (T : TX K mg) : DefAt P w K mg base CX0 "_law_answer" 3 ["_law_box", "_law_row"] (spLAnswer K) :=
  def_of T 44 66 sc__law_answer bn__law_answer (by walk_at "len") (b__law_answer T)
def spLStarted (K : PySem.W.Frag) : Sp := fun vs H Q _ => ∃ (t l g : Addr) (s : Dk) (nm : Str) (rs : List RowZ) (ag : List Row), vs = [.ref t, .str nm, .ref g] ∧ DeskAt K H t l s ∧ nm.length ≤ 1000 ∧ Dt K H (.ref g) (agZ rs) ∧ rs.length ≤ 60 ∧ (∀ r ∈ rs, RowSane "act" stopW r) ∧ (agentF (fun _ => true) rs = true → rs = ag.map Row.z) ∧
  (s.ag.isSome = true → ∀ p H', Kp [] H H' → SqT K H' p [.str "refused", .bl true] → Q (.ref p) H') ∧
  (s.ag.isSome = false → isNameS nm = false → ∀ p H', Kp [] H H' → SqT K H' p [.str "refused", .str "name"] → Q (.ref p) H') ∧
  (s.ag.isSome = false → isNameS nm = true → agentF (fun _ => true) rs = false → ∀ p H', Kp [] H H' → SqT K H' p [.str "refused", .str "agent"] → Q (.ref p) H') ∧
  (s.ag.isSome = false → isNameS nm = true → agentF (fun _ => true) rs = true → ∀ H', Kp [t] H H' → DeskAt K H' t l (beginS { s with nm := nm, ag := some ag }) → Q (.int (s.ser + 1)) H')
theorem sc__law_started : FnScope ["_law_told", "_law_name", "_law_agent_here", "e"] ["_law_told", "_law_name", "_law_agent_here"] (defScope s__law_started) := ⟨rfl, rfl, rfl, by decide +kernel, rfl, by decide +kernel, by decide +kernel⟩
theorem bn__law_started : BindN "_law_started" s__law_started ["_law_told", "_law_name", "_law_agent_here"] := fun _ _ _ _ _ _ us hl => match us, hl with | [_, _, _], _ => rfl
theorem b__law_started (T : TX K mg) : Body P w K mg base "_law_started" s__law_started ["_law_told", "_law_name", "_law_agent_here", "e"] 9 (spLStarted K) := by
  intro cdv A outer s H vs Q E h X hr
  obtain ⟨t, l, g, s, nm, rs, ag, rfl, D, hnm, hg, rl, rsane, hag, q1, q2, q3, q4⟩ := h
  have C_Desk := C_Desk T; have E_OutOfRange := E_OutOfRange (P := P) (w := w) (base := base) T; have M_Desk_start := M_Desk_start (P := P) (w := w) (base := base) T
  refine ⟨_, (pss_one (ps_try_as (i := 3) rfl rfl sc__law_started.nd rfl rfl (names_glo (T.glo 68)) takes_never (fun W pn xe tk1 po1 => (pss_one (ps_ret (pe_methS1 M_Desk_start C_Desk hr (atW tk1) (pv 0) (pa_cons (pv 1) (pa_cons (pv 2) pa_nil)))))) (fun a oe cls d pn hz hf => (pss_cons (ps_if (pt_tru (K := K) (pe_callB (cr_isEV (K := K) hz hf) rfl (T.free 70) (by decide +kernel) (pa_cons (pv 3) (pa_cons (pe_gCon (T.glo 17)) pa_nil)))) (pss_one (ps_ret (pe_tup (pa_cons pe_str (pa_cons (pe_xf E_OutOfRange.xf E_OutOfRange.no hz hf (pv 3)) pa_nil))))) pss_nil) (pss_one (ps_ret (pe_tup (pa_cons pe_str (pa_cons (pe_callB (cr_isEV (K := K) hz hf) rfl (T.free 70) (by decide +kernel) (pa_cons (pv 3) (pa_cons (pe_gCon (T.glo 69)) pa_nil))) pa_nil))))))))), ?_⟩
  obtain ⟨dx, g0, j, h1, _⟩ := D.ins
  walk_at "st"
  first | (refine dk_r h1 (by decide +kernel) ?_; walk_at "st") | skip
  refine ⟨t, l, g, s, nm, rs, ag, rfl, D, hnm, hg, rl, rsane, hag, fun hz H1 e1 => ?_, fun hz hn d H1 e1 hd => ?_, fun hz hn hb d H1 e1 hd => ?_, fun hz hn hb H1 k1 D1 => ?_⟩
  · refine c_caught (He.exm_ok (T.fact 106)) fun ea hea => ?_
    walk_at "st"
    refine c_isE0 (T.exi 3) (T.kit 5) ?_
    walk_at "dc"
    refine c_isE0 (T.exi 3) (T.kit 6) ?_
    walk_at "dc"
    walk_at "nw"
    intro p2 H2 N2
    exact q1 hz p2 H2 (e1.trans N2.kp) (SqT.of N2.at_)
  · refine c_caught (He.exm_ok (T.fact 107)) fun ea hea => ?_
    walk_at "st"
    refine c_isE1 (T.exi 4) (T.kit 7) hd ?_
    walk_at "dc"
    refine ⟨rfl, rfl, d, _, _, rfl, hd, rfl, ?_⟩
    walk_at "st"
    walk_at "nw"
    intro p2 H2 N2
    exact q2 hz hn p2 H2 (e1.trans N2.kp) (SqT.of N2.at_)
  · refine c_caught (He.exm_ok (T.fact 107)) fun ea hea => ?_
    walk_at "st"
    refine c_isE1 (T.exi 4) (T.kit 7) hd ?_
    walk_at "dc"
    refine ⟨rfl, rfl, d, _, _, rfl, hd, rfl, ?_⟩
    walk_at "st"
    walk_at "nw"
    intro p2 H2 N2
    exact q3 hz hn hb p2 H2 (e1.trans N2.kp) (SqT.of N2.at_)
  · walk_at "st"
    exact q4 hz hn hb H1 k1 D1
theorem D__law_started (T : TX K mg) : DefAt P w K mg base CX0 "_law_started" 10 ["_law_told", "_law_name", "_law_agent_here"] (spLStarted K) :=
  def_of T 46 71 sc__law_started bn__law_started (by walk_at "len") (b__law_started T)
end
end K61



namespace K61
open PySem L2 Sa
local macro_rules | `(tactic| walk_at "s1") => `(tactic| first | (with_reducible apply c_dgetK))
local macro_rules | `(tactic| walk_at "s1") => `(tactic| (with_reducible apply c_raiseO))
local macro_rules | `(tactic| walk_at "s1") => `(tactic| first | (with_reducible apply c_un) | (with_reducible apply c_negI))
local macro_rules | `(tactic| walk_at "s1") => `(tactic| first | ((with_reducible apply dm_g1); (· walk_at "lk")) | ((with_reducible apply dm_p1); (· walk_at "lk")) | ((with_reducible apply dm_g2); (· walk_at "lk")) | ((with_reducible apply dm_p2); (· walk_at "lk")) | ((with_reducible apply dm_g3); (· walk_at "lk")) | ((with_reducible apply dm_p3); (· walk_at "lk")) | ((with_reducible apply dm_g4); (· walk_at "lk")) | ((with_reducible apply dm_p4); (· walk_at "lk")) | ((with_reducible apply dm_g5); (· walk_at "lk")) | ((with_reducible apply dm_p5); (· walk_at "lk")) | ((with_reducible apply dm_g6); (· walk_at "lk")) | ((with_reducible apply dm_p6); (· walk_at "lk")) | ((with_reducible apply dm_g7); (· walk_at "lk")) | ((with_reducible apply dm_p7); (· walk_at "lk")) | ((with_reducible apply dm_g8); (· walk_at "lk")) | ((with_reducible apply dm_p8); (· walk_at "lk")) | ((with_reducible apply dm_g9); (· walk_at "lk")) | ((with_reducible apply dm_p9); (· walk_at "lk")))
set_option pp.maxSteps 1500
theorem c_testK {tt : TT} {σ : St} {H : Hp} {R : Bool → Hp → Prop} (S : Bool → Hp → Prop) (h : ∀ R' : Bool → Hp → Prop, (∀ c H', S c H' → R' c H') → tt σ H R') (k : ∀ c H', S c H' → R c H') : tt σ H R := h R k
section
variable {P : Program} {w : World} {K : PySem.W.Frag} {mg : Str → Option Value} {base : Heap}
def spLLetter (K : PySem.W.Frag) : Sp := fun vs H Q _ => ∃ (b d t l : Addr) (s : Dk) (n m : Nat), vs = [.ref b, .ref t] ∧ Bx H b d ∧ MapAt K H t l s ∧ OkD n m s ∧
  ∀ p L H', Kp [b] H H' → Bx H' b d → LetAt K H' p L → LetOk L → Q (.ref p) H'
theorem sc__law_letter : FnScope ["_law_box", "_law_desk", "_law_number", "_law_serial", "_law_epoch", "_law_attempt", "_law_kind", "_law_at", "_law_result_here", "_law_row"] ["_law_box", "_law_desk"] (defScope s__law_letter) := ⟨rfl, rfl, rfl, by decide +kernel, rfl, by decide +kernel, by decide +kernel⟩
theorem bn__law_letter : BindN "_law_letter" s__law_letter ["_law_box", "_law_desk"] := fun _ _ _ _ _ _ us hl => match us, hl with | [_, _], _ => rfl
theorem b__law_letter (T : TX K mg) : Body P w K mg base "_law_letter" s__law_letter ["_law_box", "_law_desk", "_law_number", "_law_serial", "_law_epoch", "_law_attempt", "_law_kind", "_law_at", "_law_result_here", "_law_row"] 3 (spLLetter K) := by
  intro cdv A outer s H vs Q E h X hr
  obtain ⟨b, d, t, l, s, n, m, rfl, B, D, O, q⟩ := h
  have D__law_answer := D__law_answer (P := P) (w := w) (base := base) T; have D__law_draw := D__law_draw (P := P) (w := w) (base := base) T
  refine ⟨_, (pss_cons (ps_set (i := 2) sc__law_letter.nd rfl (Or.inl rfl) (pe_dget (hu_of hr) (pv 1) pe_str (fun _ _ => rfl))) (Evl.pss_cut (ps_if (pt_cmpR (op_eqU (K := K) hr.units) (pe_callA D__law_draw hr pass0 (pa_cons (pv 0) (pa_cons pe_int pa_nil))) pe_int (nomark _)) (pss_one (ps_set (i := 2) sc__law_letter.nd rfl (Or.inl rfl) (pe_op op_modU (pe_callTy cr_int rfl (T.free 32) (by decide +kernel) (pa_cons (pe_op (op_addU (K := K)) (pv 2) pe_int) pa_nil)) pe_int))) pss_nil) (pss_cons (ps_set (i := 3) sc__law_letter.nd rfl (Or.inl rfl) (pe_op op_subU (pe_dget (hu_of hr) (pv 1) pe_str (fun _ _ => rfl)) (pe_callTy cr_int rfl (T.free 32) (by decide +kernel) (pa_cons (pe_cmpR (op_eqU (K := K) hr.units) (pe_callA D__law_draw hr pass0 (pa_cons (pv 0) (pa_cons pe_int pa_nil))) pe_int (nomark _)) pa_nil)))) (pss_cons (ps_set (i := 4) sc__law_letter.nd rfl (Or.inl rfl) (pe_ix (ix_U (K := K)) (pe_lst (pa_cons (pe_dget (hu_of hr) (pv 1) pe_str (fun _ _ => rfl)) (pa_cons pe_int (pa_cons pe_int pa_nil)))) (pe_callA D__law_draw hr pass0 (pa_cons (pv 0) (pa_cons pe_int pa_nil))) (fun _ _ => rfl))) (Evl.pss_cut (ps_if (pt_cmpR op_isU (pv 4) pe_non (nomark _)) (pss_one (ps_set (i := 4) sc__law_letter.nd rfl (Or.inl rfl) (pe_op (op_addU (K := K)) pe_int (pe_callA D__law_draw hr pass0 (pa_cons (pv 0) (pa_cons pe_int pa_nil)))))) pss_nil) (pss_cons (ps_set (i := 5) sc__law_letter.nd rfl (Or.inl rfl) (pe_op op_subU (pe_dget (hu_of hr) (pv 1) pe_str (fun _ _ => rfl)) (pe_callTy cr_int rfl (T.free 32) (by decide +kernel) (pa_cons (pe_cmpR (op_eqU (K := K) hr.units) (pe_callA D__law_draw hr pass0 (pa_cons (pv 0) (pa_cons pe_int pa_nil))) pe_int (nomark _)) pa_nil)))) (pss_cons (ps_set (i := 6) sc__law_letter.nd rfl (Or.inl rfl) (pe_callA D__law_draw hr pass0 (pa_cons (pv 0) (pa_cons pe_int pa_nil)))) (Evl.pss_cut (ps_if (PW.pt (pw_or (pt_cmpR (op_eqU (K := K) hr.units) (pv 6) pe_int (nomark _)) (pw_or1 (PW.pt (pw_and (pt_cmpR op_isU (pe_dget (hu_of hr) (pv 1) pe_str (fun _ _ => rfl)) pe_non (nomark _)) (pw_and1 (pt_cmpR op_ltU (pv 6) pe_int (nomark _)))))))) (pss_one (ps_ret (pe_tup (pa_cons pe_str (pa_cons (pv 2) (pa_cons (pv 3) (pa_cons (pv 4) pa_nil))))))) pss_nil) (pss_cons (ps_if (pt_cmpR (op_eqU (K := K) hr.units) (pv 6) pe_int (nomark _)) (pss_one (ps_ret (pe_tup (pa_cons pe_str (pa_cons (pv 2) (pa_cons (pv 3) (pa_cons (pv 4) pa_nil))))))) pss_nil) (Evl.pss_cut (ps_if (PW.pt (pw_or (pt_cmpR (op_eqU (K := K) hr.units) (pv 6) pe_int (nomark _)) (pw_or (pt_cmpR op_isU (pe_dget (hu_of hr) (pv 1) pe_str (fun _ _ => rfl)) pe_non (nomark _)) (pw_or1 (pt_cmpR (op_eqU (K := K) hr.units) (pe_ix (ix_U (K := K)) (pe_ix (ix_U (K := K)) (pe_dget (hu_of hr) (pv 1) pe_str (fun _ _ => rfl)) (pe_dget (hu_of hr) (pv 1) pe_str (fun _ _ => rfl)) (fun _ _ => rfl)) pe_int (fun _ _ => rfl)) pe_str (nomark _)))))) (pss_cons (ps_set (i := 7) sc__law_letter.nd rfl (Or.inl rfl) (pe_callA D__law_draw hr pass0 (pa_cons (pv 0) (pa_cons (pe_op (op_addU (K := K)) (pe_callB (cr_len (K := K)) rfl (T.free 2) PySem.boot_len (pa_cons (pe_dget (hu_of hr) (pv 1) pe_str (fun _ _ => rfl)) pa_nil)) pe_int) pa_nil)))) (pss_cons (ps_set (i := 8) sc__law_letter.nd rfl (Or.inl rfl) (pe_ix (ix_U (K := K)) (pe_lst (pa_cons (pe_tup (pa_cons pe_str (pa_cons (pv 7) (pa_cons (pe_tup (pa_cons pe_str pa_nil)) (pa_cons pe_int pa_nil))))) (pa_cons (pe_tup (pa_cons pe_str pa_nil)) (pa_cons (pe_tup (pa_cons pe_str (pa_cons (pe_tup (pa_cons pe_str pa_nil)) pa_nil))) (pa_cons (pe_tup (pa_cons pe_str (pa_cons (pe_op (op_addU (K := K)) pe_int (pe_callA D__law_draw hr pass0 (pa_cons (pv 0) (pa_cons pe_int pa_nil)))) pa_nil))) (pa_cons (pe_tup (pa_cons pe_str (pa_cons pe_int (pa_cons (pe_tup (pa_cons pe_str pa_nil)) (pa_cons pe_int pa_nil))))) pa_nil)))))) (pe_callA D__law_draw hr pass0 (pa_cons (pv 0) (pa_cons pe_int pa_nil))) (fun _ _ => rfl))) (pss_one (ps_ret (pe_tup (pa_cons pe_str (pa_cons (pv 2) (pa_cons (pv 3) (pa_cons (pv 5) (pa_cons (pv 8) pa_nil)))))))))) pss_nil) (pss_cons (ps_set (i := 9) sc__law_letter.nd rfl (Or.inl rfl) (pe_ix (ix_U (K := K)) (pe_dget (hu_of hr) (pv 1) pe_str (fun _ _ => rfl)) (pe_dget (hu_of hr) (pv 1) pe_str (fun _ _ => rfl)) (fun _ _ => rfl))) (pss_one (ps_ret (pe_tup (pa_cons pe_str (pa_cons (pv 2) (pa_cons (pv 3) (pa_cons (pv 5) (pa_cons (pe_op op_subU (pe_callB (cr_len (K := K)) rfl (T.free 2) PySem.boot_len (pa_cons (pe_dget (hu_of hr) (pv 1) pe_str (fun _ _ => rfl)) pa_nil)) (pe_callTy cr_int rfl (T.free 32) (by decide +kernel) (pa_cons (pe_cmpR (op_eqU (K := K) hr.units) (pe_callA D__law_draw hr pass0 (pa_cons (pv 0) (pa_cons pe_int pa_nil))) pe_int (nomark _)) pa_nil))) (pa_cons (pe_callA D__law_answer hr pass0 (pa_cons (pv 0) (pa_cons (pv 9) pa_nil))) pa_nil)))))))))))))))))))), ?_⟩
  obtain ⟨g, j, h1, h2, h3⟩ := D.dct
  have nt : t ≠ b := fun e => by
    obtain ⟨_, _, hb, _⟩ := B.ex
    rw [e, hb] at h1
    cases h1
  have on : s.num = s.num := rfl
  obtain ⟨j', ys, e1, hys, hjs⟩ := dt_tup h3
  injection e1 with e1
  subst e1
  have hyl : ys.length = s.jr.length := by rw [dta_len hjs, List.length_map]
  walk_at "st"
  refine c_cut (fun σ' H' => ∃ nu : Int, σ' = [some (.ref b), some (.ref t), some (.int nu), none, none, none, none, none, none, none] ∧ Kp [b] H H' ∧ Bx H' b d) ?_ ?_
  · walk_at "st"
    refine ⟨b, d, 12, rfl, B, by decide, fun n1 H1 n10 n11 e1 B1 => ?_⟩
    walk_at "st"
    refine c_ite (fun g1 => ?_) (fun g1 => ?_)
    · walk_at "st"
      exact ⟨_, rfl, e1, B1⟩
    · walk_at "st"
      exact ⟨_, rfl, e1, B1⟩
  rintro _ H1 ⟨nu, rfl, e1, B1⟩
  have h11 := e1.at1 nt h1
  walk_at "st"
  refine ⟨b, d, 12, rfl, B1, by decide, fun n2 H2 n20 n21 e2 B2 => ?_⟩
  have k2 := e1.trans e2
  have h12 := k2.at1 nt h1
  walk_at "st"
  refine c_intB ?_
  walk_at "st"
  generalize s.ser - (if decide (n2 = 0) = true then (1 : Int) else 0) = se
  walk_at "nw"
  intro p3 H3 N3
  walk_at "st"
  refine ⟨b, d, 3, rfl, B2.nw N3, by decide, fun n4 H4 n40 n41 e4 B4 => ?_⟩
  refine c_pick (xs := [optV s.ep, .int 1, .int 2]) (B2.pick N3 e4) n40 n41 fun v hv => ?_
  have k4 : Kp [b] H H4 := (k2.trans N3.kp).trans e4
  have h14 := k4.at1 nt h1
  obtain ⟨o, rfl, ho⟩ : ∃ o : Option Int, v = optV o ∧ ∀ e, o = some e → 0 ≤ e ∧ e ≤ 200 := by
    simp only [List.mem_cons, List.not_mem_nil, or_false] at hv
    rcases hv with rfl | rfl | rfl
    · exact ⟨s.ep, rfl, O.ep⟩
    · exact ⟨some 1, rfl, fun e h => by injection h with h; subst h; omega⟩
    · exact ⟨some 2, rfl, fun e h => by injection h with h; subst h; omega⟩
  walk_at "st"
  refine c_cut (fun σ' H' => ∃ e : Int, σ' = [some (.ref b), some (.ref t), some (.int nu), some (.int se), some (.int e), none, none, none, none, none] ∧ 0 ≤ e ∧ e ≤ 200 ∧ Kp [b] H H' ∧ Bx H' b d) ?_ ?_
  · cases o with
    | none =>
      walk_at "dc"
      refine ⟨b, d, 3, rfl, B4, by decide, fun n5 H5 n50 n51 e5 B5 => ?_⟩
      walk_at "st"
      exact ⟨_, rfl, by omega, by omega, k4.trans e5, B5⟩
    | some e =>
      walk_at "dc"
      exact ⟨e, rfl, (ho e rfl).1, (ho e rfl).2, k4, B4⟩
  rintro _ H5 ⟨e, rfl, he0, he1, k5, B5⟩
  have h15 := k5.at1 nt h1
  clear h11 h12 h14 e1 e2 e4 k2 k4 N3 B1 B2 B4 hv ho
  walk_at "st"
  refine ⟨b, d, 10, rfl, B5, by decide, fun n6 H6 n60 n61 e6 B6 => ?_⟩
  walk_at "st"
  refine c_intB ?_
  walk_at "st"
  generalize s.att - (if decide (n6 = 0) = true then (1 : Int) else 0) = at_
  refine ⟨b, d, 8, rfl, B6, by decide, fun kd H7 kd0 kd1 e7 B7 => ?_⟩
  have k7 : Kp [b] H H7 := (k5.trans e6).trans e7
  have h17 := k7.at1 nt h1
  have t7 : Kt H H7 := B.kt k7
  have hys7 := SqT.kt t7 hys
  clear h15 e6 e7 B5 B6 k5
  walk_at "st"
  refine c_cut (fun σ' H' => σ' = [some (.ref b), some (.ref t), some (.int nu), some (.int se), some (.int e), some (.int at_), some (.int kd), none, none, none] ∧ H7 = H') ?_ ?_
  · refine c_ifs (c_testK (fun _ H' => H' = H7) (fun R k => ?_) (fun c H8 hc => ?_))
    · walk_at "st"
      refine c_ite (fun g1 => ?_) (fun g1 => ?_)
      · exact k true _ rfl
      · walk_at "st"
        cases hz : s.ep with
        | none =>
          rw [hz] at h17
          walk_at "dc"
          exact k _ _ rfl
        | some e0 =>
          rw [hz] at h17
          walk_at "dc"
          exact k _ _ rfl
    · subst hc
      cases c with
      | true =>
        walk_at "dc"
        walk_at "nw"
        intro p H9 N9
        exact q p (.opened nu se e) H9 (k7.trans N9.kp) (B7.nw N9) (SqT.of N9.at_) ⟨he0, he1⟩
      | false =>
        walk_at "dc"
        exact ⟨rfl, rfl⟩
  rintro _ _ ⟨rfl, rfl⟩
  walk_at "st"
  refine c_ite (fun g1 => ?_) (fun g1 => ?_)
  · walk_at "st"
    walk_at "nw"
    intro p H9 N9
    exact q p (.lost nu se e) H9 (k7.trans N9.kp) (B7.nw N9) (SqT.of N9.at_) trivial
  walk_at "st"
  refine c_cut (fun σ' H' => σ' = [some (.ref b), some (.ref t), some (.int nu), some (.int se), some (.int e), some (.int at_), some (.int kd), none, none, none] ∧ H7 = H' ∧ ∃ rs, s.ag = some rs) ?_ ?_
  · refine c_ifs (c_testK (fun c H' => H' = H7 ∧ (c = false → ∃ rs, s.ag = some rs)) (fun R k => ?_) (fun c H8 hc => ?_))
    · walk_at "st"
      refine c_ite (fun g2 => ?_) (fun g2 => ?_)
      · exact k true _ ⟨rfl, fun z => nomatch z⟩
      · walk_at "st"
        cases ha : s.ag with
        | none =>
          rw [ha] at h2
          obtain rfl : g = .non := h2
          walk_at "dc"
          exact k true _ ⟨rfl, fun z => nomatch z⟩
        | some rs =>
          rw [ha] at h2
          have A := O.ag rs ha
          have h27 := Dt.kt t7 h2
          obtain ⟨ga, vs, rfl, hvs, hds, hvl⟩ := rows_at h27
          obtain ⟨r, hr⟩ : ∃ r, rs[s.row]? = some r := ⟨_, List.getElem?_eq_getElem A.in_⟩
          obtain ⟨u, hu1, hu2⟩ := row_at hds hr
          walk_at "dc"
          refine c_ixT hvs (atI_nat hu1) ?_
          walk_at "st"
          cases r with
          | fin w1 =>
            obtain ⟨pr, rfl, hpr⟩ := row_fin hu2
            walk_at "st"
            first | (refine c_ixT hpr rfl ?_; walk_at "st") | skip
            exact k _ _ ⟨rfl, fun _ => ⟨rs, ha⟩⟩
          | act w1 x cs o =>
            obtain ⟨pr, ax, ac, rfl, hpr, hax, hac⟩ := row_act hu2
            walk_at "st"
            first | (refine c_ixT hpr rfl ?_; walk_at "st") | skip
            exact k _ _ ⟨rfl, fun _ => ⟨rs, ha⟩⟩
    · obtain ⟨rfl, hc⟩ := hc
      cases c with
      | false =>
        walk_at "dc"
        exact ⟨rfl, rfl, hc rfl⟩
      | true =>
        have jl := O.jr.len
        walk_at "dc"
        first | (refine c_lenT hys7 ?_; walk_at "st") | skip
        rw [hyl]
        refine ⟨b, d, _, rfl, B7, by omega, fun n8 H9 n80 n81 e8 B8 => ?_⟩
        obtain ⟨ka, rfl⟩ := Int.eq_ofNat_of_zero_le n80
        walk_at "st"
        walk_at "nw"
        intro pa Ha Na
        walk_at "st"
        walk_at "nw"
        intro pb Hb Nb
        walk_at "st"
        walk_at "nw"
        intro pc Hc Nc
        walk_at "st"
        walk_at "nw"
        intro pd Hd Nd
        walk_at "st"
        walk_at "nw"
        intro pe He Ne
        have ra : ResAt K He pb (.refused ka (wordD "none") 3) := ⟨.ref pa, SqT.kp ((Nc.kp.trans Nd.kp).trans Ne.kp) (SqT.of Nb.at_), .tup (SqT.kp (((Nb.kp.trans Nc.kp).trans Nd.kp).trans Ne.kp) (SqT.of Na.at_)) (.cons (.str _) .nil)⟩
        have rc : ResAt K He pc .waiting := SqT.kp (Nd.kp.trans Ne.kp) (SqT.of Nc.at_)
        have re : ResAt K He pe (.failed (wordD "a")) := ⟨.ref pd, SqT.of Ne.at_, .tup (SqT.kp Ne.kp (SqT.of Nd.at_)) (.cons (.str _) .nil)⟩
        have Be := ((((B8.nw Na).nw Nb).nw Nc).nw Nd).nw Ne
        have ke : Kp [b] H He := (k7.trans e8).trans ((((Na.kp.trans Nb.kp).trans Nc.kp).trans Nd.kp).trans Ne.kp)
        clear Na Nb Nc Nd Ne e8 B8 h17 hys7
        walk_at "st"
        refine ⟨b, d, 9, rfl, Be, by decide, fun n9 Hf n90 n91 e9 Bf => ?_⟩
        have tf : Kt He Hf := Be.kt e9
        walk_at "st"
        walk_at "nw"
        intro pf Hg Ng
        walk_at "st"
        walk_at "nw"
        intro pg Hh Nh
        walk_at "st"
        walk_at "nw"
        intro ph Hi Ni
        have Bi := ((Bf.nw Ng).nw Nh).nw Ni
        have ti : Kt Hf Hi := ((Ng.kp.trans Nh.kp).trans Ni.kp : Kp [] Hf Hi).kt
        have rf : ResAt K Hi pf (.accepted (1 + n9)) := SqT.kp (Nh.kp.trans Ni.kp) (SqT.of Ng.at_)
        have rh : ResAt K Hi ph (.refused 0 (wordD "done") 1) := ⟨.ref pg, SqT.of Ni.at_, .tup (SqT.kp Ni.kp (SqT.of Nh.at_)) (.cons (.str _) .nil)⟩
        have ki : Kp [b] H Hi := (ke.trans e9).trans ((Ng.kp.trans Nh.kp).trans Ni.kp)
        walk_at "st"
        walk_at "nw"
        intro pl Hj Nj
        walk_at "st"
        refine ⟨b, d, 5, rfl, Bi.nw Nj, by decide, fun n10 Hk n100 n101 e10 Bk => ?_⟩
        refine c_pick (xs := [.ref pb, .ref pc, .ref pe, .ref pf, .ref ph]) (Bi.pick Nj e10) n100 n101 fun v hv => ?_
        have kk : Kp [b] Hi Hk := Nj.kp.trans e10
        have tk : Kt Hi Hk := Bi.kt kk
        have tke : Kt He Hk := (tf.trans ti).trans tk
        obtain ⟨pr, x, rfl, hx, okx⟩ : ∃ pr x, v = .ref pr ∧ ResAt K Hk pr x ∧ ResOk x := by
          simp only [List.mem_cons, List.not_mem_nil, or_false] at hv
          rcases hv with rfl | rfl | rfl | rfl | rfl
          · exact ⟨_, _, rfl, ra.kt tke, fit_w (by decide +kernel) (by decide)⟩
          · exact ⟨_, _, rfl, rc.kt tke, trivial⟩
          · exact ⟨_, _, rfl, re.kt tke, trivial⟩
          · exact ⟨_, _, rfl, rf.kt tk, by show 0 ≤ 1 + n9 ∧ 1 + n9 ≤ 200; omega⟩
          · exact ⟨_, _, rfl, rh.kt tk, fit_w (by decide +kernel) (by decide)⟩
        walk_at "st"
        walk_at "nw"
        intro p Hl Nl
        exact q p (.result nu se at_ x) Hl ((ki.trans kk).trans Nl.kp) (Bk.nw Nl) ⟨pr, SqT.of Nl.at_, hx.kt Nl.kp.kt⟩ okx
  rintro _ _ ⟨rfl, rfl, rs, ha⟩
  rw [ha] at h2
  have A := O.ag rs ha
  have h27 := Dt.kt t7 h2
  obtain ⟨ga, vs, rfl, hvs, hds, hvl⟩ := rows_at h27
  obtain ⟨r, hr⟩ : ∃ r, rs[s.row]? = some r := ⟨_, List.getElem?_eq_getElem A.in_⟩
  obtain ⟨u, hu1, hu2⟩ := row_at hds hr
  walk_at "st"
  refine c_ixT hvs (atI_nat hu1) ?_
  walk_at "st"
  first | (refine c_lenT hys7 ?_; walk_at "st") | skip
  rw [hyl]
  refine ⟨b, d, 8, rfl, B7, by decide, fun n8 H8 n80 n81 e8 B8 => ?_⟩
  walk_at "st"
  refine c_intB ?_
  walk_at "st"
  generalize (s.jr.length : Int) - (if decide (n8 = 0) = true then (1 : Int) else 0) = po
  refine ⟨b, d, u, r, rfl, B8, Dt.kt (B7.kt e8) hu2, fun v hv => ?_, fun v x cs o hv => ?_, fun v ans H9 k9 B9 hv hf => ?_⟩
  · subst hv
    have hw := A.rows.fin _ _ hr
    simpa using hw
  · subst hv
    obtain ⟨rfl, rok⟩ := A.rows.row _ _ _ _ _ hr
    exact ⟨rfl, fun c hc => ⟨rok.ans c hc, by have := rok.nxt c hc; have := A.few; omega⟩, rok.few⟩
  · walk_at "st"
    walk_at "nw"
    intro p Hl Nl
    exact q p (.answer nu se at_ po ans) Hl (((k7.trans e8).trans k9).trans Nl.kp) (B9.nw Nl) ⟨v, SqT.of Nl.at_, Dt.kp hv Nl.kp⟩ hf
theorem D__law_letter (T : TX K mg) : DefAt P w K mg base CX0 "_law_letter" 4 ["_law_box", "_law_desk"] (spLLetter K) :=
  def_of T 45 67 sc__law_letter bn__law_letter (by walk_at "len") (b__law_letter T)
end
end K61



namespace K61
open PySem L2 Sa
local macro_rules | `(tactic| walk_at "s1") => `(tactic| first | (with_reducible apply c_dgetK))
local macro_rules | `(tactic| walk_at "s1") => `(tactic| (with_reducible apply c_raiseO))
local macro_rules | `(tactic| walk_at "s1") => `(tactic| first | (with_reducible apply c_un) | (with_reducible apply c_negI))
local macro_rules | `(tactic| walk_at "s1") => `(tactic| first | ((with_reducible apply dm_g1); (· walk_at "lk")) | ((with_reducible apply dm_p1); (· walk_at "lk")) | ((with_reducible apply dm_g2); (· walk_at "lk")) | ((with_reducible apply dm_p2); (· walk_at "lk")) | ((with_reducible apply dm_g3); (· walk_at "lk")) | ((with_reducible apply dm_p3); (· walk_at "lk")) | ((with_reducible apply dm_g4); (· walk_at "lk")) | ((with_reducible apply dm_p4); (· walk_at "lk")) | ((with_reducible apply dm_g5); (· walk_at "lk")) | ((with_reducible apply dm_p5); (· walk_at "lk")) | ((with_reducible apply dm_g6); (· walk_at "lk")) | ((with_reducible apply dm_p6); (· walk_at "lk")) | ((with_reducible apply dm_g7); (· walk_at "lk")) | ((with_reducible apply dm_p7); (· walk_at "lk")) | ((with_reducible apply dm_g8); (· walk_at "lk")) | ((with_reducible apply dm_p8); (· walk_at "lk")) | ((with_reducible apply dm_g9); (· walk_at "lk")) | ((with_reducible apply dm_p9); (· walk_at "lk")))
set_option pp.maxSteps 1500
section
variable {K : PySem.W.Frag}
theorem c_newDesk {H1 : Hp} {n : Int} {Q : VK} {E : XK} (q : ∀ x l H', Kp [] H1 H' → DeskAt K H' x l (newDk n) → H1 l = none → H1 x = none → Q (.ref x) H') : NewK K "Desk" (spDkInit K) [.int n] H1 Q E := by
  intro x dx h1 h2 h3
  have k1 : Kp [] H1 (upd H1 dx (.own x)) := Kp.new h2
  have hx : upd H1 dx (.own x) x = none := by rw [upd_ne (Ne.symm h3)]; exact h1
  have k2 : Kp [] H1 (upd (upd H1 dx (.own x)) x (.ins (He.ga K "Desk") dx [])) := k1.trans (Kp.new hx)
  exact ⟨x, dx, n, rfl, upd_same, fun l H' e D hl => ⟨rfl, q x l H' (Kp.drop_fresh (k2.mono.trans e) h1) D (free0 k2 hl) h1⟩⟩
theorem kt_of {ms : List Addr} {H H' : Hp} (e : Kp ms H H') (n : ∀ a ∈ ms, NoT H a) : Kt H H' := fun a xs h => by
  by_cases hz : a ∈ ms
  · exact absurd h (n a hz xs)
  · exact rd_at (fun o ho => e a o hz ho) h
theorem FilesAt.kpm {ms : List Addr} {H H' : Hp} {f : Addr} {fs : List File} (h : FilesAt K H f fs) (e : Kp ms H H') (t : Kt H H') (n : f ∉ ms) : FilesAt K H' f fs := by
  obtain ⟨ls, h1, h2, h3⟩ := h.ex
  exact ⟨ls, e f _ n h1, fun r hr => SqT.kt t (h2 r hr), h3⟩
theorem Bx.kpm {ms : List Addr} {H H' : Hp} {b d : Addr} (B : Bx H b d) (e : Kp ms H H') (n1 : b ∉ ms) (n2 : d ∉ ms) : Bx H' b d := by
  obtain ⟨at_, ds, h1, h2, h3⟩ := B.ex
  exact ⟨at_, ds, e b _ n1 h1, e d _ n2 h2, h3⟩
structure W61 (K : PySem.W.Frag) (H : Hp) (b d t l pd m f : Addr) (fs : List File) (s1 s2 : Dk) : Prop where
  bx : Bx H b d
  fl : FilesAt K H f fs
  dk : DeskAt K H t l s1
  mp : MapAt K H pd m s2
  lb : l ≠ b
  ld : l ≠ d
  ml : m ≠ l
  mb : m ≠ b
  fp : f ≠ pd
variable {H H' : Hp} {b d t l pd m m' f : Addr} {fs : List File} {s1 s2 s' : Dk}
theorem W61.ha (W : W61 K H b d t l pd m f fs s1 s2) : ∃ x1 x2 x3 x4 x5 x6 x7, H b = some (.lst x1) ∧ H d = some (.lst x2) ∧ H t = some (.ins x3 x4 x5) ∧ H l = some (.lst x6) ∧ H pd = some (.dK x7) := by
  obtain ⟨_, _, h1, h2, _⟩ := W.bx.ex
  obtain ⟨_, _, _, h3, _⟩ := W.dk.ins
  obtain ⟨_, h4, _⟩ := W.dk.don.ex
  obtain ⟨_, _, h5, _⟩ := W.mp.dct
  exact ⟨_, _, _, _, _, _, _, h1, h2, h3, h4, h5⟩
theorem W61.hm (W : W61 K H b d t l pd m f fs s1 s2) : (∃ x, H m = some (.lst x)) ∧ ∃ x, H f = some (.dK x) := by
  obtain ⟨x, h1, _⟩ := W.mp.don.ex
  obtain ⟨ls, h2, _⟩ := W.fl.ex
  exact ⟨⟨x, h1⟩, ⟨_, h2⟩⟩
theorem W61.kp0 (W : W61 K H b d t l pd m f fs s1 s2) (e : Kp [] H H') : W61 K H' b d t l pd m f fs s1 s2 :=
  ⟨W.bx.kp0 e, W.fl.kp e, W.dk.kp0 e, W.mp.kp0 e, W.lb, W.ld, W.ml, W.mb, W.fp⟩
theorem W61.kb (W : W61 K H b d t l pd m f fs s1 s2) (e : Kp [b] H H') (B : Bx H' b d) : W61 K H' b d t l pd m f fs s1 s2 := by
  obtain ⟨x1, x2, x3, x4, x5, x6, x7, h1, h2, h3, h4, h5⟩ := W.ha
  have kt := W.bx.kt e
  have n1 : t ≠ b := fun z => by rw [z, h1] at h3; cases h3
  have n2 : pd ≠ b := fun z => by rw [z, h1] at h5; cases h5
  exact ⟨B, W.fl.kb W.bx e, W.dk.kp e kt (by simpa using n1) (by simpa using W.lb), W.mp.kp e kt (by simpa using n2) (by simpa using W.mb), W.lb, W.ld, W.ml, W.mb, W.fp⟩
theorem W61.desk (W : W61 K H b d t l pd m f fs s1 s2) (e : Kp [t, l] H H') (D : DeskAt K H' t l s') : W61 K H' b d t l pd m f fs s' s2 := by
  obtain ⟨x1, x2, x3, x4, x5, x6, x7, h1, h2, h3, h4, h5⟩ := W.ha
  obtain ⟨⟨y1, g1⟩, ⟨y2, g2⟩⟩ := W.hm
  have kt : Kt H H' := kt_of e (fun a ha => by
    simp only [List.mem_cons, List.not_mem_nil, or_false] at ha
    rcases ha with rfl | rfl
    · exact NoT.ins h3
    · exact NoT.lst h4)
  have n1 : b ≠ t := fun z => by rw [← z, h1] at h3; cases h3
  have n2 : d ≠ t := fun z => by rw [← z, h2] at h3; cases h3
  have n3 : f ≠ t := fun z => by rw [← z, g2] at h3; cases h3
  have n4 : f ≠ l := fun z => by rw [← z, g2] at h4; cases h4
  have n5 : pd ≠ t := fun z => by rw [← z, h5] at h3; cases h3
  have n6 : pd ≠ l := fun z => by rw [← z, h5] at h4; cases h4
  have n7 : m ≠ t := fun z => by rw [← z, g1] at h3; cases h3
  have n8 := W.lb.symm
  have n9 := W.ld.symm
  have n10 := W.ml
  exact ⟨Bx.kpm W.bx e (by simp [n1, n8]) (by simp [n2, n9]), FilesAt.kpm W.fl e kt (by simp [n3, n4]), D, W.mp.kp e kt (by simp [n5, n6]) (by simp [n7, n10]), W.lb, W.ld, W.ml, W.mb, W.fp⟩
theorem W61.map (W : W61 K H b d t l pd m f fs s1 s2) (e : Kp [pd] H H') (D : MapAt K H' pd m' s') (mv : Moved H m m') : W61 K H' b d t l pd m' f fs s1 s' := by
  obtain ⟨x1, x2, x3, x4, x5, x6, x7, h1, h2, h3, h4, h5⟩ := W.ha
  have kt : Kt H H' := kt_of e (fun a ha => by
    rw [List.mem_singleton.mp ha]
    exact NoT.dK h5)
  have n1 : b ≠ pd := fun z => by rw [← z, h1] at h5; cases h5
  have n2 : d ≠ pd := fun z => by rw [← z, h2] at h5; cases h5
  have n5 : t ≠ pd := fun z => by rw [z, h5] at h3; cases h3
  have n6 : l ≠ pd := fun z => by rw [z, h5] at h4; cases h4
  have m1 : m' ≠ l := by
    rcases mv with rfl | mv
    · exact W.ml
    · exact fun z => by rw [z, h4] at mv; cases mv
  have m2 : m' ≠ b := by
    rcases mv with rfl | mv
    · exact W.mb
    · exact fun z => by rw [z, h1] at mv; cases mv
  exact ⟨Bx.kpm W.bx e (by simpa using n1) (by simpa using n2), FilesAt.kpm W.fl e kt (by simpa using W.fp), W.dk.kp e kt (by simpa using n5) (by simpa using n6), D, W.lb, W.ld, m1, m2, W.fp⟩
end
theorem new_ok (n : Int) (h0 : 0 ≤ n) (h1 : n ≤ 2) : OkD 0 0 (newDk n) where
  num := ⟨h0, h1⟩
  ser := ⟨Int.le_refl _, by simp [newDk]⟩
  nm := ⟨by show okS "" = true; decide +kernel, by show ("" : Str).length ≤ 8; decide⟩
  ep := fun e h => by cases h
  att := ⟨Int.le_refl _, Int.le_refl _⟩
  jr := ⟨by simp [newDk], by simp [newDk]⟩
  ag := fun rs h => by cases h
  done := fun e h => by cases h
  pot := by simp [pot, newDk]
theorem name_okD {z : Str} (h : z ∈ (["ann", "bob", "x1"] : List Str)) : NameOk z ∧ isNameS z = true := by
  simp only [List.mem_cons, List.not_mem_nil, or_false] at h
  rcases h with rfl | rfl | rfl <;> exact ⟨⟨by decide +kernel, by decide⟩, by decide +kernel⟩
section
variable {P : Program} {w : World} {K : PySem.W.Frag} {mg : Str → Option Value} {base : Heap}
def spLaw (K : PySem.W.Frag) : Sp := fun vs H Q _ => ∃ (a : Addr) (ns : List Int), vs = [.ref a] ∧ SqL K H a (ns.map V.int) ∧ ∀ H', Q (.bl true) H'
theorem sc_law : FnScope ["_law_script", "_law_box", "_law_number", "_law_told", "_law_desk", "_law_files_here", "_law_turn", "_law_agent_here", "_law_name", "_law_letter_here"] ["_law_script"] (defScope s_law) := ⟨rfl, rfl, rfl, by decide +kernel, rfl, by decide +kernel, by decide +kernel⟩
theorem bn_law : BindN "law" s_law ["_law_script"] := fun _ _ _ _ _ _ us hl => match us, hl with | [_], _ => rfl
theorem b_law (T : TX K mg) : BodyG P w K mg base "law" s_law ["_law_script", "_law_box", "_law_number", "_law_told", "_law_desk", "_law_files_here", "_law_turn", "_law_agent_here", "_law_name", "_law_letter_here"] 10 (spLaw K) := by
  intro cdv A outer s H vs Q E h X hr hg
  obtain ⟨a, ns, rfl, hs, q⟩ := h
  have C_Desk := C_Desk T; have D__law_agent := D__law_agent (P := P) (w := w) (base := base) T; have D__law_alike := D__law_alike (P := P) (w := w) (base := base) T; have D__law_begin := D__law_begin (P := P) (w := w) (base := base) T; have D__law_digits := D__law_digits (P := P) (w := w) (base := base) T; have D__law_draw := D__law_draw (P := P) (w := w) (base := base) T; have D__law_files := D__law_files (P := P) (w := w) (base := base) T; have D__law_heard := D__law_heard (P := P) (w := w) (base := base) T; have D__law_letter := D__law_letter (P := P) (w := w) (base := base) T; have D__law_started := D__law_started (P := P) (w := w) (base := base) T; have D__law_wanted := D__law_wanted (P := P) (w := w) (base := base) T; have M_Desk___init__ := M_Desk___init__ (P := P) (w := w) (base := base) T; have M_Desk_done := M_Desk_done (P := P) (w := w) (base := base) T; have M_Desk_hear := M_Desk_hear (P := P) (w := w) (base := base) T; have M_Desk_is_at_work := M_Desk_is_at_work (P := P) (w := w) (base := base) T; have M_Desk_journal := M_Desk_journal (P := P) (w := w) (base := base) T; have M_Desk_wanted := M_Desk_wanted (P := P) (w := w) (base := base) T; have Mk_Desk := Mk_Desk T
  refine ⟨_, (pss_cons (ps_set (i := 1) sc_law.nd rfl (Or.inl rfl) (pe_lst (pa_cons (pe_callA D__law_digits hr pass0 (pa_cons (pv 0) (pa_cons pe_int (pa_cons pe_int pa_nil)))) (pa_cons pe_int pa_nil)))) (pss_cons (ps_set (i := 2) sc_law.nd rfl (Or.inl rfl) (pe_callA D__law_draw hr pass0 (pa_cons (pv 1) (pa_cons pe_int pa_nil)))) (pss_cons (ps_set (i := 3) sc_law.nd rfl (Or.inl rfl) (pe_newS M_Desk___init__ Mk_Desk C_Desk hr at0 (pa_cons (pv 2) pa_nil))) (pss_cons (ps_set (i := 4) sc_law.nd rfl (Or.inl rfl) (pe_disp (pps_cons pe_str (pv 2) (pps_cons pe_str (pe_un un_neg pe_int) (pps_cons pe_str pe_str (pps_cons pe_str pe_non (pps_cons pe_str pe_non (pps_cons pe_str pe_int (pps_cons pe_str (pe_tup pa_nil) (pps_cons pe_str pe_int (pps_cons pe_str (pe_lst pa_nil) pps_nil))))))))) rfl rfl (List.cons_ne_nil _ _) (Nat.le_of_ble_eq_true rfl))) (pss_cons (ps_set (i := 5) sc_law.nd rfl (Or.inl rfl) (pe_callA D__law_files hr pass0 (pa_cons (pv 1) (pa_cons pe_int pa_nil)))) (pss_cons (ps_if (PW.pt (pw_or (pt_cmpR op_isNotU (pe_methS0 M_Desk_wanted C_Desk hr at0 (pv 3)) pe_non (nomark _)) (pw_or (pt_cmpR (op_neU (K := K) hr.units) (pe_methS0 M_Desk_journal C_Desk hr at0 (pv 3)) (pe_tup pa_nil) (nomark _)) (pw_or1 (pt_cmpR op_isNotBl (pe_methS1 M_Desk_hear C_Desk hr at0 (pv 3) (pa_cons (pe_tup (pa_cons pe_str (pa_cons (pv 2) (pa_cons pe_int (pa_cons pe_int pa_nil))))) pa_nil)) pe_bl (nomark _)))))) (pss_one (ps_ret pe_bl)) pss_nil) (pss_cons (ps_for PassesOwn.never rfl (pi_range1 rfl (T.free 31) (pa_cons (pe_callB (cr_min2 rfl) rfl (T.free 56) (by decide +kernel) (pa_cons (pe_callB (cr_max2 rfl) rfl (T.free 72) (by decide +kernel) (pa_cons pe_int (pa_cons (pe_op op_subU (pe_callB (cr_len (K := K)) rfl (T.free 2) PySem.boot_len (pa_cons (pv 0) pa_nil)) pe_int) pa_nil))) (pa_cons pe_int pa_nil))) pa_nil)) (pg_name (i := 6) sc_law.nd rfl (Or.inl rfl)) (Evl.pss_cut (ps_if (PW.pt (pw_or (pt_cmpR (op_eqU (K := K) hr.units) (pe_callA D__law_draw hr pass0 (pa_cons (pv 1) (pa_cons pe_int pa_nil))) pe_int (nomark _)) (pw_or1 (pt_cmpR op_isU (pe_dget (hu_of hr) (pv 4) pe_str (fun _ _ => rfl)) pe_non (nomark _))))) (pss_cons (ps_set (i := 7) sc_law.nd rfl (Or.inl rfl) (pe_callA D__law_agent hr pass0 (pa_cons (pv 1) (pa_cons (pv 5) (pa_cons pe_int pa_nil))))) (pss_cons (ps_set (i := 8) sc_law.nd rfl (Or.inl rfl) (pe_ix (ix_U (K := K)) (pe_lst (pa_cons pe_str (pa_cons pe_str (pa_cons pe_str pa_nil)))) (pe_callA D__law_draw hr pass0 (pa_cons (pv 1) (pa_cons pe_int pa_nil))) (fun _ _ => rfl))) (pss_one (ps_if (pt_cmpR op_isNotU (pe_dget (hu_of hr) (pv 4) pe_str (fun _ _ => rfl)) pe_non (nomark _)) (pss_one (ps_if (pt_cmpR (op_neU (K := K) hr.units) (pe_callA D__law_started hr pass0 (pa_cons (pv 3) (pa_cons pe_str (pa_cons (pe_tup pa_nil) pa_nil)))) (pe_tup (pa_cons pe_str (pa_cons pe_bl pa_nil))) (nomark _)) (pss_one (ps_ret pe_bl)) pss_nil)) (pss_cons (ps_if (PW.pt (pw_or (pt_cmpR (op_neU (K := K) hr.units) (pe_callA D__law_started hr pass0 (pa_cons (pv 3) (pa_cons pe_str (pa_cons (pv 7) pa_nil)))) (pe_tup (pa_cons pe_str (pa_cons pe_str pa_nil))) (nomark _)) (pw_or1 (pt_cmpR (op_neU (K := K) hr.units) (pe_callA D__law_started hr pass0 (pa_cons (pv 3) (pa_cons (pv 8) (pa_cons (pe_tup pa_nil) pa_nil)))) (pe_tup (pa_cons pe_str (pa_cons pe_str pa_nil))) (nomark _))))) (pss_one (ps_ret pe_bl)) pss_nil) (pss_cons (ps_dput (hu_of hr) (pv 4) pe_str (pv 8) rfl) (pss_cons (ps_dput (hu_of hr) (pv 4) pe_str (pv 7) rfl) (pss_cons (ps_expr (pe_callA D__law_begin hr pass0 (pa_cons (pv 4) pa_nil))) (pss_one (ps_if (pt_not (pt_tru (K := K) (pe_callG D__law_alike hr hg (pa_cons (pe_callA D__law_started hr pass0 (pa_cons (pv 3) (pa_cons (pv 8) (pa_cons (pv 7) pa_nil)))) (pa_cons (pe_dget (hu_of hr) (pv 4) pe_str (fun _ _ => rfl)) pa_nil))))) (pss_one (ps_ret pe_bl)) pss_nil)))))))))) pss_nil) (pss_cons (ps_set (i := 9) sc_law.nd rfl (Or.inl rfl) (pe_callA D__law_letter hr pass0 (pa_cons (pv 1) (pa_cons (pv 4) pa_nil)))) (pss_cons (ps_if (PW.pt (pw_or (pt_not (pt_tru (K := K) (pe_callG D__law_alike hr hg (pa_cons (pe_methS1 M_Desk_hear C_Desk hr at0 (pv 3) (pa_cons (pv 9) pa_nil)) (pa_cons (pe_callA D__law_heard hr pass0 (pa_cons (pv 4) (pa_cons (pv 9) pa_nil))) pa_nil))))) (pw_or1 (pt_not (pt_tru (K := K) (pe_callG D__law_alike hr hg (pa_cons (pe_methS0 M_Desk_wanted C_Desk hr at0 (pv 3)) (pa_cons (pe_callA D__law_wanted hr pass0 (pa_cons (pv 4) pa_nil)) pa_nil)))))))) (pss_one (ps_ret pe_bl)) pss_nil) (pss_cons (ps_if (PW.pt (pw_or (pt_not (pt_tru (K := K) (pe_callG D__law_alike hr hg (pa_cons (pe_methS0 M_Desk_journal C_Desk hr at0 (pv 3)) (pa_cons (pe_dget (hu_of hr) (pv 4) pe_str (fun _ _ => rfl)) pa_nil))))) (pw_or1 (pt_not (pt_tru (K := K) (pe_callG D__law_alike hr hg (pa_cons (pe_methS0 M_Desk_done C_Desk hr at0 (pv 3)) (pa_cons (pe_dget (hu_of hr) (pv 4) pe_str (fun _ _ => rfl)) pa_nil)))))))) (pss_one (ps_ret pe_bl)) pss_nil) (pss_one (ps_if (pt_not (pt_tru (K := K) (pe_callG D__law_alike hr hg (pa_cons (pe_methS0 M_Desk_is_at_work C_Desk hr at0 (pv 3)) (pa_cons (pe_cmpR op_isNotU (pe_dget (hu_of hr) (pv 4) pe_str (fun _ _ => rfl)) pe_non (nomark _)) pa_nil))))) (pss_one (ps_ret pe_bl)) pss_nil))))))) (pss_one (ps_ret pe_bl))))))))), ?_⟩
  walk_at "st"
  refine ⟨a, ns, rfl, hs, fun d ds hd => ?_⟩
  walk_at "st"
  walk_at "nw"
  intro b H1 N1
  have B1 : Bx H1 b d := ⟨0, ds, N1.at_, N1.keep upd_same, by decide⟩
  walk_at "st"
  refine ⟨b, d, 3, rfl, B1, by decide, fun num H2 num0 num1 e2 B2 => ?_⟩
  walk_at "st"
  refine c_newDesk fun t l H3 e3 D3 fl ft => ?_
  have B3 := B2.kp0 e3
  have nl : l ≠ b ∧ l ≠ d := B2.ne_new fl
  have fb := free0 (Kp.new hd) N1.fr
  have K2 : Kp [] H H2 := Kp.drop_fresh (((Kp.new hd).trans N1.kp).trans e2) fb
  have K3 := K2.trans e3
  have flH := free0 K2 fl
  have ftH := free0 K2 ft
  clear e2 B2 B1 N1 hd
  walk_at "st"
  refine c_disp fun pd hpd => ?_
  have kd : Kp [] H3 (upd H3 pd (.dK [])) := Kp.new hpd
  have fpd := free0 K3 hpd
  have K4 := K3.trans kd
  have D4 := D3.kp0 kd
  have B4 := B3.kp0 kd
  have h4 : (upd H3 pd (.dK [])) pd = some (.dK []) := upd_same
  have ne4 : ∀ {o}, (upd H3 pd (.dK [])) l = some o → pd ≠ l := fun {o} h z => by
    obtain ⟨_, hl, _⟩ := D3.don.ex
    rw [← z, hpd] at hl
    cases hl
  generalize upd H3 pd (.dK []) = H4 at *
  walk_at "st"
  walk_at "nw"
  intro j H5 N5
  walk_at "st"
  walk_at "nw"
  intro m H6 N6
  walk_at "st"
  have k46 : Kp [] H4 H6 := N5.kp.trans N6.kp
  refine ⟨k46.at0 h4, dmD (.int num) (.int (-1)) (.str "") .non .non (.int 0) (.ref j) (.int 0) (.ref m), rfl, by show 9 ≤ 15; decide, ?_⟩
  rw [dm_mk]
  have mp6 : MapAt K (upd H6 pd (.dK (dmD (.int num) (.int (-1)) (.str "") .non .non (.int 0) (.ref j) (.int 0) (.ref m)))) pd m (newDk num) :=
    map_put (s := newDk num) (k46.at0 h4) (g := .non) rfl (.tup (SqT.kp N6.kp (SqT.of N5.at_)) .nil) ⟨[], N6.at_, .nil⟩ rfl
  have k7 : Kp [pd] H4 (upd H6 pd (.dK (dmD (.int num) (.int (-1)) (.str "") .non .non (.int 0) (.ref j) (.int 0) (.ref m)))) := k46.mono.trans (Kp.mut (by simp))
  have K7 := Kp.drop_fresh (K4.mono.trans k7) fpd
  have t7 : Kt H4 (upd H6 pd (.dK (dmD (.int num) (.int (-1)) (.str "") .non .non (.int 0) (.ref j) (.int 0) (.ref m)))) := kt_of k7 (fun a ha => by rw [List.mem_singleton.mp ha]; exact NoT.dK h4)
  obtain ⟨dx, g0, j0, hin, _⟩ := D4.ins
  obtain ⟨ws0, hws0, _⟩ := D4.don.ex
  obtain ⟨bat, bds, hb4, hd4, _⟩ := B4.ex
  have n1 : t ≠ pd := fun z => by rw [z, h4] at hin; cases hin
  have n2 : l ≠ pd := fun z => by rw [z, h4] at hws0; cases hws0
  have n3 : b ≠ pd := fun z => by rw [z, h4] at hb4; cases hb4
  have n4 : d ≠ pd := fun z => by rw [z, h4] at hd4; cases hd4
  have ml : m ≠ l := fun z => by have f := N6.fr; rw [z, N5.keep hws0] at f; cases f
  have mb : m ≠ b := fun z => by have f := N6.fr; rw [z, N5.keep hb4] at f; cases f
  have D7 := D4.kp k7 t7 (by simpa using n1) (by simpa using n2)
  have B7 := Bx.kpm B4 k7 (by simpa using n3) (by simpa using n4)
  generalize upd H6 pd (.dK (dmD (.int num) (.int (-1)) (.str "") .non .non (.int 0) (.ref j) (.int 0) (.ref m))) = H7 at *
  clear N5 N6 k46 k7 t7 hin hws0 hb4 hd4 D4 B4 h4 ne4 D3 B3 kd hpd e3 ft
  walk_at "st"
  refine ⟨b, d, 6, rfl, B7, by decide, by decide, fun f fs H8 G hfl F8 e8 B8 hfn => ?_⟩
  have K8 := Kp.drop_fresh (K7.mono.trans e8) fb
  have hpd7 : ∃ o, H7 pd = some o := by obtain ⟨_, _, h, _⟩ := mp6.dct; exact ⟨_, h⟩
  have fp : f ≠ pd := fun z => by obtain ⟨o, h⟩ := hpd7; rw [z, h] at hfn; cases hfn
  have t8 := B7.kt e8
  obtain ⟨dx, g0, j0, hin, _⟩ := D7.ins
  obtain ⟨g1, j1, hdc, _⟩ := mp6.dct
  obtain ⟨bat, bds, hb7, _⟩ := B7.ex
  have nt : t ≠ b := fun z => by rw [z, hb7] at hin; cases hin
  have np : pd ≠ b := fun z => by rw [z, hb7] at hdc; cases hdc
  have W8 : W61 K H8 b d t l pd m f fs (newDk num) (newDk num) := ⟨B8, F8, D7.kp e8 t8 (by simpa using nt) (by simpa using nl.1), mp6.kp e8 t8 (by simpa using np) (by simpa using mb), nl.1, nl.2, ml, mb, fp⟩
  have O8 := new_ok num num0 (by omega)
  clear hin hdc hb7 nt np t8 hpd7 hfn e8 B8 F8 B7 D7 mp6 fl nl n1 n2 n3 n4 ml mb fp
  walk_at "st"
  obtain ⟨dx, g0, j0, hin, _⟩ := W8.dk.ins
  first | (refine dk_r hin (by decide +kernel) ?_; walk_at "st") | skip
  refine ⟨t, l, newDk num, _, _, rfl, W8.dk, O8, fun v9 H9 e9 hv9 => ?_⟩
  obtain rfl := dt_none hv9
  have W9 := W8.kp0 e9
  have hin9 := e9.at0 hin
  walk_at "dc"
  first | (refine dk_r hin9 (by decide +kernel) ?_; walk_at "st") | skip
  refine ⟨t, l, newDk num, rfl, W9.dk, fun j9 hj9 => ?_⟩
  walk_at "st"
  walk_at "nw"
  intro p10 H10 N10
  refine c_neSame (d := .tuple []) (Dt.kp hj9 N10.kp).dp (Dt.tup (SqT.of N10.at_) .nil).dp (by decide +kernel) ?_
  have W10 := W9.kp0 (N10.kp (ms := []))
  have hin10 := N10.keep hin9
  walk_at "dc"
  first | (refine dk_r hin10 (by decide +kernel) ?_; walk_at "st") | skip
  walk_at "nw"
  intro p11 H11 N11
  have W11 := W10.kp0 (N11.kp (ms := []))
  walk_at "st"
  refine ⟨t, l, p11, newDk num, _, _, .opened num 0 1, rfl, W11.dk, O8, by omega, SqT.of N11.at_, ⟨by omega, by omega⟩, fun H12 k12 D12 => ?_⟩
  have K11 : Kp [] H H11 := ((K8.trans e9).trans N10.kp).trans N11.kp
  have K12 := Kp.drop_fresh (Kp.drop_fresh (K11.mono.trans k12) ftH) flH
  have hs12 := SqL.kp K12 hs
  have W12 := W11.desk k12 D12
  have W12 : W61 K H12 b d t l pd m f fs (newDk num) (newDk num) := W12
  clear W8 W9 W10 W11 N10 N11 hin hin9 hin10 k12 D12 hj9 hv9 e9
  walk_at "st"
  refine c_isNotBl ?_
  walk_at "dc"
  first | (refine c_lenL hs12 ?_; walk_at "st") | skip
  rw [List.length_map]
  first | refine c_r1F (by omega) ?_ | skip
  refine forQ (itn_r (lo := 0)) (fun i σ H' => ∃ m s v6 v7 v8 v9, σ = [some (.ref a), some (.ref b), some (.int num), some (.ref t), some (.ref pd), some (.ref f), v6, v7, v8, v9] ∧ W61 K H' b d t l pd m f fs s s ∧ OkD i (2 * i) s) ⟨m, newDk num, _, _, _, _, rfl, W12, O8⟩ (fun _ _ _ _ => trivial) ?_ ?_
  rotate_left
  · rintro σ H13 ⟨m, s, v6, v7, v8, v9, rfl, W, O⟩
    walk_at "st"
    exact q _
  clear W12
  rintro i y σ H13 H13' hi ⟨m, s, v6, v7, v8, v9, rfl, W, O⟩ ⟨rfl, rfl⟩
  have hi40 : i < 40 := by omega
  walk_at "st"
  refine c_cut (fun σ' H' => ∃ s' v7 v8, σ' = [some (.ref a), some (.ref b), some (.int num), some (.ref t), some (.ref pd), some (.ref f), some (.int (0 + (i : Int))), v7, v8, v9] ∧ W61 K H' b d t l pd m f fs s' s' ∧ OkD i (2 * i + 1) s') ?_ ?_
  · refine c_ifs (c_testK (fun c H' => W61 K H' b d t l pd m f fs s s) (fun R k => ?_) (fun c H14 W14 => ?_))
    · walk_at "st"
      refine ⟨b, d, 6, rfl, W.bx, by decide, fun n14 H14 n140 n141 e14 B14 => ?_⟩
      have W14 := W.kb e14 B14
      obtain ⟨g1, j1, hdc, hag, _⟩ := W14.mp.dct
      walk_at "st"
      refine c_ite (fun g1 => ?_) (fun g1 => ?_)
      · exact k true _ W14
      · walk_at "st"
        exact k _ _ W14
    · cases c with
      | false =>
        walk_at "dc"
        exact ⟨s, _, _, rfl, W14, O.mono (Nat.le_refl _) (by omega)⟩
      | true =>
        walk_at "dc"
        refine ⟨b, d, f, fs, 6, rfl, W14.bx, W14.fl, G, by decide, by decide, fun g rs H15 R RD hlast e15 B15 hg hrl => ?_⟩
        have W15 := W14.kb e15 B15
        walk_at "st"
        walk_at "nw"
        intro p16 H16 N16
        have W16 := W15.kp0 (N16.kp (ms := []))
        walk_at "st"
        refine ⟨b, d, 3, rfl, W16.bx, by decide, fun n17 H17 n170 n171 e17 B17 => ?_⟩
        have W17 := W16.kb e17 B17
        have hg17 := Dt.kt (N16.kp.kt.trans (W16.bx.kt e17)) hg
        refine c_pickM (u := V.str) ["ann", "bob", "x1"] (W15.bx.pick N16 e17) n170 n171 fun nm hnm => ?_
        obtain ⟨nok, ngood⟩ := name_okD hnm
        obtain ⟨g1, j1, hdc, hag, hj1⟩ := W17.mp.dct
        obtain ⟨dx, g0, j0, hin, hag0, _⟩ := W17.dk.ins
        have good := agent_good R RD ⟨_, hlast⟩
        have saneZ := rows_saneZ R
        clear N16 e17 e15 W16 W15 hg
        walk_at "st"
        cases ha : s.ag with
        | some rs0 =>
          have hz : s.ag.isSome = true := by rw [ha]; rfl
          rw [ha] at hag
          obtain ⟨ga, _, rfl, _, _⟩ := dt_tup hag
          walk_at "dc"
          walk_at "nw"
          intro p18 H18 N18
          have W18 := W17.kp0 (N18.kp (ms := []))
          walk_at "st"
          refine ⟨t, l, p18, s, "A", [], [], rfl, W18.dk, by decide, .tup (SqT.of N18.at_) .nil, by simp, by simp, fun _ => rfl, fun _ p19 H19 e19 hp19 => ?_, fun z => by (rw [hz] at z; cases z), fun z => by (rw [hz] at z; cases z), fun z => by (rw [hz] at z; cases z)⟩
          have W19 := W18.kp0 e19
          walk_at "st"
          walk_at "nw"
          intro p20 H20 N20
          refine c_neSame (d := .tuple [.str "refused", .bool true]) (Dt.tup (SqT.kp N20.kp hp19) (.cons (.str _) (.cons (.bl true) .nil))).dp (Dt.tup (SqT.of N20.at_) (.cons (.str _) (.cons (.bl true) .nil))).dp (by decide +kernel) ?_
          walk_at "dc"
          exact ⟨s, _, _, rfl, W19.kp0 (N20.kp (ms := [])), O.mono (Nat.le_refl _) (by omega)⟩
        | none =>
          have hz : s.ag.isSome = false := by rw [ha]; rfl
          have no : s.ag.isSome = true → False := fun z => by rw [hz] at z; cases z
          rw [ha] at hag
          obtain rfl : g1 = .non := hag
          have hgz : Dt K H17 (.ref g) (agZ (rs.map Row.z)) := by rw [ag_z]; exact hg17
          have rl : (rs.map Row.z).length ≤ 60 := by rw [List.length_map]; omega
          walk_at "dc"
          refine ⟨t, l, g, s, "", rs.map Row.z, rs, rfl, W17.dk, by decide, hgz, rl, saneZ, fun _ => rfl, fun z => (no z).elim, fun _ _ p19 H19 e19 hp19 => ?_, fun _ z => absurd z (by decide +kernel), fun _ z => absurd z (by decide +kernel)⟩
          have W19 := W17.kp0 e19
          walk_at "st"
          walk_at "nw"
          intro p20 H20 N20
          refine c_neSame (d := .tuple [.str "refused", .str "name"]) (Dt.tup (SqT.kp N20.kp hp19) (.cons (.str _) (.cons (.str _) .nil))).dp (Dt.tup (SqT.of N20.at_) (.cons (.str _) (.cons (.str _) .nil))).dp (by decide +kernel) ?_
          have W20 := W19.kp0 (N20.kp (ms := []))
          walk_at "dc"
          walk_at "nw"
          intro p21 H21 N21
          have W21 := W20.kp0 (N21.kp (ms := []))
          walk_at "st"
          refine ⟨t, l, p21, s, nm, [], [], rfl, W21.dk, by have := nok.len; omega, .tup (SqT.of N21.at_) .nil, by simp, by simp, fun _ => rfl, fun z => (no z).elim, fun _ z => by (rw [ngood] at z; cases z), fun _ _ _ p22 H22 e22 hp22 => ?_, fun _ _ z => by (cases z)⟩
          have W22 := W21.kp0 e22
          walk_at "st"
          walk_at "nw"
          intro p23 H23 N23
          refine c_neSame (d := .tuple [.str "refused", .str "agent"]) (Dt.tup (SqT.kp N23.kp hp22) (.cons (.str _) (.cons (.str _) .nil))).dp (Dt.tup (SqT.of N23.at_) (.cons (.str _) (.cons (.str _) .nil))).dp (by decide +kernel) ?_
          have W23 := W22.kp0 (N23.kp (ms := []))
          have k1723 : Kp [] H17 H23 := ((((e19.trans N20.kp).trans N21.kp).trans e22).trans N23.kp)
          have hdc23 := k1723.at0 hdc
          have hgz23 := Dt.kp hgz k1723
          have hg23 := Dt.kp hg17 k1723
          clear W22 W21 W20 W19 W17 N20 N21 N23 e19 e22 hp19 hp22 k1723 hdc hin hgz hg17
          walk_at "dc"
          simp only [upd_upd]
          have mp24 : MapAt K (upd H23 pd (.dK (dmD (.int s.num) (.int s.ser) (.str nm) (.ref g) (optV s.ep) (.int s.att) (.ref j1) (.int (s.row : Nat)) (.ref m)))) pd m { s with nm := nm, ag := some rs } := by
            obtain ⟨g2, j2, h2a, _, h2c⟩ := W23.mp.dct
            rw [h2a] at hdc23
            injection hdc23 with hdc23
            injection hdc23 with hdc23
            have ej : V.ref j2 = V.ref j1 := by
              have e1 : valV (dmD (V.int s.num) (V.int s.ser) (V.str s.nm) g2 (optV s.ep) (V.int s.att) (V.ref j2) (V.int (s.row : Nat)) (V.ref m)) (Sum.inr "journal") = some (V.ref j2) := dm_get7
              rw [hdc23, dm_get7] at e1
              injection e1 with e1
              exact e1.symm
            injection ej with ej
            subst ej
            exact map_put (s := { s with nm := nm, ag := some rs }) h2a (g := .ref g) hg23 h2c W23.mp.don rfl
          have W24 := W23.map (Kp.mut (ms := [pd]) (o := .dK (dmD (.int s.num) (.int s.ser) (.str nm) (.ref g) (optV s.ep) (.int s.att) (.ref j1) (.int (s.row : Nat)) (.ref m))) (by simp)) mp24 (.inl rfl)
          have t24 : Kt H23 (upd H23 pd (.dK (dmD (.int s.num) (.int s.ser) (.str nm) (.ref g) (optV s.ep) (.int s.att) (.ref j1) (.int (s.row : Nat)) (.ref m)))) := Kt.upd1 (NoT.dK hdc23)
          have hgz24 := Dt.kt t24 hgz23
          generalize upd H23 pd (.dK (dmD (.int s.num) (.int s.ser) (.str nm) (.ref g) (optV s.ep) (.int s.att) (.ref j1) (.int (s.row : Nat)) (.ref m))) = H24 at *
          clear mp24 t24 W23 hdc23 hgz23 hg23 hj1
          refine ⟨pd, m, { s with nm := nm, ag := some rs }, rfl, W24.mp, fun H25 k25 mp25 => ?_⟩
          have W25 := W24.map k25 mp25 (.inl rfl)
          have pt : NoT H24 pd := by obtain ⟨_, _, h, _⟩ := W24.mp.dct; exact NoT.dK h
          have hgz25 := Dt.kt (k25.kt1 pt) hgz24
          have O25 := begin_ok O R (by omega) nm nok
          walk_at "st"
          refine ⟨t, l, g, s, nm, rs.map Row.z, rs, rfl, W25.dk, by have := nok.len; omega, hgz25, rl, saneZ, fun _ => rfl, fun z => (no z).elim, fun _ z => by (rw [ngood] at z; cases z), fun _ _ z => by (rw [good] at z; cases z), fun _ _ _ H26 k26 D26 => ?_⟩
          have W26 := W25.desk (Kp.more k26) D26
          obtain ⟨g3, j3, hdc26, _⟩ := W26.mp.dct
          walk_at "st"
          have ns : Nice (.int (s.ser + 1)) := (fit_int (by have := O.ser; omega) (by have := O.ser; omega)).nice (by decide) (by decide)
          refine ⟨_, _, .int (s.ser + 1), rfl, .int _, .int _, ns, ?_⟩
          walk_at "dc"
          exact ⟨_, _, _, rfl, W26, O25⟩
  rintro _ H14 ⟨s', v7, v8, rfl, W14, O14⟩
  clear W O
  walk_at "st"
  refine ⟨b, d, pd, m, s', _, _, rfl, W14.bx, W14.mp, O14, fun p L H15 e15 B15 hL okL => ?_⟩
  have W15 := W14.kb e15 B15
  obtain ⟨dx, g0, j0, hin, _⟩ := W15.dk.ins
  walk_at "st"
  first | (refine dk_r hin (by decide +kernel) ?_; walk_at "st") | skip
  refine ⟨t, l, p, s', _, _, L, rfl, W15.dk, O14, by omega, hL, okL, fun H16 k16 D16 => ?_⟩
  have W16 := W15.desk k16 D16
  have tl : Kt H15 H16 := kt_of k16 (fun x hx => by
    obtain ⟨x1, x2, x3, x4, x5, x6, x7, h1, h2, h3, h4, h5⟩ := W15.ha
    simp only [List.mem_cons, List.not_mem_nil, or_false] at hx
    rcases hx with rfl | rfl
    · exact NoT.ins h3
    · exact NoT.lst h4)
  walk_at "st"
  refine ⟨pd, m, p, s', _, _, L, rfl, W16.mp, O14, by omega, hL.kt tl, okL, fun m' H17 k17 mp17 mv => ?_⟩
  have W17 := W16.map k17 mp17 mv
  have O17 := heard_ok O14 okL (by omega)
  generalize (heardS s' L).1 = hb at *
  generalize (heardS s' L).2 = s'' at *
  clear W16 W15 W14 k16 D16 k17 mp17 mv tl hL e15 B15 hin O14
  walk_at "st"
  refine ⟨_, _, .bool hb, rfl, .bl _, .bl _, (Fit.bool hb).nice (by decide) (by decide), ?_⟩
  obtain ⟨dx, g0, j0, hin, _⟩ := W17.dk.ins
  walk_at "dc"
  first | (refine dk_r hin (by decide +kernel) ?_; walk_at "st") | skip
  refine ⟨t, l, s'', _, _, rfl, W17.dk, O17, fun v18 H18 e18 hv18 => ?_⟩
  have W18 := W17.kp0 e18
  walk_at "st"
  refine ⟨pd, m', s'', _, _, rfl, W18.mp, O17, fun v19 H19 e19 hv19 => ?_⟩
  have W19 := W18.kp0 e19
  walk_at "st"
  refine ⟨_, _, _, rfl, (Dt.kp hv18 e19).dp, hv19.dp, nice_want O17 (by omega) (by omega), ?_⟩
  have hin19 := (e18.trans e19).at0 hin
  clear hv18 hv19 W17 W18
  walk_at "dc"
  first | (refine dk_r hin19 (by decide +kernel) ?_; walk_at "st") | skip
  refine ⟨t, l, s'', rfl, W19.dk, fun j20 hj20 => ?_⟩
  obtain ⟨g1, j1, hdc, hag, hj1⟩ := W19.mp.dct
  walk_at "st"
  refine ⟨_, _, _, rfl, hj20.dp, hj1.dp, nice_jour O17, ?_⟩
  walk_at "dc"
  first | (refine dk_r hin19 (by decide +kernel) ?_; walk_at "st") | skip
  refine ⟨t, l, s'', rfl, W19.dk, fun p21 H21 e21 hp21 => ?_⟩
  have W21 := W19.kp0 e21
  have hdc21 := e21.at0 hdc
  walk_at "st"
  refine ⟨_, _, _, rfl, hp21, W21.mp.don.dp, nice_done O17 (by omega), ?_⟩
  have hin21 := e21.at0 hin19
  walk_at "dc"
  first | (refine dk_r hin21 (by decide +kernel) ?_; walk_at "st") | skip
  refine ⟨t, l, s'', rfl, W21.dk, ?_⟩
  walk_at "st"
  have eb : (!decide (g1 = V.non)) = s''.ag.isSome := by
    cases hz : s''.ag with
    | none =>
      rw [hz] at hag
      obtain rfl : g1 = .non := hag
      rfl
    | some rs =>
      rw [hz] at hag
      obtain ⟨ga, _, rfl, _, _⟩ := dt_tup hag
      rfl
  rw [eb]
  refine ⟨_, _, .bool s''.ag.isSome, rfl, .bl _, .bl _, (Fit.bool _).nice (by decide) (by decide), ?_⟩
  walk_at "dc"
  exact ⟨m', s'', _, _, _, _, rfl, W21, O17.mono (Nat.le_refl _) (by omega)⟩
theorem D_law (T : TX K mg) : DefG P w K mg base "law" 11 ["_law_script"] (spLaw K) :=
  defG_of T 47 74 sc_law bn_law (by walk_at "len") (b_law T)
end
end K61



namespace K61
open PySem L2 Sa
theorem atEnd {P : Program} {w : World} {K : PySem.W.Frag} {h : Heap} {mg : Str → Option Value} {f : Addr} (KX : K.In h) (G : h.Ns mainGlobals mg) (hf : mg "law" = some (.ref f)) (c : He.SaysD fa fn K) (cx : exs fx K = true) :
    ∃ fd : FuncData, (∀ (s : Shared) (v : Value), BindsTo s fd ⟨[v], []⟩ [("_law_script", v)]) ∧ ∀ base : Heap, K.In base → base.Ns mainGlobals mg → FnG P w K mg base CX0 11 f fd ["_law_script"] (spLaw K) :=
  lawG_of KX G c hf 47 74 sc_law bn_law (fun vs H Q E z => by obtain ⟨a, ns, rfl, _⟩ := z; rfl) fun base => b_law ⟨h, KX, G, c, cx⟩
end K61
open PySem PySem.W PySem.Calls PyProof.Rows
set_option maxRecDepth 100000 in
set_option maxHeartbeats 0 in
theorem PySem.Challenge.cw_sameanswers_k61_desks_want_and_hear_holds : PySem.Challenge.rw_sameanswers_k61_desks_want_and_hear.Holds := by
  w_on; o_law
  refine HandSHeadRun.head_any (r := OpenLaw.row PySem.Challenge.rw_sameanswers_k61_desks_want_and_hear) (q := K61.qv) (H := K61.hk) (ob := K61.ob) (M := 4000) (loose := K61.loose) (d := HandSHeadRun.topDef (OpenLaw.row PySem.Challenge.rw_sameanswers_k61_desks_want_and_hear).prog 69) (kwd := []) K61.ob_eq
    (by kernel_rfl) (fun s => by kernel_rfl) K61.run (by kernel_rfl) (by kernel_rfl) (by kernel_rfl) (by rfl) (by first | assumption | decide +kernel) (by decide +kernel) ⟨rfl, rfl, rfl, rfl, rfl, by decide +kernel⟩ ?hw ?hc
  case hw => w_witness2
  case hc =>
    refine Sa.law_end (l := PySem.Challenge.rw_sameanswers_k61_desks_want_and_hear) (n := 63) (k := 11) (x := "_law_script") rfl (by decide) (by kernel_rfl) ⟨rfl, by decide, by decide⟩ ?F
    intro w mg fa h Y G hmg0
    obtain ⟨K, KX, c⟩ := Y
    have cd := c.t.d
    have cx := c.more
    have hmg : mg ("law" : PySem.Str) = some (.ref fa) := by
      have e : (HandSHeadRun.topDef (OpenLaw.row PySem.Challenge.rw_sameanswers_k61_desks_want_and_hear).prog 69).name = ("law" : PySem.Str) := by kernel_rfl
      rw [← e]
      exact hmg0
    obtain ⟨fd, hb, hF⟩ := K61.atEnd (P := (PySem.Challenge.rw_sameanswers_k61_desks_want_and_hear).prog) (w := w) KX G hmg cd cx
    exact ⟨K, fd, K61.spLaw K, KX, hb, fun H a ns hS => ⟨a, ns, rfl, hS, fun _ => rfl⟩, hF⟩
#print axioms PySem.Challenge.cw_sameanswers_k61_desks_want_and_hear_holds



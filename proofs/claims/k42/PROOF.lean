import PyProof.Rows.All
import Wide.All
import OpenK.AllK
import Wide.FinOn
import HandS.ForMost
import HandS.ForExc
import HandS.Evl
import HandS.TupAny
import HandS.TupMul
import HandS.TryMany
import HandS.ExcField
import HandS.ExcInit
import HandS.Zip
import HandS.DictComp
import HandS.Defaults
import HandS.More
import HandS.SetKeys
import HandS.Deep
import HandS.Codes
import HandS.HeadHook2
import HandS.HeadHook4
import HandS.HeadEnd
import HandS.Head2
import KE.KIsAll
import KE.KEqSeq
import PyProof.StrLawsChain
import PyProof.StrLawsTight
import PyProof.StrLawsAffix
import HandS.IsInst
import KE.BitLaws
import HandS.ExcIs
import HandS.Strs
import PyProof.Rows.StrMeet
import KE.GoesEnum
import KE.GoesMore
import HandS.Walk
import HandS.Style
import HandS.ExcOwn
import PySem.Challenge.RW_sameanswers_k42_cut_on_schedule
set_option Elab.async false
set_option linter.all false
set_option maxRecDepth 100000
set_option maxHeartbeats 4000000
namespace Sa
open PySem PySem.Spec PyProof.Rows L2

/-! ## operators whatever the operands are -/
section
variable {X : Cx}
def orR (r r' : R2) : R2 := fun x y H Q => r x y H Q ∨ r' x y H Q
def rAddS : R2 := fun x y H Q => ∃ i j, x = .str i ∧ y = .str j ∧ i.length + j.length ≤ sizeLine ∧ Q (.str (i ++ j)) H
def rAddU (K : PySem.W.Frag) : R2 := orR (rI0 fun i j => .int (i + j)) (orR rAddS (orR rCat (rCatA K)))
theorem op_addU {K : PySem.W.Frag} (hK : X.K = K := by rfl) : OpR X (binaryOp .Add) (rAddU K) := hK ▸ op_add.or (op_add_str.or (op_cat.or op_catA))
/-- a text n times -/
def rptS (z : Str) (n : Int) : Str := ⟨(List.replicate n.toNat z.cps.toList).flatten.toArray⟩
theorem foldl_cps (a : Array Nat) : ∀ (m : Nat) (b : Array Nat), (List.replicate m a).foldl (fun x y => x ++ y) b = (b.toList ++ (List.replicate m a.toList).flatten).toArray
  | 0, b => by simp
  | m + 1, b => by
    rw [List.replicate_succ, List.foldl_cons, foldl_cps a m (b ++ a), List.replicate_succ, List.flatten_cons, Array.toList_append, List.append_assoc]
def rMulS : R2 := fun x y H Q => ∃ (z : Str) (n : Int), x = .str z ∧ y = .int n ∧ -(2 ^ 63) ≤ n ∧ n < 2 ^ 63 ∧ z.length * n.toNat ≤ sizeLine ∧ Q (.str (rptS z n)) H
theorem rptS_len (z : Str) (n : Int) : (rptS z n).length = z.length * n.toNat := by
  show ((List.replicate n.toNat z.cps.toList).flatten.toArray).size = z.cps.size * n.toNat
  rw [List.size_toArray, List.length_flatten, List.map_replicate, List.sum_replicate_nat, Array.length_toList, Nat.mul_comm]
theorem rptS_one {z : Str} : rptS z 1 = z := by
  show Str.mk _ = z
  cases z
  simp [rptS]
theorem op_mulS : OpR X (binaryOp .Mult) rMulS := by
  intro pins s σ H x y v u Q I rx ry h
  obtain ⟨z, n, rfl, rfl, h1, h2, hl, q⟩ := h
  obtain ⟨t, rfl⟩ := rx
  obtain ⟨t', rfl⟩ := ry
  have fin : ∀ t tk, EP X pins σ Q (.str (rptS z n) t) { s with toks := tk } := fun t tk => ⟨.str (rptS z n), H, I.tok _, ⟨_, rfl⟩, q⟩
  have e63 : (2 : Int) ^ 63 = 9223372036854775808 := by decide
  rw [e63] at h1 h2
  refine PySem.P.mul_str (by rw [e63, decide_eq_false (by omega), decide_eq_false (by omega)]; rfl) (fun hn hz hgt => ?_) (fun _ _ => decide_eq_false (by omega)) ?_
  · rw [sizeLine_eq] at hl
    have hz1 : n ≠ 1 ∧ z.length ≠ 0 := by simpa using hz
    have e : ((z.length * n.toNat : Nat) : Int) = (z.length : Int) * n := by rw [Int.natCast_mul]; congr 1; omega
    have g : (z.length : Int) ≤ 9223372036854775807 / n := (Int.le_ediv_iff_mul_le (by omega)).mpr (by omega)
    rw [e63] at hgt
    have g2 : (9223372036854775808 - 1 : Int) / n = 9223372036854775807 / n := rfl
    omega
  · by_cases hn : n < 1
    · rw [if_pos hn]
      refine ⟨by decide, ?_⟩
      have e : rptS z n = Str.empty := by
        have : n.toNat = 0 := by omega
        unfold rptS
        rw [this]
        rfl
      rw [← e]
      exact fin _ _
    · rw [if_neg hn]
      by_cases h : (n == 1 || z.length == 0) = true
      · rw [if_pos h]
        have e : rptS z n = z := by
          rcases Bool.or_eq_true _ _ |>.mp h with h | h
          · rw [eq_of_beq h, rptS_one]
          · have hl0 : z.cps = #[] := Array.size_eq_zero_iff.mp (eq_of_beq h)
            have hz : z = ⟨#[]⟩ := by cases z; simp_all
            subst hz
            simp [rptS]
        have f := fin t s.toks
        rw [e] at f
        exact f
      · rw [if_neg h]
        have e : (⟨(List.replicate n.toNat z.cps).foldl (· ++ ·) #[]⟩ : Str) = rptS z n := by
          rw [foldl_cps]
          simp [rptS]
        rw [e]
        exact ⟨by rw [rptS_len]; exact hl, fin _ _⟩
def rMulU (K : PySem.W.Frag) : R2 := orR (rI CMul fun i j => .int (i * j)) (orR rRep (orR (rRepT K) rMulS))
theorem op_mulU {K : PySem.W.Frag} (hK : X.K = K := by rfl) : OpR X (binaryOp .Mult) (rMulU K) := hK ▸ op_mul.or (op_rep.or (op_repT.or op_mulS))
def rSubU : R2 := rI0 fun i j => .int (i - j)
theorem op_subU : OpR X (binaryOp .Sub) rSubU := op_sub
def rDivU : R2 := rI CDiv fun i j => .int (i / j)
theorem op_divU : OpR X (binaryOp .FloorDiv) rDivU := op_fdiv
def rModU : R2 := rI (fun _ j => 0 < j) fun i j => .int (i % j)
theorem op_modU : OpR X (binaryOp .Mod) rModU := op_mod
def rBandU : R2 := rI0 fun i j => .int (Builtin.bitAnd i j)
theorem op_bandU : OpR X (binaryOp .BitAnd) rBandU := op_and
def rOrdS (p : List Nat → List Nat → Bool) : R2 := fun x y H Q => ∃ i j, x = .str i ∧ y = .str j ∧ Q (.bl (p i.cps.toList j.cps.toList)) H
def rLtU : R2 := orR (rI0 fun i j => .bl (decide (i < j))) (rOrdS fun a b => decide (a < b))
def rLeU : R2 := orR (rI0 fun i j => .bl (decide (i ≤ j))) (rOrdS fun a b => !decide (b < a))
def rGtU : R2 := orR (rI0 fun i j => .bl (decide (j < i))) (rOrdS fun a b => decide (b < a))
def rGeU : R2 := orR (rI0 fun i j => .bl (decide (j ≤ i))) (rOrdS fun a b => !decide (a < b))
theorem op_ltU : OpR X (compareOp .Lt) rLtU := op_lt.or op_lt_str
theorem op_leU : OpR X (compareOp .LtE) rLeU := op_le.or op_le_str
theorem op_gtU : OpR X (compareOp .Gt) rGtU := op_gt.or op_gt_str
theorem op_geU : OpR X (compareOp .GtE) rGeU := op_ge.or op_ge_str
def rEqU (K : PySem.W.Frag) : R2 := orR rEq (rEqD K)
def rNeU (K : PySem.W.Frag) : R2 := orR rNe (rNeD K)
theorem op_eqU {K : PySem.W.Frag} {A : Around} (hu : A.units + 64 < cLine) (hA : X.A = A := by rfl) (hK : X.K = K := by rfl) : OpR X (compareOp .Eq) (rEqU K) := hK ▸ op_eq.or (op_eqD (by rw [hA]; exact hu))
theorem op_neU {K : PySem.W.Frag} {A : Around} (hu : A.units + 64 < cLine) (hA : X.A = A := by rfl) (hK : X.K = K := by rfl) : OpR X (compareOp .NotEq) (rNeU K) := hK ▸ op_ne.or (op_neD (by rw [hA]; exact hu))
def rIsU : R2 := fun x y H Q => y = .non ∧ Q (.bl (decide (x = .non))) H
def rIsNotU : R2 := fun x y H Q => y = .non ∧ Q (.bl (!decide (x = .non))) H
theorem op_isU : OpR X (compareOp .Is) rIsU := op_isN
theorem op_isNotU : OpR X (compareOp .IsNot) rIsNotU := op_notN
def rInC : R2 := fun x y H Q => ∃ (c : Nat) (z : Str), x = .str ⟨#[c]⟩ ∧ y = .str z ∧ Q (.bl (decide (c ∈ z.cps.toList))) H
def rInT : R2 := fun x y H Q => ∃ i j, x = .str i ∧ y = .str j ∧ Q (.bl (!(Builtin.Str.occurrences j i 0 j.length 1).isEmpty)) H
def rNotInC : R2 := fun x y H Q => ∃ (c : Nat) (z : Str), x = .str ⟨#[c]⟩ ∧ y = .str z ∧ Q (.bl (!decide (c ∈ z.cps.toList))) H
def rNotInT : R2 := fun x y H Q => ∃ i j, x = .str i ∧ y = .str j ∧ Q (.bl (!(!(Builtin.Str.occurrences j i 0 j.length 1).isEmpty))) H
def rInU (K : PySem.W.Frag) : R2 := orR rInC (orR rInT (rIn K false))
def rNotInU (K : PySem.W.Frag) : R2 := orR rNotInC (orR rNotInT (rIn K true))
theorem op_inU {K : PySem.W.Frag} (hK : X.K = K := by rfl) : OpR X (compareOp .In) (rInU K) := hK ▸ op_in_sign.or (op_in_str.or op_in_seq)
theorem op_notInU {K : PySem.W.Frag} (hK : X.K = K := by rfl) : OpR X (compareOp .NotIn) (rNotInU K) := hK ▸ op_notIn_sign.or (op_notin_str.or op_notIn_seq)
def rSlU (K : PySem.W.Frag) : V → Option Int → Option Int → Hp → VK → Prop := fun x lo hi H Q => rSlL K x lo hi H Q ∨ rSlS x lo hi H Q ∨ rSlA K x lo hi H Q
theorem ix_U {K : PySem.W.Frag} (hK : X.K = K := by rfl) : IxR X (rIx K) := hK ▸ ix_seq
theorem sl_U {K : PySem.W.Frag} (hK : X.K = K := by rfl) : SlR X (rSlU K) := hK ▸ L2.SlR.or sl_list (L2.SlR.or sl_str sl_tupA)
/-! any of whole numbers -/
def rAnyI (K : PySem.W.Frag) : List V → Hp → VK → Prop := fun vs H Q => ∃ (a : Addr) (ns : List Int), vs = [V.ref a] ∧ SqL K H a (ns.map V.int) ∧ Q (.bl (ns.any (· != 0))) H
theorem any_rangeI : ∀ ns : List Int, ((List.range ns.length).any fun i => ns.getD i 0 != 0) = ns.any (· != 0)
  | [] => rfl
  | n :: ns => by
    have ih := any_rangeI ns
    rw [List.length_cons, List.range_succ_eq_map, List.any_cons, List.any_map, List.any_cons, ← ih]
    rfl
theorem cr_anyI (hc : X.calm = true) : CallR X (.builtin "any") (rAnyI X.K) := by
  intro pins s σ H vs us Q I r h
  obtain ⟨a, ns, rfl, hs, q⟩ := h
  obtain ⟨its, rv, hl, _⟩ := I.list hs
  have hi := rv.ints
  have hlen : its.length = ns.length := by rw [← rv.length, List.length_map]
  rw [Vals.ref1 r]
  refine call_any_walk (iter_any hl.isList fun s₂ e2 st hne => ?_)
  cases e2
  refine ⟨_, _, _, _, _, _, fun i => ns.getD i 0 != 0, rfl, Walks.list (A := X.A.in1) (I.ok.hd hc) _ a hne its.toArray, st, fun i v s Q E hv hq => ?_, fun h' tk hk => ?_⟩
  · have hv' : its[i]? = some v := by simpa using hv
    obtain ⟨n, hn⟩ : ∃ n, ns[i]? = some n := by
      have hlt := (List.getElem?_eq_some_iff.mp hv').1
      exact ⟨ns[i]'(by omega), List.getElem?_eq_getElem (by omega)⟩
    obtain ⟨u, hu, ru⟩ := rv.get (i := i) (x := V.int n) (by rw [List.getElem?_map, hn]; rfl)
    rw [hv'] at hu
    cases hu
    obtain ⟨t, rfl⟩ := ru
    have e : ns.getD i 0 = n := by rw [List.getD_eq_getElem?_getD, hn]; rfl
    have hq' : Q (ns.getD i 0 != 0) s := hq
    rw [e] at hq'
    exact truthy_int hq'
  · refine ⟨.bl _, H, I.kept fun b o eo => hk b o (fun hmem => ?_) (Heap.get?_push_of_some _ eo), ?_, q⟩
    · rcases List.mem_cons.mp hmem with e1 | hmem
      · exact absurd (e1 ▸ Heap.lt_size eo) (Nat.lt_irrefl _)
      · cases hmem
    · show Value.bool _ = Value.bool _
      rw [List.size_toArray, hlen, any_rangeI]
def rAnyU (K : PySem.W.Frag) : List V → Hp → VK → Prop := fun vs H Q => rAny K vs H Q ∨ rAnyI K vs H Q
theorem CallR.or2 {f : Value} {r r' : List V → Hp → VK → Prop} (h : CallR X f r) (h' : CallR X f r') : CallR X f (fun vs H Q => r vs H Q ∨ r' vs H Q) := by
  intro pins s σ H vs us Q I rr q
  exact q.elim (fun q => h pins s σ H vs us Q I rr q) (fun q => h' pins s σ H vs us Q I rr q)
theorem cr_anyU {K : PySem.W.Frag} (hc : X.calm = true) (hK : X.K = K := by rfl) : CallR X (.builtin "any") (rAnyU K) := hK ▸ CallR.or2 (cr_any hc) (cr_anyI hc)
end
end Sa

namespace Sa
open PySem L2

/-! ## the text's facts -/
def dOf (x : Str) (st : Stmt) : He.DefD := ⟨(x, none), x, x, defArgs st, defBody st, defScope st, [], []⟩
/-- further facts of classes: an error class with an __init__ of its own, whose fields are read -/
inductive Fx where
  | oex (x : Str)
  | xf (x : Str)
  | cst (x : Str) (d : PyData)
  | cstA (p : PySem.W.Frag → Addr) (d : PyData)
  | exi (x : Str)
  | kit (x y : Str) (b : Bool)
/-! what is written in the top as data -/
mutual
def cstB (K : PySem.W.Frag) : PyData → Value → Bool
  | .none, v => decide (v = .none)
  | .bool b, v => decide (v = .bool b)
  | .int i, v => (match v with
    | .int j _ => decide (i = j)
    | _ => false)
  | .str x, v => (match v with
    | .str y _ => decide (x = y)
    | _ => false)
  | .list _, _ => false
  | .tuple ds, v => (match v with
    | .ref a => (match K.lookup a with
      | some ⟨.type t, _, .seq its _, _⟩ => decide (t = "tuple") && (decide (its.size ≤ sizeLine) && cstAll K ds its.toList)
      | _ => false)
    | _ => false)
  | .dict _, _ => false
def cstAll (K : PySem.W.Frag) : List PyData → List Value → Bool
  | [], [] => true
  | d :: ds, v :: vs => cstB K d v && cstAll K ds vs
  | [], _ :: _ => false
  | _ :: _, [] => false
end
mutual
theorem cstB_ok {K : PySem.W.Frag} : ∀ (d : PyData) (v : Value), cstB K d v = true → ∃ x, RelV x v ∧ ∀ H, Dp K H x d
  | .none, v, h => by
    unfold cstB at h
    cases of_decide_eq_true h
    exact ⟨.non, rfl, fun H => .non⟩
  | .bool b, v, h => by
    unfold cstB at h
    cases of_decide_eq_true h
    exact ⟨.bl b, rfl, fun H => .bl b⟩
  | .int i, v, h => by
    unfold cstB at h
    split at h
    · rename_i j t
      cases of_decide_eq_true h
      exact ⟨.int i, ⟨t, rfl⟩, fun H => .int i⟩
    · cases h
  | .str x, v, h => by
    unfold cstB at h
    split at h
    · rename_i y t
      cases of_decide_eq_true h
      exact ⟨.str x, ⟨t, rfl⟩, fun H => .str x⟩
    · cases h
  | .list _, v, h => by unfold cstB at h; cases h
  | .dict _, v, h => by unfold cstB at h; cases h
  | .tuple ds, v, h => by
    unfold cstB at h
    split at h
    · rename_i a
      split at h
      · rename_i t dd its n sl hk
        simp only [Bool.and_eq_true, decide_eq_true_eq] at h
        obtain ⟨rfl, hz, ha⟩ := h
        obtain ⟨xs, r, hx⟩ := cstAll_ok ds its.toList ha
        exact ⟨.ref a, rfl, fun H => .tup (.inr ⟨_, its, n, hk, rfl, rfl, hz, r⟩) (hx H)⟩
      · cases h
    · cases h
theorem cstAll_ok {K : PySem.W.Frag} : ∀ (ds : List PyData) (vs : List Value), cstAll K ds vs = true → ∃ xs, Vals xs vs ∧ ∀ H, DpAll K H xs ds
  | [], [], _ => ⟨[], .nil, fun H => .nil⟩
  | d :: ds, v :: vs, h => by
    unfold cstAll at h
    rw [Bool.and_eq_true] at h
    obtain ⟨x, r1, h1⟩ := cstB_ok d v h.1
    obtain ⟨xs, r2, h2⟩ := cstAll_ok ds vs h.2
    exact ⟨x :: xs, .cons r1 r2, fun H => .cons (h1 H) (h2 H)⟩
  | [], _ :: _, h => by unfold cstAll at h; cases h
  | _ :: _, [], h => by unfold cstAll at h; cases h
end
theorem cst_ref {K : PySem.W.Frag} {d : PyData} {a : Addr} (h : cstB K d (.ref a) = true) (H : Hp) : Dp K H (.ref a) d := by
  obtain ⟨x, r, hx⟩ := cstB_ok d _ h
  cases x <;> first | (cases r; done) | (obtain ⟨_, r⟩ := r; cases r; done) | (injection r with r; subst r; exact hx H)
def oexB (K : PySem.W.Frag) (C : Addr) : Bool :=
  (match K.lookup C with
  | some ⟨.type t, _, .cls cd, sl⟩ => (match cd.mro, sl.toList with
    | .ref D :: bm, [_, _, _, _, some (.builtin n), _] => decide (t = "type") && (decide (D = C) && (decide (n = "ValueError.__new__") && (!cd.hasDel && (cd.hasDict && PySem.HandSPX.refsVE bm))))
    | _, _ => false)
  | _ => false) && (decide (PySem.W.findIn K (.ref C) "__setattr__" = some (some (.builtin "object.__setattr__"))) && (decide (PySem.W.subIn K (.ref C) (.type "BaseException") = some true) &&
    (decide (PySem.W.typeIn K (.ref C) = some (.type "type")) && PySem.W.keepIn K (.ref C))))
theorem oexB_ok {K : PySem.W.Frag} {C : Addr} (h : oexB K C = true) : OexC K C := by
  unfold oexB at h
  rw [Bool.and_eq_true] at h
  obtain ⟨h1, h2⟩ := h
  simp only [Bool.and_eq_true, decide_eq_true_eq] at h2
  obtain ⟨h3, h4, h5, h6⟩ := h2
  refine ⟨?_, h3, h4, h5, h6⟩
  cases q : K.lookup C with
  | none => rw [q] at h1; cases h1
  | some o =>
    rw [q] at h1
    obtain ⟨oc, dd, dt, sl⟩ := o
    cases oc <;> try (cases h1; done)
    cases dt <;> try (cases h1; done)
    rename_i t cd
    obtain ⟨nm, bs, mro, ns, qn, hd, sn, sub, ab, col, dl⟩ := cd
    obtain ⟨l⟩ := sl
    dsimp only at h1
    split at h1
    · rename_i m1 l1 D bm k0 k1 k2 k3 n k5
      simp only [Bool.and_eq_true, decide_eq_true_eq, Bool.not_eq_true'] at h1
      obtain ⟨rfl, rfl, rfl, hdel, rfl, hr⟩ := h1
      subst hdel
      exact ⟨nm, qn, ns, bs, bm, sn, sub, ab, col, dd, k0, k1, k2, k3, k5, rfl, hr⟩
    · cases h1
/-- what isinstance asks of an error's class -/
def exiB (K : PySem.W.Frag) (D : Addr) : Bool :=
  decide (PySem.W.findIn K (.ref D) "__getattribute__" = some (some (.builtin "BaseException.__getattribute__"))) && (decide (PySem.W.findIn K (.ref D) "__getattr__" = some none) &&
  (decide (PySem.W.subIn K (.ref D) (.type "BaseException") = some true) && (PySem.W.hasDictIn K D && (decide (PySem.W.findIn K (.ref D) "__class__" = some (some (.builtin "object.__class__"))) &&
  (decide (PySem.W.specialIn K (.builtin "object.__class__") "__get__" = some (some (.builtin "getset_descriptor.__get__"))) && (decide (PySem.W.takesIn K (.builtin "object.__class__") = some true) && decide (PySem.W.mroIn K D (.type "object") = some true)))))))
def Fx.ok (K : PySem.W.Frag) : Fx → Bool
  | .oex x => oexB K (He.ga K x)
  | .xf x => xfB K (He.ga K x)
  | .cst x d => cstB K d (.ref (He.ga K x))
  | .cstA p d => cstB K d (.ref (p K))
  | .exi x => exiB K (He.ga K x)
  | .kit x y b => decide (PySem.W.kitOne K (.ref (He.ga K x)) (.ref (He.ga K y)) = some b)
def exs (fx : List Fx) (K : PySem.W.Frag) : Bool := fx.all fun f => f.ok K
def Tx (fa : List He.Fa) (fn : List He.DefD) (fx : List Fx) (K : PySem.W.Frag) (mg : Str → Option Value) : Prop := ∃ h : Heap, K.In h ∧ h.Ns mainGlobals mg ∧ He.SaysD fa fn K ∧ exs fx K = true
section
variable {fa : List He.Fa} {fn : List He.DefD} {fx : List Fx} {K : PySem.W.Frag} {mg : Str → Option Value}
theorem Tx.free (T : Tx fa fn fx K mg) (i : Nat) {x : Str} (h : fa[i]? = some (.free x) := by rfl) : mg x = none := by
  obtain ⟨hp, X, G, c, _⟩ := T
  exact He.free_ok X G (c.fact i h)
theorem Tx.glo (T : Tx fa fn fx K mg) (i : Nat) {x : Str} (h : fa[i]? = some (.glo x) := by rfl) : mg x = some (.ref (He.ga K x)) := by
  obtain ⟨hp, X, G, c, _⟩ := T
  exact He.glo_ok X G (c.fact i h)
theorem Tx.int (T : Tx fa fn fx K mg) (i : Nat) {x : Str} {n : Int} (h : fa[i]? = some (.int x n) := by rfl) : ∃ t, mg x = some (.int n t) := by
  obtain ⟨hp, X, G, c, _⟩ := T
  exact He.int_ok X G (c.fact i h)
theorem Tx.str (T : Tx fa fn fx K mg) (i : Nat) {x z : Str} (h : fa[i]? = some (.str x z) := by rfl) : ∃ t, mg x = some (.str z t) := by
  obtain ⟨hp, X, G, c, _⟩ := T
  exact He.str_ok X G (c.fact i h)
end
theorem Tx.fact {fa : List He.Fa} {fn : List He.DefD} {fx : List Fx} {K : PySem.W.Frag} {mg : Str → Option Value} (T : Tx fa fn fx K mg) (i : Nat) {f : He.Fa} (h : fa[i]? = some f := by rfl) : f.ok K = true := by
  obtain ⟨hp, X, G, c, _⟩ := T
  exact c.fact i h
theorem Tx.fx {fa : List He.Fa} {fn : List He.DefD} {fx : List Fx} {K : PySem.W.Frag} {mg : Str → Option Value} (T : Tx fa fn fx K mg) (i : Nat) {f : Fx} (h : fx[i]? = some f := by rfl) : f.ok K = true := by
  obtain ⟨hp, X, G, c, e⟩ := T
  exact List.all_eq_true.mp e f (List.mem_of_getElem? h)
/-- a def that stands under the module's name x and keeps sp -/
structure DefAt (P : Program) (w : World) (K : PySem.W.Frag) (mg : Str → Option Value) (base : Heap) (CX : CXT) (x : Str) (k : Nat) (ps : List Str) (sp : Sp) : Prop where
  gl : mg x = some (.ref (He.ga K x))
  kp : PySem.W.keepIn K (.ref (He.ga K x)) = true
  ok : ∃ fd, FnOk P w K mg base CX k (He.ga K x) fd ps sp ∧ Binds K fd ps []
/-- how a def without defaults binds its parameters -/
def BindN (x : Str) (st : Stmt) (ps : List Str) : Prop := ∀ (kV doc pm : Value) (an : Option Addr) (cdv ct : Value) (us : List Value), us.length = ps.length →
  bindArgs (PySem.W.fnOf x x (defArgs st) (defBody st) (defScope st) .none kV doc pm an cdv ct) ⟨us, []⟩ = pure (ps.zip us)
section
variable {fa : List He.Fa} {fn : List He.DefD} {fx : List Fx} {P : Program} {w : World} {K : PySem.W.Frag} {mg : Str → Option Value} {base : Heap}
/-- what a body owes -/
def Body (P : Program) (w : World) (K : PySem.W.Frag) (mg : Str → Option Value) (base : Heap) (x : Str) (st : Stmt) (N : List Str) (k : Nat) (sp : Sp) : Prop :=
  ∀ (cdv : Value) (A : Around) (outer : List Env) (s : Shared) (H : Hp) (vs : List V) (Q : VK) (E : XK), sp vs H Q E → let X : Cx := (cxOf CX0 P w K mg base N x (defScope st) (He.ga K x) cdv A outer s H E).nox
    Room k X.A → ∃ t, PSs X (defBody st) t ∧ t { nx := fun _ H' => Q .non H', rt := Q } (start N vs) H
theorem def_of (T : Tx fa fn fx K mg) (i j : Nat) {x : Str} {st : Stmt} {N ps : List Str} {k : Nat} {sp : Sp} (S : FnScope N ps (defScope st)) (B : BindN x st ps) (len : ∀ vs H Q E, sp vs H Q E → vs.length = ps.length)
    (body : Body P w K mg base x st N k sp) (hd : fn[i]? = some (dOf x st) := by rfl) (hg : fa[j]? = some (.glo x) := by rfl) : DefAt P w K mg base CX0 x (k + 1) ps sp := by
  have gl := T.glo j hg
  obtain ⟨hp, X, G, c, _⟩ := T
  obtain ⟨fd, F⟩ := c.def_ i hd
  refine ⟨gl, F.kp, fd, F.ok S len fun cdv A outer s H vs Q E hr h => ?_, F.bindsN B⟩
  obtain ⟨t, h1, h2⟩ := body cdv A outer s H vs Q E h hr
  exact ⟨t, h1.nox, h2⟩
end
/-- the law's own def, for the end -/
theorem law_of {fa : List He.Fa} {fn : List He.DefD} {P : Program} {w : World} {K : PySem.W.Frag} {mg : Str → Option Value} {h : Heap} {f : Addr} {N : List Str} {x : Str} {st : Stmt} {k : Nat} {sp : Sp} (KX : K.In h) (G : h.Ns mainGlobals mg) (c : He.SaysD fa fn K)
    (hf : mg "law" = some (.ref f)) (i j : Nat) (S : FnScope N [x] (defScope st)) (B : BindN "law" st [x]) (len : ∀ vs H Q E, sp vs H Q E → vs.length = 1) (body : ∀ base, Body P w K mg base "law" st N k sp)
    (hd : fn[i]? = some (dOf "law" st) := by rfl) (hg : fa[j]? = some (.glo "law") := by rfl) :
    ∃ fd : FuncData, (∀ (s : Shared) (v : Value), BindsTo s fd ⟨[v], []⟩ [(x, v)]) ∧ ∀ base : Heap, K.In base → base.Ns mainGlobals mg → FnOk P w K mg base CX0 (k + 1) f fd [x] sp := by
  obtain ⟨fd, F⟩ := c.def_ i hd
  have gl := He.glo_ok KX G (c.fact j hg)
  cases hf.symm.trans gl
  have b := F.bindsA (ps := [x]) B
  refine ⟨fd, fun s v => b s [v] rfl, fun base _ _ => F.ok S len fun cdv A outer s H vs Q E hr h => ?_⟩
  obtain ⟨t, h1, h2⟩ := body base cdv A outer s H vs Q E h hr
  exact ⟨t, h1.nox, h2⟩
theorem DefAt.up {P : Program} {w : World} {K : PySem.W.Frag} {mg : Str → Option Value} {base : Heap} {CX : CXT} {x : Str} {j k : Nat} {ps : List Str} {sp : Sp} (D : DefAt P w K mg base CX x j ps sp) (h : j ≤ k) : DefAt P w K mg base CX x k ps sp :=
  ⟨D.gl, D.kp, let ⟨fd, F, B⟩ := D.ok; ⟨fd, F.mono h, B⟩⟩
section
variable {X : Cx} {CX : CXT} {x : Str} {k j : Nat} {ps : List Str} {sp : Sp} {E : XK} {p pos : Pos} {e : Expr} {es : List Expr} {t : TA}
def tCallA (sp : Sp) (E : XK) (t : TA) : TE := fun σ H Q => t σ H fun vs H1 => sp vs H1 Q E
theorem pe_callA (D : DefAt X.prog X.w X.K X.mg X.base CX x j ps sp) (hr : Room k X.A) (hx : Passes CX X E) (ha : PA X (e :: es) t) (hjk : j ≤ k := by decide) (hg : Gl X x := by rfl)
    (hdb : (x == ("__debug__" : Str)) = false := by decide) (he : starEach (e :: es) X.env = (false, eval e X.env) :: starEach es X.env := by rfl) (hpl : (backTo pos (starEach es X.env)).any (·.1) = false := by rfl) :
    PE X (.Call (.Name x p) (e :: es) [] pos) (tCallA sp E t) := by
  obtain ⟨fd, F, B⟩ := D.ok
  have h := pe_call (F.mono hjk) hr hg D.gl D.kp B .nil hx ha hdb he hpl (p := p)
  have e : tCall sp [] E t = tCallA sp E t := by
    funext σ H Q
    unfold tCall tCallA
    simp only [List.append_nil]
  rw [← e]
  exact h
theorem pe_gInt {i : Int} (hm : ∃ t, X.mg x = some (.int i t)) (hg : Gl X x := by rfl) (hd : (x == ("__debug__" : Str)) = false := by decide) : PE X (.Name x pos) (tC (.int i)) :=
  let ⟨t, h⟩ := hm; pe_glob hg h ⟨t, rfl⟩ hd
theorem pe_gStr {z : Str} (hm : ∃ t, X.mg x = some (.str z t)) (hg : Gl X x := by rfl) (hd : (x == ("__debug__" : Str)) = false := by decide) : PE X (.Name x pos) (tC (.str z)) :=
  let ⟨t, h⟩ := hm; pe_glob hg h ⟨t, rfl⟩ hd
end

theorem pe_gCon {X : Cx} {x : Str} {pos : Pos} {a : Addr} (hm : X.mg x = some (.ref a)) (hg : Gl X x := by rfl) (hd : (x == ("__debug__" : Str)) = false := by decide) : PE X (.Name x pos) (tC (.ref a)) := pe_glob hg hm rfl hd
/-! ## readings, one step at a time -/
/-- a new object o at p: all else is as it was -/
structure New (H : Hp) (p : Addr) (o : HO) (H' : Hp) : Prop where
  fr : H p = none
  eq : H' = upd H p o
section
variable {K : PySem.W.Frag} {σ : St} {H : Hp} {D : Ends} {Q : VK} {i j : Int} {n : Nat} {v x y : V} {te ta tb tc : TE} {t u : TS} {g : TG} {tt tA tB1 : TT} {r r' : R2} {a b p : Addr} {xs ys : List V} {s z : Str}
theorem c_seq (h : t { D with nx := u D } σ H) : tSeq t u D σ H := h
theorem c_next (h : D.nx σ H) : tNext D σ H := h
theorem c_ret (h : te σ H D.rt) : tRet te D σ H := h
theorem c_retN (h : D.rt .non H) : tRetN D σ H := h
theorem c_asg (h : te σ H fun x H1 => g x σ H1 D.nx) : tAsg te g D σ H := h
theorem c_gName {R : St → Hp → Prop} (h : R (σ.set n (some v)) H) : gName n v σ H R := h
theorem c_drop (h : te σ H fun _ H1 => D.nx σ H1) : tDrop te D σ H := h
theorem c_ifs (h : tt σ H fun b H1 => if b = true then t D σ H1 else u D σ H1) : tIfS tt t u D σ H := h
theorem c_var (e : σ[n]? = some (some v)) (q : Q v H) : tVar n σ H Q := ⟨v, e, q⟩
theorem c_c (q : Q v H) : tC v σ H Q := q
theorem c_op (h : ta σ H fun x H1 => tb σ H1 fun y H2 => r x y H2 Q) : tOp r ta tb σ H Q := h
theorem c_chain (h : ta σ H fun x H1 => tb σ H1 fun y H2 => r x y H2 fun z H3 => ∃ k, z = .bl k ∧ (if k = true then tc σ H3 fun w' H4 => r' y w' H4 Q else Q (.bl false) H3)) : tChain r r' ta tb tc σ H Q := h
theorem c_test {R : Bool → Hp → Prop} (h : te σ H fun x H1 => ∃ k, x = .bl k ∧ R k H1) : tTest te σ H R := h
theorem c_tB {R : Bool → Hp → Prop} (h : te σ H fun x H1 => ∃ k, x = .bl k ∧ R k H1) : tB te σ H R := h
theorem c_not {R : Bool → Hp → Prop} (h : tt σ H fun c H1 => R (!c) H1) : tNot tt σ H R := h
theorem c_and {R : Bool → Hp → Prop} (h : tA σ H fun c H1 => if c = true then tB1 σ H1 R else R false H1) : tAnd tA tB1 σ H R := h
theorem c_or {R : Bool → Hp → Prop} (h : tA σ H fun c H1 => if c = true then R true H1 else tB1 σ H1 R) : tOr tA tB1 σ H R := h
theorem c_andV (h : ta σ H fun x H1 => ∃ c, x = .bl c ∧ if c = true then tb σ H1 Q else Q (.bl false) H1) : tAndV ta tb σ H Q := h
theorem c_orV (h : ta σ H fun x H1 => ∃ c, x = .bl c ∧ if c = true then Q (.bl true) H1 else tb σ H1 Q) : tOrV ta tb σ H Q := h
theorem c_notV (h : ta σ H fun x H1 => ∃ c, x = .bl c ∧ Q (.bl (!c)) H1) : tNotV ta σ H Q := h
theorem c_if (h : tt σ H fun c H1 => if c = true then ta σ H1 Q else tb σ H1 Q) : tIf tt ta tb σ H Q := h
theorem c_nil {R : List V → Hp → Prop} (h : R [] H) : tNil σ H R := h
theorem c_cons {tr : TA} {R : List V → Hp → Prop} (h : te σ H fun x H1 => tr σ H1 fun xs H2 => R (x :: xs) H2) : tCons te tr σ H R := h
theorem c_call {sp : Sp} {E : XK} {tr : TA} (h : tr σ H fun vs H1 => sp vs H1 Q E) : tCallA sp E tr σ H Q := h
theorem c_cb {rr : List V → Hp → VK → Prop} {tr : TA} (h : tr σ H fun vs H1 => rr vs H1 Q) : tCB rr tr σ H Q := h
def Ret (Q : VK) (v : V) (H : Hp) : Prop := Q v H
theorem c_nw {A : Prop} {o : HO} (hl : A) (h : ∀ p H', New H p o H' → Q (.ref p) H') : A ∧ ∀ p, H p = none → Ret Q (.ref p) (upd H p o) := ⟨hl, fun p hp => h p _ ⟨hp, rfl⟩⟩
theorem c_tup {tr : TA} (h : tr σ H fun xs H1 => xs.length ≤ sizeLine ∧ ∀ p, H1 p = none → Ret Q (.ref p) (upd H1 p (.tup xs))) : tTup tr σ H Q := h
theorem c_lst {tr : TA} (h : tr σ H fun xs H1 => xs.length ≤ sizeLine ∧ ∀ p, H1 p = none → Ret Q (.ref p) (upd H1 p (.lst xs))) : tLst tr σ H Q := h
theorem c_sl {rr : V → Option Int → Option Int → Hp → VK → Prop} {tl th : TO} (h : te σ H fun x H1 => tl σ H1 fun l H2 => th σ H2 fun u H3 => rr x l u H3 Q) : tSl rr te tl th σ H Q := h
theorem c_noPart {R : Option Int → Hp → Prop} (h : R none H) : tNoPart σ H R := h
theorem c_part {R : Option Int → Hp → Prop} (h : te σ H fun x H1 => ∃ i, x = .int i ∧ R (some i) H1) : tPart te σ H R := h
theorem c_bm {T : String} {rr : V → List V → Hp → VK → Prop} {tr : TA} (h : te σ H fun x H1 => tyV K T x H1 ∧ tr σ H1 fun xs H2 => rr x xs H2 Q) : tBM K T rr te tr σ H Q := h
theorem c_bm0 {T : String} {rr : V → List V → Hp → VK → Prop} (h : te σ H fun x H1 => tyV K T x H1 ∧ rr x [] H1 Q) : tBM0 K T rr te σ H Q := h
/-! answers of operators -/
theorem c_bl {b : Bool} {R : Bool → Prop} (h : R b) : ∃ k, V.bl b = V.bl k ∧ R k := ⟨b, rfl, h⟩
theorem c_int {R : Int → Prop} (h : R i) : ∃ k, V.int i = V.int k ∧ R k := ⟨i, rfl, h⟩
theorem c_addI (q : Q (.int (i + j)) H) : rAddU K (.int i) (.int j) H Q := .inl ⟨i, j, rfl, rfl, q⟩
theorem c_addS (hl : s.length + z.length ≤ sizeLine) (q : Q (.str (s ++ z)) H) : rAddU K (.str s) (.str z) H Q := .inr (.inl ⟨s, z, rfl, rfl, hl, q⟩)
theorem c_addL (ha : H a = some (.lst xs)) (hb : H b = some (.lst ys)) (hl : xs.length + ys.length ≤ sizeLine) (q : ∀ p H', New H p (.lst (xs ++ ys)) H' → Q (.ref p) H') : rAddU K (.ref a) (.ref b) H Q :=
  .inr (.inr (.inl ⟨a, b, xs, ys, rfl, rfl, ha, hb, hl, fun p hp => q p _ ⟨hp, rfl⟩⟩))
theorem c_subI (q : Q (.int (i - j)) H) : rSubU (.int i) (.int j) H Q := ⟨i, j, rfl, rfl, q⟩
theorem c_mulI (hc : (-(2 ^ 64) < i ∧ i < 2 ^ 64) ∨ (-(2 ^ 64) < j ∧ j < 2 ^ 64)) (q : Q (.int (i * j)) H) : rMulU K (.int i) (.int j) H Q := .inl ⟨i, j, rfl, rfl, hc, q⟩
theorem c_mulL (ha : H a = some (.lst xs)) (h0 : -(2 ^ 63) ≤ j) (h1 : j < 2 ^ 63) (hl : xs.length * j.toNat ≤ sizeLine) (q : ∀ p H', New H p (.lst (List.replicate j.toNat xs).flatten) H' → Q (.ref p) H') : rMulU K (.ref a) (.int j) H Q :=
  .inr (.inl ⟨a, j, xs, rfl, rfl, ha, h0, h1, hl, fun p hp => q p _ ⟨hp, rfl⟩⟩)
theorem c_mulT (ha : SqT K H a xs) (hne : xs ≠ []) (h0 : 2 ≤ j) (h1 : j ≤ 1000) (hl : xs.length ≤ 1000) (q : ∀ p H', New H p (.tup (List.replicate j.toNat xs).flatten) H' → Q (.ref p) H') : rMulU K (.ref a) (.int j) H Q :=
  .inr (.inr (.inl ⟨a, j, xs, rfl, rfl, ha, hne, h0, h1, hl, fun p hp => q p _ ⟨hp, rfl⟩⟩))
theorem c_mulS (h0 : -9223372036854775808 ≤ j) (h1 : j < 9223372036854775808) (hl : z.length * j.toNat ≤ sizeLine) (q : Q (.str (rptS z j)) H) : rMulU K (.str z) (.int j) H Q :=
  .inr (.inr (.inr ⟨z, j, rfl, rfl, by simpa using h0, by simpa using h1, hl, q⟩))
theorem c_divI (hc : 0 < j ∧ j < 1073741824) (q : Q (.int (i / j)) H) : rDivU (.int i) (.int j) H Q := ⟨i, j, rfl, rfl, hc, q⟩
theorem c_modI (hc : 0 < j) (q : Q (.int (i % j)) H) : rModU (.int i) (.int j) H Q := ⟨i, j, rfl, rfl, hc, q⟩
theorem c_bandI (q : Q (.int (Builtin.bitAnd i j)) H) : rBandU (.int i) (.int j) H Q := ⟨i, j, rfl, rfl, q⟩
theorem c_ltI (q : Q (.bl (decide (i < j))) H) : rLtU (.int i) (.int j) H Q := .inl ⟨i, j, rfl, rfl, q⟩
theorem c_leI (q : Q (.bl (decide (i ≤ j))) H) : rLeU (.int i) (.int j) H Q := .inl ⟨i, j, rfl, rfl, q⟩
theorem c_gtI (q : Q (.bl (decide (j < i))) H) : rGtU (.int i) (.int j) H Q := .inl ⟨i, j, rfl, rfl, q⟩
theorem c_geI (q : Q (.bl (decide (j ≤ i))) H) : rGeU (.int i) (.int j) H Q := .inl ⟨i, j, rfl, rfl, q⟩
theorem dI : decide (V.int i = V.int j) = decide (i = j) := by rw [dec_int]; exact Bool.beq_eq_decide_eq _ _
theorem dS : decide (V.str s = V.str z) = decide (s = z) := by rw [dec_str]; exact Bool.beq_eq_decide_eq _ _
theorem c_eqI (q : Q (.bl (decide (i = j))) H) : rEqU K (.int i) (.int j) H Q := .inl ⟨rfl, by rw [dI]; exact q⟩
theorem c_neI (q : Q (.bl (!decide (i = j))) H) : rNeU K (.int i) (.int j) H Q := .inl ⟨rfl, by rw [dI]; exact q⟩
theorem c_eqS (q : Q (.bl (decide (s = z))) H) : rEqU K (.str s) (.str z) H Q := .inl ⟨rfl, by rw [dS]; exact q⟩
theorem c_neS (q : Q (.bl (!decide (s = z))) H) : rNeU K (.str s) (.str z) H Q := .inl ⟨rfl, by rw [dS]; exact q⟩
theorem c_eqB {b c : Bool} (q : Q (.bl (b == c)) H) : rEqU K (.bl b) (.bl c) H Q := .inl ⟨rfl, by rw [dec_bl]; exact q⟩
theorem c_neB {b c : Bool} (q : Q (.bl (b != c)) H) : rNeU K (.bl b) (.bl c) H Q := .inl ⟨rfl, by rw [dec_bl]; exact q⟩
theorem c_eqD {d e : PyData} (hx : Dp K H x d) (hy : Dp K H y e) (sd : SeqAt.shaped d = true) (se : SeqAt.shaped e = true) (q : Q (.bl (PyData.eqv d e)) H) : rEqU K x y H Q := .inr ⟨d, e, hx, hy, sd, se, q⟩
theorem c_neD {d e : PyData} (hx : Dp K H x d) (hy : Dp K H y e) (sd : SeqAt.shaped d = true) (se : SeqAt.shaped e = true) (q : Q (.bl (!PyData.eqv d e)) H) : rNeU K x y H Q := .inr ⟨d, e, hx, hy, sd, se, q⟩
theorem c_isN (q : Q (.bl (decide (x = .non))) H) : rIsU x .non H Q := ⟨rfl, q⟩
theorem c_notN (q : Q (.bl (!decide (x = .non))) H) : rIsNotU x .non H Q := ⟨rfl, q⟩
theorem c_inC {c : Nat} (q : Q (.bl (decide (c ∈ z.cps.toList))) H) : rInU K (.str ⟨#[c]⟩) (.str z) H Q := .inl ⟨c, z, rfl, rfl, q⟩
theorem c_notInC {c : Nat} (q : Q (.bl (!decide (c ∈ z.cps.toList))) H) : rNotInU K (.str ⟨#[c]⟩) (.str z) H Q := .inl ⟨c, z, rfl, rfl, q⟩
theorem c_ixL (h : SqL K H a xs) (e : atI xs i = some v) (q : Q v H) : rIx K (.ref a) (.int i) H Q := .inl ⟨a, xs, i, v, rfl, rfl, h, e, q⟩
theorem c_ixT (h : SqT K H a xs) (e : atI xs i = some v) (q : Q v H) : rIx K (.ref a) (.int i) H Q := .inr (.inl ⟨a, xs, i, v, rfl, rfl, h, e, q⟩)
theorem c_ixS {c : Nat} (h : z.length ≤ sizeLine) (e : atI z.cps.toList i = some c) (q : Q (.str ⟨#[c]⟩) H) : rIx K (.str z) (.int i) H Q := .inr (.inr ⟨z, i, c, rfl, rfl, h, e, q⟩)
theorem c_slL {lo hi : Option Int} (h : SqL K H a xs) (q : ∀ p H', New H p (.lst (cutV xs lo hi)) H' → Q (.ref p) H') : rSlU K (.ref a) lo hi H Q := .inl ⟨a, xs, rfl, h, fun p hp => q p _ ⟨hp, rfl⟩⟩
theorem c_slS {lo hi : Option Int} (h : z.length ≤ sizeLine) (q : Q (.str (cutS z lo hi)) H) : rSlU K (.str z) lo hi H Q := .inr (.inl ⟨z, rfl, h, q⟩)
theorem c_append {l : Addr} (h : H l = some (.lst xs)) (hl : xs.length < sizeLine) (q : Q .non (upd H l (.lst (xs ++ [y])))) : rAppend (.ref l) [y] H Q := ⟨l, xs, y, rfl, rfl, h, hl, q⟩
theorem c_tyL (h : SqL K H a xs) : tyV K "list" (.ref a) H := Or.inl ⟨rfl, _, h⟩
theorem c_tyA {B : Prop} (h : SqL K H a xs) (q : B) : tyV K "list" (.ref a) H ∧ B := ⟨c_tyL h, q⟩
theorem c_setL {l : Addr} {k : Nat} {R : Hp → Prop} (h : H l = some (.lst xs)) (e : ixN xs.length i = some k) (q : R (upd H l (.lst (xs.set k v)))) : rSetL (.ref l) (.int i) v H R := ⟨l, xs, i, k, rfl, rfl, h, e, q⟩
theorem c_gSub {to ti : TE} {ts : TSet} {R : St → Hp → Prop} (h : to σ H fun o H1 => ti σ H1 fun i H2 => ts o i v H2 fun H3 => R σ H3) : gSub to ti ts v σ H R := h
theorem lt_one {c d : Nat} : decide ((⟨#[c]⟩ : Str).cps.toList < (⟨#[d]⟩ : Str).cps.toList) = decide (c < d) := by
  show decide ([c] < [d]) = _
  congr 1
  simp [List.cons_lt_cons_iff]
theorem q_of {b c : Bool} (e : b = c) (q : Q (.bl c) H) : Q (.bl b) H := e ▸ q
theorem ge_one {c d : Nat} : (!decide ((⟨#[d]⟩ : Str).cps.toList < (⟨#[c]⟩ : Str).cps.toList)) = decide (c ≤ d) := by rw [lt_one]; by_cases h : c ≤ d <;> simp [h] <;> omega
theorem c_leC {c d : Nat} (q : Q (.bl (decide (c ≤ d))) H) : rLeU (.str ⟨#[c]⟩) (.str ⟨#[d]⟩) H Q := .inr ⟨_, _, rfl, rfl, q_of ge_one q⟩
theorem c_ltC {c d : Nat} (q : Q (.bl (decide (c < d))) H) : rLtU (.str ⟨#[c]⟩) (.str ⟨#[d]⟩) H Q := .inr ⟨_, _, rfl, rfl, q_of lt_one q⟩
theorem c_gtC {c d : Nat} (q : Q (.bl (decide (d < c))) H) : rGtU (.str ⟨#[c]⟩) (.str ⟨#[d]⟩) H Q := .inr ⟨_, _, rfl, rfl, q_of lt_one q⟩
theorem c_geC {c d : Nat} (q : Q (.bl (decide (d ≤ c))) H) : rGeU (.str ⟨#[c]⟩) (.str ⟨#[d]⟩) H Q := .inr ⟨_, _, rfl, rfl, q_of ge_one q⟩
/-! tests of values -/
theorem c_truB {b : Bool} {R : Bool → Prop} (q : R b) : ∃ k, TruV K (.bl b) H k ∧ R k := ⟨b, rfl, q⟩
theorem c_truL {R : Bool → Prop} (h : SqL K H a xs) (q : R (!xs.isEmpty)) : ∃ k, TruV K (.ref a) H k ∧ R k := ⟨_, .inl ⟨xs, h, rfl⟩, q⟩
theorem c_truS {R : Bool → Prop} (h : s.length ≤ sizeLine) (q : R ((s.length : Int) != 0)) : ∃ k, TruV K (.str s) H k ∧ R k := ⟨_, ⟨h, rfl⟩, q⟩
/-! conditions -/
theorem c_ite {c : Prop} [Decidable c] {A B : Prop} (h1 : c → A) (h2 : ¬ c → B) : if decide c = true then A else B := by
  by_cases h : c
  · rw [decide_eq_true h, if_pos rfl]; exact h1 h
  · rw [decide_eq_false h, if_neg Bool.false_ne_true]; exact h2 h
theorem c_iteN {c : Prop} [Decidable c] {A B : Prop} (h1 : ¬ c → A) (h2 : c → B) : if (!decide c) = true then A else B := by
  by_cases h : c
  · rw [decide_eq_true h, Bool.not_true, if_neg Bool.false_ne_true]; exact h2 h
  · rw [decide_eq_false h, Bool.not_false, if_pos rfl]; exact h1 h
theorem c_iteT {b : Bool} {A B : Prop} (hb : b = true) (h : A) : if b = true then A else B := by rw [if_pos hb]; exact h
theorem c_iteF {b : Bool} {A B : Prop} (hb : b = false) (h : B) : if b = true then A else B := by rw [hb, if_neg Bool.false_ne_true]; exact h
theorem c_it1 {A B : Prop} (h : A) : if true = true then A else B := c_iteT rfl h
theorem c_it2 {A B : Prop} (h : B) : if false = true then A else B := c_iteF rfl h
theorem c_it3 {A B : Prop} (h : A) : if (!false) = true then A else B := c_iteT rfl h
theorem c_it4 {A B : Prop} (h : B) : if (!true) = true then A else B := c_iteF rfl h
theorem c_iteB {b : Bool} {A B : Prop} (h1 : b = true → A) (h2 : b = false → B) : if b = true then A else B := by
  cases b with
  | true => exact c_iteT rfl (h1 rfl)
  | false => exact c_iteF rfl (h2 rfl)
theorem c_iteNB {b : Bool} {A B : Prop} (h1 : b = false → A) (h2 : b = true → B) : if (!b) = true then A else B := by
  cases b with
  | true => exact c_iteF rfl (h2 rfl)
  | false => exact c_iteT rfl (h1 rfl)
end
end Sa

namespace Sa
open PySem L2

/-! ## built-ins by names of their readings -/
section
variable {X : Cx} {K : PySem.W.Frag} {H : Hp} {Q : VK} {i j : Int} {a : Addr} {xs : List V} {s z : Str}
def rLenU (K : PySem.W.Frag) : List V → Hp → VK → Prop := fun xs H Q => ∃ x n, xs = [x] ∧ LenV K x H n ∧ Q (.int n) H
theorem cr_len {K : PySem.W.Frag} (hK : X.K = K := by rfl) : CallR X (.builtin "len") (rLenU K) := hK ▸ call_len
theorem c_lenL (h : SqL K H a xs) (q : Q (.int xs.length) H) : rLenU K [.ref a] H Q := ⟨_, _, rfl, .inl ⟨xs, h, rfl⟩, q⟩
theorem c_lenT (h : SqT K H a xs) (q : Q (.int xs.length) H) : rLenU K [.ref a] H Q := ⟨_, _, rfl, .inr ⟨xs, h, rfl⟩, q⟩
theorem c_lenS (h : s.length ≤ sizeLine) (q : Q (.int s.length) H) : rLenU K [.str s] H Q := ⟨_, _, rfl, ⟨h, rfl⟩, q⟩
def rIntU : List V → Hp → VK → Prop := fun xs H Q => (∃ i, xs = [.int i] ∧ Q (.int i) H) ∨ ∃ k, xs = [.bl k] ∧ Q (.int (if k then 1 else 0)) H
theorem cr_int : CallR X (.type "int") rIntU := call_int1
theorem c_intI (q : Q (.int i) H) : rIntU [.int i] H Q := .inl ⟨i, rfl, q⟩
def rOrdU : List V → Hp → VK → Prop := fun xs H Q => ∃ x, xs = [.str x] ∧ x.length = 1 ∧ Q (.int (x.cps.getD 0 0 : Nat)) H
theorem cr_ord : CallR X (.builtin "ord") rOrdU := call_ord
theorem c_ord {c : Nat} (q : Q (.int c) H) : rOrdU [.str ⟨#[c]⟩] H Q := ⟨_, rfl, rfl, q⟩
def rMax2U : List V → Hp → VK → Prop := fun xs H Q => ∃ i j, xs = [.int i, .int j] ∧ Q (.int (if j > i then j else i)) H
def rMin2U : List V → Hp → VK → Prop := fun xs H Q => ∃ i j, xs = [.int i, .int j] ∧ Q (.int (if j < i then j else i)) H
theorem cr_max2 (hc : X.calm = true) : CallR X (.builtin "max") rMax2U := call_max2 hc
theorem cr_min2 (hc : X.calm = true) : CallR X (.builtin "min") rMin2U := call_min2 hc
theorem c_max2 (q : Q (.int (max i j)) H) : rMax2U [.int i, .int j] H Q := ⟨i, j, rfl, by
  have e : (if j > i then j else i) = max i j := by split <;> omega
  rw [e]; exact q⟩
theorem c_min2 (q : Q (.int (min i j)) H) : rMin2U [.int i, .int j] H Q := ⟨i, j, rfl, by
  have e : (if j < i then j else i) = min i j := by split <;> omega
  rw [e]; exact q⟩
def rListU (K : PySem.W.Frag) : List V → Hp → VK → Prop := fun xs H Q => ∃ p ys, xs = [.ref p] ∧ (SqL K H p ys ∨ SqT K H p ys) ∧ ∀ l, H l = none → Q (.ref l) (upd H l (.lst ys))
theorem cr_list {K : PySem.W.Frag} (hK : X.K = K := by rfl) : CallR X (.type "list") (rListU K) := hK ▸ call_list_of
theorem c_listL (h : SqL K H a xs) (q : ∀ l H', New H l (.lst xs) H' → Q (.ref l) H') : rListU K [.ref a] H Q := ⟨a, xs, rfl, .inl h, fun p hp => q p _ ⟨hp, rfl⟩⟩
theorem c_listT (h : SqT K H a xs) (q : ∀ l H', New H l (.lst xs) H' → Q (.ref l) H') : rListU K [.ref a] H Q := ⟨a, xs, rfl, .inr h, fun p hp => q p _ ⟨hp, rfl⟩⟩
def rTupU (K : PySem.W.Frag) : List V → Hp → VK → Prop := fun xs H Q => ∃ p ys, xs = [.ref p] ∧ ((SqL K H p ys ∧ ∀ l, H l = none → Q (.ref l) (upd H l (.tup ys))) ∨ (SqT K H p ys ∧ Q (.ref p) H))
theorem cr_tuple {K : PySem.W.Frag} (hK : X.K = K := by rfl) : CallR X (.type "tuple") (rTupU K) := hK ▸ call_tuple_of
theorem c_tupleL (h : SqL K H a xs) (q : ∀ l H', New H l (.tup xs) H' → Q (.ref l) H') : rTupU K [.ref a] H Q := ⟨a, xs, rfl, .inl ⟨h, fun p hp => q p _ ⟨hp, rfl⟩⟩⟩
theorem c_tupleT (h : SqT K H a xs) (q : Q (.ref a) H) : rTupU K [.ref a] H Q := ⟨a, xs, rfl, .inr ⟨h, q⟩⟩
theorem c_anyI {ns : List Int} (h : SqL K H a (ns.map V.int)) (q : Q (.bl (ns.any (· != 0))) H) : rAnyU K [.ref a] H Q := .inr ⟨a, ns, rfl, h, q⟩
theorem c_anyB {bs : List Bool} (h : SqL K H a (bs.map V.bl)) (q : Q (.bl (bs.any id)) H) : rAnyU K [.ref a] H Q := .inl ⟨a, bs, rfl, h, q⟩
def rAllU (K : PySem.W.Frag) : List V → Hp → VK → Prop := rAll K
theorem cr_allU {K : PySem.W.Frag} (hc : X.calm = true) (hK : X.K = K := by rfl) : CallR X (.builtin "all") (rAllU K) := hK ▸ cr_all hc
theorem c_allB {bs : List Bool} (h : SqL K H a (bs.map V.bl)) (q : Q (.bl (bs.all id)) H) : rAllU K [.ref a] H Q := ⟨a, bs, rfl, h, q⟩
end
section
variable {X : Cx} {K : PySem.W.Frag} {σ : St} {H : Hp} {Q : VK} {a : Addr} {s z : Str} {ys : List Str} {to te : TE} {o e : Expr}
/-- a text's method of one argument -/
def tM1U (r : V → List V → Hp → VK → Prop) (to te : TE) : TE := fun σ H Q => to σ H fun x H1 => (∃ a, x = .str a) ∧ te σ H1 fun y H2 => r x [y] H2 Q
theorem c_m1 {r : V → List V → Hp → VK → Prop} (h : to σ H fun x H1 => (∃ a, x = .str a) ∧ te σ H1 fun y H2 => r x [y] H2 Q) : tM1 r to te σ H Q := h
theorem c_isStr {A : Prop} (h : A) : (∃ b, V.str s = V.str b) ∧ A := ⟨⟨s, rfl⟩, h⟩
def rJoin (K : PySem.W.Frag) : V → List V → Hp → VK → Prop := fun x xs H Q => ∃ a p, ∃ ys : List Str, x = .str a ∧ xs = [.ref p] ∧ (SqL K H p (ys.map V.str) ∨ SqT K H p (ys.map V.str)) ∧
  (ys.map (·.length)).sum + ys.length * a.length ≤ 16777216 ∧ Q (.str (Txt.join a ys)) H
theorem pe_joinU {K : PySem.W.Frag} {apos pos : Pos} (ho : PE X o to) (he : PE X e te) (hK : X.K = K := by rfl) (hs : starEach [e] X.env = [(false, eval e X.env)] := by rfl) (hbase : attributeBase o "join" X.env (eval o X.env) = eval o X.env := by rfl) (hline : (apos.endLine == pos.line) = true := by rfl) :
    PE X (.Call (.Attribute o "join" apos) [e] [] pos) (tM1 (rJoin K) to te) := hK ▸ pe_join ho he hs hbase hline
theorem c_join (h : SqL K H a (ys.map V.str)) (hl : (ys.map (·.length)).sum + ys.length * s.length ≤ 16777216) (q : Q (.str (Txt.join s ys)) H) : rJoin K (.str s) [.ref a] H Q := ⟨s, a, ys, rfl, rfl, .inl h, hl, q⟩
end

/-! ## rules that name the written part -/
section
variable {X : Cx} {K : PySem.W.Frag} {e o : Expr} {es : List Expr} {te to ta : TE} {tr : TA} {tg : Expr} {x : Str}
theorem pt_tru {a : Expr} (ha : PE X a ta) (hK : X.K = K := by rfl) (he : ∀ whole, isTrue a X.env whole = (do let v ← whole; standAt a.pos; holding [v] (truthy v)) := by intro _; rfl) :
    PT X a (fun σ H Q => ta σ H fun x H' => ∃ k, TruV K x H' k ∧ Q k H') := hK ▸ pt_truth ha he
theorem pi_listU (hl : PE X e te) (hK : X.K = K := by rfl) : PI X tg e (iList K te) := hK ▸ pi_list hl
theorem pi_tupU (hl : PE X e te) (hK : X.K = K := by rfl) : PI X tg e (iTup K te) := hK ▸ pi_tup hl
theorem pg_tupU {pos : Pos} {k n : Nat} {t : TGs} (hc : X.calm = true) (h : PGs X es t) (hK : X.K = K := by rfl) (hn : (assignEach es X.env).length = n := by rfl) (hst : (assignEach es X.env).findIdx? (·.1) = none := by rfl) : PG X (.Tuple es k pos) (gTup K n t) := hK ▸ pg_tup hc h hn hst
theorem pg_lstU {pos : Pos} {k n : Nat} {t : TGs} (hc : X.calm = true) (h : PGs X es t) (hK : X.K = K := by rfl) (hn : (assignEach es X.env).length = n := by rfl) (hst : (assignEach es X.env).findIdx? (·.1) = none := by rfl) : PG X (.Tuple es k pos) (gLst K n t) := hK ▸ pg_lst hc h hn hst
theorem pe_appendU {apos cpos : Pos} (ho : PE X o to) (he : PE X e te) (hK : X.K = K := by rfl) (hbase : attributeBase o "append" X.env (eval o X.env) = eval o X.env := by rfl)
    (hfew : ((backTo cpos (starEach [e] X.env)).all (fun x => !x.1) && (backToKw cpos (keywordEach [] X.env)).all (fun x => x.1.isSome)
      && decide (([e] : List Expr).length + ([] : List Keyword).length + (if ([] : List Keyword).isEmpty then 0 else 1) < 30)) = true := by rfl)
    (hline : (apos.endLine == cpos.line) = true := by rfl) (hs : starEach [e] X.env = (false, eval e X.env) :: starEach [] X.env := by rfl) (hplain : (backTo cpos (starEach [] X.env)).any (·.1) = false := by rfl) :
    PE X (.Call (.Attribute o "append" apos) [e] [] cpos) (tBM K "list" rAppend to (tCons te tNil)) :=
  hK ▸ pe_bm PySem.F.plainAttrs_list PySem.F.slot_list_append PySem.F.type_list_append mt_append ho (pa_cons he pa_nil hs) hbase hfew hline hs hplain
theorem pe_extendU {apos cpos : Pos} (ho : PE X o to) (he : PE X e te) (hK : X.K = K := by rfl) (hbase : attributeBase o "extend" X.env (eval o X.env) = eval o X.env := by rfl)
    (hfew : ((backTo cpos (starEach [e] X.env)).all (fun x => !x.1) && (backToKw cpos (keywordEach [] X.env)).all (fun x => x.1.isSome)
      && decide (([e] : List Expr).length + ([] : List Keyword).length + (if ([] : List Keyword).isEmpty then 0 else 1) < 30)) = true := by rfl)
    (hline : (apos.endLine == cpos.line) = true := by rfl) (hs : starEach [e] X.env = (false, eval e X.env) :: starEach [] X.env := by rfl) (hplain : (backTo cpos (starEach [] X.env)).any (·.1) = false := by rfl) :
    PE X (.Call (.Attribute o "extend" apos) [e] [] cpos) (tBM K "list" rExtend to (tCons te tNil)) :=
  hK ▸ pe_bm PySem.F.plainAttrs_list PySem.F.slot_list_extend PySem.F.type_list_extend mt_extend ho (pa_cons he pa_nil hs) hbase hfew hline hs hplain
end

/-! ## what is kept of a heap -/
/-- all that was tracked is kept, but for the objects at ms -/
def Kp (ms : List Addr) (H H' : Hp) : Prop := ∀ a o, a ∉ ms → H a = some o → H' a = some o
section
variable {K : PySem.W.Frag} {H H1 H2 : Hp} {a b p : Addr} {o u : HO} {ms ns : List Addr} {xs : List V}
theorem Kp.refl : Kp ms H H := fun _ _ _ h => h
theorem Kp.trans (e : Kp ms H H1) (f : Kp ms H1 H2) : Kp ms H H2 := fun a o n h => f a o n (e a o n h)
theorem Kp.mono (e : Kp [] H H1) : Kp ms H H1 := fun a o _ h => e a o (by simp) h
theorem Kp.new (hp : H p = none) : Kp ms H (upd H p o) := fun a u _ h => by rw [upd_ne (ne_of_none h hp)]; exact h
theorem Kp.mut (hp : p ∈ ms) : Kp ms H (upd H p o) := fun a u n h => by rw [upd_ne (fun e : a = p => n (by rw [e]; exact hp))]; exact h
theorem Kp.at0 (e : Kp [] H H1) (h : H a = some o) : H1 a = some o := e a o (by simp) h
theorem Kp.at1 (e : Kp [b] H H1) (n : a ≠ b) (h : H a = some o) : H1 a = some o := e a o (by simpa using n) h
/-- an object that H did not know may change -/
theorem Kp.fresh_mut (e : Kp ms H H1) (hp : H p = none) : Kp ms H (upd H1 p o) := fun a u n h => by rw [upd_ne (ne_of_none h hp)]; exact e a u n h
theorem Kp.drop_fresh (e : Kp (p :: ms) H H1) (hp : H p = none) : Kp ms H H1 := fun a u n h => e a u (by simp only [List.mem_cons, not_or]; exact ⟨ne_of_none h hp, n⟩) h
theorem upd_new (hp : H p = none) (h : H a = some o) : upd H p u a = some o := by rw [upd_ne (ne_of_none h hp)]; exact h
theorem upd_other (n : a ≠ p) (h : H a = some o) : upd H p u a = some o := by rw [upd_ne n]; exact h
theorem upd_free (n : a ≠ p) (h : H a = none) : upd H p u a = none := by rw [upd_ne n]; exact h
theorem free0 (e : Kp [] H H1) (h : H1 a = none) : H a = none := by
  cases q : H a with
  | none => rfl
  | some o => rw [e.at0 q] at h; cases h
theorem free1 (e : Kp [b] H H1) (n : a ≠ b) (h : H1 a = none) : H a = none := by
  cases q : H a with
  | none => rfl
  | some o => rw [e.at1 n q] at h; cases h
theorem free_upd (h : upd H p u a = none) : H a = none := by
  by_cases e : a = p
  · subst e; rw [upd_same] at h; cases h
  · rw [upd_ne e] at h; exact h
theorem rd_at (e : ∀ o, H a = some o → H1 a = some o) (h : Rd H a u) : Rd H1 a u := by
  rcases h with h | ⟨o, h⟩
  · exact .inl (e _ h)
  · exact .inr ⟨o, e _ h⟩
theorem SqL.at (e : ∀ o, H a = some o → H1 a = some o) (h : SqL K H a xs) : SqL K H1 a xs := h.elim (fun h => .inl (rd_at e h)) .inr
theorem SqT.at (e : ∀ o, H a = some o → H1 a = some o) (h : SqT K H a xs) : SqT K H1 a xs := h.elim (fun h => .inl (rd_at e h)) .inr
theorem SqL.kp (e : Kp [] H H1) (h : SqL K H a xs) : SqL K H1 a xs := SqL.at (fun _ => e.at0) h
theorem SqT.kp (e : Kp [] H H1) (h : SqT K H a xs) : SqT K H1 a xs := SqT.at (fun _ => e.at0) h
theorem SqL.kp1 (e : Kp [b] H H1) (n : a ≠ b) (h : SqL K H a xs) : SqL K H1 a xs := SqL.at (fun _ => e.at1 n) h
theorem SqT.kp1 (e : Kp [b] H H1) (n : a ≠ b) (h : SqT K H a xs) : SqT K H1 a xs := SqT.at (fun _ => e.at1 n) h
theorem SqL.new (hp : H p = none) (h : SqL K H a xs) : SqL K (upd H p u) a xs := SqL.at (fun _ => upd_new hp) h
theorem SqT.new (hp : H p = none) (h : SqT K H a xs) : SqT K (upd H p u) a xs := SqT.at (fun _ => upd_new hp) h
theorem SqL.other (n : a ≠ p) (h : SqL K H a xs) : SqL K (upd H p u) a xs := SqL.at (fun _ => upd_other n) h
theorem SqT.other (n : a ≠ p) (h : SqT K H a xs) : SqT K (upd H p u) a xs := SqT.at (fun _ => upd_other n) h
theorem New.kp (N : New H p o H1) : Kp ms H H1 := by rw [N.eq]; exact Kp.new N.fr
theorem New.at_ (N : New H p o H1) : H1 p = some o := by rw [N.eq]; exact upd_same
theorem New.keep (N : New H p o H1) (h : H a = some u) : H1 a = some u := by rw [N.eq]; exact upd_new N.fr h
theorem New.free (N : New H p o H1) (h : H1 a = none) : H a = none := by rw [N.eq] at h; exact free_upd h
theorem New.ne (N : New H p o H1) (h : H a = some u) : p ≠ a := (ne_of_none h N.fr).symm
theorem New.sqL (N : New H p o H1) (h : SqL K H a xs) : SqL K H1 a xs := SqL.kp N.kp h
theorem New.sqT (N : New H p o H1) (h : SqT K H a xs) : SqT K H1 a xs := SqT.kp N.kp h
theorem ne_of2 (h : H a = some o) (h' : H b = none) : a ≠ b := ne_of_none h h'
end

/-! ## items -/
theorem atI_at {xs : List V} {i : Int} (h0 : 0 ≤ i) (h1 : i < xs.length) : atI xs i = some (xs.getD i.toNat .non) := by
  have e : i = ((i.toNat : Nat) : Int) := by omega
  have h : xs[i.toNat]? = some (xs.getD i.toNat .non) := by
    rw [List.getD_eq_getElem?_getD, List.getElem?_eq_getElem (by omega)]
    rfl
  exact e ▸ atI_nat h
theorem atI_ints {ns : List Int} {i : Int} (h0 : 0 ≤ i) (h1 : i < ns.length) : atI (ns.map V.int) i = some (.int (ns.getD i.toNat 0)) := by
  rw [atI_at h0 (by rw [List.length_map]; exact h1)]
  congr 1
  rw [List.getD_eq_getElem?_getD, List.getD_eq_getElem?_getD, List.getElem?_map, List.getElem?_eq_getElem (by omega)]
  rfl
theorem atI_strs {ns : List Str} {i : Int} (h0 : 0 ≤ i) (h1 : i < ns.length) : atI (ns.map V.str) i = some (.str (ns.getD i.toNat Str.empty)) := by
  rw [atI_at h0 (by rw [List.length_map]; exact h1)]
  congr 1
  rw [List.getD_eq_getElem?_getD, List.getD_eq_getElem?_getD, List.getElem?_map, List.getElem?_eq_getElem (by omega)]
  rfl
theorem atI_codes {z : Str} {i : Int} (h0 : 0 ≤ i) (h1 : i < z.length) : atI z.cps.toList i = some (z.cps.getD i.toNat 0) := by
  have e : i = ((i.toNat : Nat) : Int) := by omega
  have hl : i.toNat < z.cps.size := by have : z.length = z.cps.size := rfl; omega
  unfold atI
  have q : ixN z.cps.toList.length i = some i.toNat := by
    unfold ixN
    rw [if_pos h0, if_pos (by rw [Array.length_toList]; omega)]
  rw [q]
  show z.cps.toList[i.toNat]? = _
  rw [Array.getElem?_toList, Array.getElem?_eq_getElem hl, Array.getD, dif_pos hl]
  rfl

/-! ## the law's box: its digits at d, its place -/
structure Bx (H : Hp) (b d : Addr) : Prop where
  ex : ∃ (at_ : Int) (ds : List Int), H b = some (.lst [.ref d, .int at_]) ∧ H d = some (.lst (ds.map V.int)) ∧ 0 ≤ at_
section
variable {H H1 : Hp} {b d p : Addr} {o : HO}
theorem Bx.ne (h : Bx H b d) : d ≠ b := by
  obtain ⟨at_, ds, h1, h2, _⟩ := h.ex
  intro e
  subst e
  rw [h1] at h2
  cases ds with
  | nil => cases h2
  | cons n r => simp at h2
theorem Bx.kp0 (h : Bx H b d) (e : Kp [] H H1) : Bx H1 b d := by
  obtain ⟨at_, ds, h1, h2, h3⟩ := h.ex
  exact ⟨at_, ds, e.at0 h1, e.at0 h2, h3⟩
theorem Bx.new (h : Bx H b d) (hp : H p = none) : Bx (upd H p o) b d := h.kp0 (Kp.new hp)
theorem Bx.other (h : Bx H b d) (n1 : p ≠ b) (n2 : p ≠ d) : Bx (upd H p o) b d := by
  obtain ⟨at_, ds, h1, h2, h3⟩ := h.ex
  exact ⟨at_, ds, upd_other (Ne.symm n1) h1, upd_other (Ne.symm n2) h2, h3⟩
theorem Bx.nw (h : Bx H b d) (N : New H p o H1) : Bx H1 b d := by rw [N.eq]; exact h.new N.fr
theorem Bx.ne_new (h : Bx H b d) (hp : H p = none) : p ≠ b ∧ p ≠ d := by
  obtain ⟨at_, ds, h1, h2, h3⟩ := h.ex
  exact ⟨fun e => ne_of_none h1 hp e.symm, fun e => ne_of_none h2 hp e.symm⟩
end
end Sa

namespace Sa
open PySem L2

/-! ## loops -/
section
variable {K : PySem.W.Frag} {σ : St} {H : Hp} {D : Ends} {wi : TI} {g : TG} {tb : TS} {ta : TA} {tl te : TE} {tt : TT} {R : It → Hp → Prop} {a : Addr} {xs : List V} {lo hi : Int} {n : Nat} {Q : VK} {vs : List Nat} {z : Str}
def ForJ (J : It) (g : TG) (tb : TS) (D : Ends) (σ : St) (H1 : Hp) : Prop := ∃ W : Nat → Nat → St → Hp → Prop, (∃ m, W 0 m σ H1) ∧ ∀ i m σ H, W i m σ H →
  (J.stop i H ∧ D.nx σ H) ∨ (J.go i H ∧ ∃ N : St → Hp → Prop, (∀ σ' H', N σ' H' → ∃ m', m' < m ∧ W (i + 1) m' σ' H') ∧ ∀ x H', J.yld i H x H' → g x σ H' fun σ2 H2 => tb { D with nx := N, ct := N, bk := D.nx } σ2 H2)
def LcJ (J : It) (g : TG) (tt : TT) (te : TE) (vs : List Nat) (σ : St) (H1 : Hp) (Q : VK) : Prop := ∀ D, H1 D = none → ∃ W : Nat → Nat → Hp → Prop, (∃ m, W 0 m (upd H1 D (.lst []))) ∧ ∀ i m H, W i m H →
  (J.stop i H ∧ Q (.ref D) H) ∨ (J.go i H ∧ ∃ Nx : Hp → Prop, (∀ H', Nx H' → ∃ m', m' < m ∧ W (i + 1) m' H') ∧ ∀ x H', J.yld i H x H' → g x (wipe σ vs) H' fun σ2 H2 => wipe σ2 vs = wipe σ vs ∧ tt σ2 H2 fun b H3 =>
    if b = true then te σ2 H3 fun y H4 => ∃ acc, H4 D = some (.lst acc) ∧ acc.length < sizeLine ∧ Nx (upd H4 D (.lst (acc ++ [y]))) else Nx H3)
theorem c_for (h : wi σ H fun J H1 => ForJ J g tb D σ H1) : tFor wi g tb D σ H := h
theorem c_lc (h : wi σ H fun J H1 => LcJ J g tt te vs σ H1 Q) : tLc wi g tt te vs σ H Q := h
theorem c_rng1 (h : ta σ H fun vs H1 => ∃ j : Int, vs = [.int j] ∧ -(2 ^ 62) ≤ j ∧ j < 2 ^ 62 ∧ R (Itr 0 j.toNat) H1) : iRng1 ta σ H R := h
theorem c_rng2 (h : ta σ H fun vs H1 => ∃ i j : Int, vs = [.int i, .int j] ∧ (-(2 ^ 62) ≤ i ∧ i < 2 ^ 62 ∧ -(2 ^ 62) ≤ j ∧ j < 2 ^ 62) ∧ R (Itr i (j - i).toNat) H1) : iRng2 ta σ H R := h
theorem c_r1F (h1 : -4611686018427387904 ≤ hi ∧ hi < 4611686018427387904) (h : ForJ (Itr 0 hi.toNat) g tb D σ H) : ∃ j : Int, [V.int hi] = [.int j] ∧ -(2 ^ 62) ≤ j ∧ j < 2 ^ 62 ∧ ForJ (Itr 0 j.toNat) g tb D σ H := ⟨hi, rfl, by omega, by omega, h⟩
theorem c_r2F (h1 : -4611686018427387904 ≤ hi ∧ hi < 4611686018427387904 ∧ -4611686018427387904 ≤ lo ∧ lo < 4611686018427387904) (h : ForJ (Itr lo (hi - lo).toNat) g tb D σ H) : ∃ i j : Int, [V.int lo, V.int hi] = [.int i, .int j] ∧ (-(2 ^ 62) ≤ i ∧ i < 2 ^ 62 ∧ -(2 ^ 62) ≤ j ∧ j < 2 ^ 62) ∧ ForJ (Itr i (j - i).toNat) g tb D σ H :=
  ⟨lo, hi, rfl, by omega, h⟩
theorem c_itLF (h : SqL K H a xs) (q : ForJ (Itl K a) g tb D σ H) : ∃ b, V.ref a = .ref b ∧ (∃ xs, SqL K H b xs) ∧ ForJ (Itl K b) g tb D σ H := ⟨a, rfl, ⟨xs, h⟩, q⟩
theorem c_itTF (h : SqT K H a xs) (q : ForJ (Itt K a) g tb D σ H) : ∃ b, V.ref a = .ref b ∧ (∃ xs, SqT K H b xs) ∧ ForJ (Itt K b) g tb D σ H := ⟨a, rfl, ⟨xs, h⟩, q⟩
theorem c_itSF (q : ForJ (Its z) g tb D σ H) : ∃ x, V.str z = .str x ∧ ForJ (Its x) g tb D σ H := ⟨z, rfl, q⟩
theorem c_r1C (h1 : -4611686018427387904 ≤ hi ∧ hi < 4611686018427387904) (h : LcJ (Itr 0 hi.toNat) g tt te vs σ H Q) : ∃ j : Int, [V.int hi] = [.int j] ∧ -(2 ^ 62) ≤ j ∧ j < 2 ^ 62 ∧ LcJ (Itr 0 j.toNat) g tt te vs σ H Q := ⟨hi, rfl, by omega, by omega, h⟩
theorem c_r2C (h1 : -4611686018427387904 ≤ hi ∧ hi < 4611686018427387904 ∧ -4611686018427387904 ≤ lo ∧ lo < 4611686018427387904) (h : LcJ (Itr lo (hi - lo).toNat) g tt te vs σ H Q) : ∃ i j : Int, [V.int lo, V.int hi] = [.int i, .int j] ∧ (-(2 ^ 62) ≤ i ∧ i < 2 ^ 62 ∧ -(2 ^ 62) ≤ j ∧ j < 2 ^ 62) ∧ LcJ (Itr i (j - i).toNat) g tt te vs σ H Q :=
  ⟨lo, hi, rfl, by omega, h⟩
theorem c_itLC (h : SqL K H a xs) (q : LcJ (Itl K a) g tt te vs σ H Q) : ∃ b, V.ref a = .ref b ∧ (∃ xs, SqL K H b xs) ∧ LcJ (Itl K b) g tt te vs σ H Q := ⟨a, rfl, ⟨xs, h⟩, q⟩
theorem c_itTC (h : SqT K H a xs) (q : LcJ (Itt K a) g tt te vs σ H Q) : ∃ b, V.ref a = .ref b ∧ (∃ xs, SqT K H b xs) ∧ LcJ (Itt K b) g tt te vs σ H Q := ⟨a, rfl, ⟨xs, h⟩, q⟩
theorem c_itSC (q : LcJ (Its z) g tt te vs σ H Q) : ∃ x, V.str z = .str x ∧ LcJ (Its x) g tt te vs σ H Q := ⟨z, rfl, q⟩
theorem c_iList (h : tl σ H fun x H1 => ∃ a, x = .ref a ∧ (∃ xs, SqL K H1 a xs) ∧ R (Itl K a) H1) : iList K tl σ H R := h
theorem c_iTup (h : tl σ H fun x H1 => ∃ a, x = .ref a ∧ (∃ xs, SqT K H1 a xs) ∧ R (Itt K a) H1) : iTup K tl σ H R := h
theorem c_iStr (h : tl σ H fun v H1 => ∃ x, v = .str x ∧ R (Its x) H1) : iStr tl σ H R := h
/-- for .. in range: the word Pv by the turn -/
theorem forR (Pv : Nat → St → Hp → Prop) (h0 : Pv 0 σ H) (hs : ∀ i σ H, i < n → Pv i σ H → g (.int (lo + i)) σ H fun σ2 H2 => tb { D with nx := Pv (i + 1), ct := Pv (i + 1), bk := D.nx } σ2 H2) (hd : ∀ σ H, Pv n σ H → D.nx σ H) : ForJ (Itr lo n) g tb D σ H := for_range Pv h0 hs hd
theorem forL (xs : List V) (Pv : Nat → St → Hp → Prop) (h0 : Pv 0 σ H) (hl : ∀ i σ H, i ≤ xs.length → Pv i σ H → SqL K H a xs)
    (hs : ∀ i x σ H, xs[i]? = some x → Pv i σ H → g x σ H fun σ2 H2 => tb { D with nx := Pv (i + 1), ct := Pv (i + 1), bk := D.nx } σ2 H2) (hd : ∀ σ H, Pv xs.length σ H → D.nx σ H) : ForJ (Itl K a) g tb D σ H := for_list Pv h0 hl hs hd
theorem forT (xs : List V) (Pv : Nat → St → Hp → Prop) (h0 : Pv 0 σ H) (hl : ∀ i σ H, i ≤ xs.length → Pv i σ H → SqT K H a xs)
    (hs : ∀ i x σ H, xs[i]? = some x → Pv i σ H → g x σ H fun σ2 H2 => tb { D with nx := Pv (i + 1), ct := Pv (i + 1), bk := D.nx } σ2 H2) (hd : ∀ σ H, Pv xs.length σ H → D.nx σ H) : ForJ (Itt K a) g tb D σ H := for_tup Pv h0 hl hs hd
theorem forS (Pv : Nat → St → Hp → Prop) (h0 : Pv 0 σ H)
    (hs : ∀ (i : Nat) (c : Nat) σ H, z.cps.toList[i]? = some c → Pv i σ H → g (.str ⟨#[c]⟩) σ H fun σ2 H2 => tb { D with nx := Pv (i + 1), ct := Pv (i + 1), bk := D.nx } σ2 H2) (hd : ∀ σ H, Pv z.cps.toList.length σ H → D.nx σ H) : ForJ (Its z) g tb D σ H := by
  refine ⟨fun i m σ H => m = z.cps.size - i ∧ i ≤ z.cps.size ∧ Pv i σ H, ⟨_, rfl, Nat.zero_le _, h0⟩, ?_⟩
  rintro i m σ H ⟨rfl, hi, p⟩
  by_cases hlt : i < z.cps.size
  · refine .inr ⟨hlt, Pv (i + 1), fun σ' H' p' => ⟨_, by omega, rfl, hlt, p'⟩, fun x H' y => ?_⟩
    obtain ⟨e, c, hc, e2⟩ := y
    subst e e2
    exact hs i c σ _ (by rw [Array.getElem?_toList]; exact hc) p
  · have e : i = z.cps.toList.length := by rw [Array.length_toList]; omega
    subst e
    exact .inl ⟨by rw [Array.length_toList] at hlt; exact Nat.le_of_not_lt hlt, hd σ H p⟩

/-! comprehensions: the word Pv by the new list's place, the turn, what the list holds, the heap -/
def LcN (Pv : Addr → Nat → List V → Hp → Prop) (Dl : Addr) (i : Nat) (H : Hp) : Prop := ∃ acc, H Dl = some (.lst acc) ∧ acc.length ≤ i ∧ Pv Dl i acc H
abbrev LcT (g : TG) (tt : TT) (te : TE) (vs : List Nat) (σ : St) (Pv : Addr → Nat → List V → Hp → Prop) (Dl : Addr) (i : Nat) (x : V) (H' : Hp) : Prop :=
  g x (wipe σ vs) H' fun σ2 H2 => wipe σ2 vs = wipe σ vs ∧ tt σ2 H2 fun b H3 =>
    if b = true then te σ2 H3 fun y H4 => ∃ acc, H4 Dl = some (.lst acc) ∧ acc.length < sizeLine ∧ LcN Pv Dl (i + 1) (upd H4 Dl (.lst (acc ++ [y]))) else LcN Pv Dl (i + 1) H3
theorem lc_push {Pv : Addr → Nat → List V → Hp → Prop} {Dl : Addr} {i : Nat} {H4 : Hp} {acc : List V} {y : V} (h : H4 Dl = some (.lst acc)) (hl : acc.length ≤ i) (hi : i < 16777216) (p : Pv Dl (i + 1) (acc ++ [y]) (upd H4 Dl (.lst (acc ++ [y])))) :
    ∃ acc, H4 Dl = some (.lst acc) ∧ acc.length < sizeLine ∧ LcN Pv Dl (i + 1) (upd H4 Dl (.lst (acc ++ [y]))) :=
  ⟨acc, h, by rw [sizeLine_eq]; omega, acc ++ [y], upd_same, by rw [List.length_append, List.length_singleton]; omega, p⟩
theorem lc_skip {Pv : Addr → Nat → List V → Hp → Prop} {Dl : Addr} {i : Nat} {H3 : Hp} {acc : List V} (h : H3 Dl = some (.lst acc)) (hl : acc.length ≤ i) (p : Pv Dl (i + 1) acc H3) : LcN Pv Dl (i + 1) H3 := ⟨acc, h, by omega, p⟩
theorem lcR (Pv : Addr → Nat → List V → Hp → Prop) (h0 : ∀ Dl, H Dl = none → Pv Dl 0 [] (upd H Dl (.lst [])))
    (hs : ∀ Dl i acc H', H Dl = none → i < n → H' Dl = some (.lst acc) → acc.length ≤ i → Pv Dl i acc H' → LcT g tt te vs σ Pv Dl i (.int (lo + i)) H')
    (hd : ∀ Dl acc H', H Dl = none → H' Dl = some (.lst acc) → acc.length ≤ n → Pv Dl n acc H' → Q (.ref Dl) H') : LcJ (Itr lo n) g tt te vs σ H Q := fun Dl hD =>
  lc_range (LcN Pv Dl) ⟨[], upd_same, Nat.zero_le _, h0 Dl hD⟩ (fun i H' hi ⟨acc, h1, h2, h3⟩ => hs Dl i acc H' hD hi h1 h2 h3) fun H' ⟨acc, h1, h2, h3⟩ => hd Dl acc H' hD h1 h2 h3
theorem lcL (xs : List V) (Pv : Addr → Nat → List V → Hp → Prop) (h0 : ∀ Dl, H Dl = none → Pv Dl 0 [] (upd H Dl (.lst []))) (hl : ∀ Dl i acc H', H Dl = none → Pv Dl i acc H' → SqL K H' a xs)
    (hs : ∀ Dl i x acc H', H Dl = none → xs[i]? = some x → H' Dl = some (.lst acc) → acc.length ≤ i → Pv Dl i acc H' → LcT g tt te vs σ Pv Dl i x H')
    (hd : ∀ Dl acc H', H Dl = none → H' Dl = some (.lst acc) → acc.length ≤ xs.length → Pv Dl xs.length acc H' → Q (.ref Dl) H') : LcJ (Itl K a) g tt te vs σ H Q := fun Dl hD =>
  lc_list (xs := xs) (LcN Pv Dl) ⟨[], upd_same, Nat.zero_le _, h0 Dl hD⟩ (fun i H' _ ⟨acc, _, _, h3⟩ => hl Dl i acc H' hD h3) (fun i x H' hi ⟨acc, h1, h2, h3⟩ => hs Dl i x acc H' hD hi h1 h2 h3) fun H' ⟨acc, h1, h2, h3⟩ => hd Dl acc H' hD h1 h2 h3
theorem lcT (xs : List V) (Pv : Addr → Nat → List V → Hp → Prop) (h0 : ∀ Dl, H Dl = none → Pv Dl 0 [] (upd H Dl (.lst []))) (hl : ∀ Dl i acc H', H Dl = none → Pv Dl i acc H' → SqT K H' a xs)
    (hs : ∀ Dl i x acc H', H Dl = none → xs[i]? = some x → H' Dl = some (.lst acc) → acc.length ≤ i → Pv Dl i acc H' → LcT g tt te vs σ Pv Dl i x H')
    (hd : ∀ Dl acc H', H Dl = none → H' Dl = some (.lst acc) → acc.length ≤ xs.length → Pv Dl xs.length acc H' → Q (.ref Dl) H') : LcJ (Itt K a) g tt te vs σ H Q := fun Dl hD =>
  lc_tup (xs := xs) (LcN Pv Dl) ⟨[], upd_same, Nat.zero_le _, h0 Dl hD⟩ (fun i H' _ ⟨acc, _, _, h3⟩ => hl Dl i acc H' hD h3) (fun i x H' hi ⟨acc, h1, h2, h3⟩ => hs Dl i x acc H' hD hi h1 h2 h3) fun H' ⟨acc, h1, h2, h3⟩ => hd Dl acc H' hD h1 h2 h3
theorem c_unL {K : PySem.W.Frag} {ys : List V} {gs : TGs} {R : St → Hp → Prop} (h : SqL K H a ys) (hl : ys.length = n) (q : gs ys σ H R) : gLst K n gs (.ref a) σ H R := ⟨a, ys, rfl, h, hl, q⟩
theorem c_unT {K : PySem.W.Frag} {ys : List V} {gs : TGs} {R : St → Hp → Prop} (h : SqT K H a ys) (hl : ys.length = n) (q : gs ys σ H R) : gTup K n gs (.ref a) σ H R := ⟨a, ys, rfl, h, hl, q⟩
theorem c_gCons {v : V} {r : List V} {gs : TGs} {R : St → Hp → Prop} (q : g v σ H fun σ' H' => gs r σ' H' R) : gCons g gs (v :: r) σ H R := ⟨v, r, rfl, q⟩
theorem c_gNil {R : St → Hp → Prop} (q : R σ H) : gNil [] σ H R := ⟨rfl, q⟩
theorem c_cut {t u : TS} (Mid : St → Hp → Prop) (h1 : t { D with nx := Mid } σ H) (h2 : ∀ σ' H', Mid σ' H' → u D σ' H') : Evl.tCut t u D σ H := ⟨Mid, h1, h2⟩
theorem c_yes {R : Bool → Hp → Prop} (h : R true H) : tYes σ H R := h
end
end Sa

namespace Sa
open PySem L2

/-! ## texts by their codes -/
def txt (cs : List Nat) : Str := ⟨cs.toArray⟩
theorem txt_len (cs : List Nat) : (txt cs).length = cs.length := by show cs.toArray.size = _; simp
theorem txt_cps (cs : List Nat) : (txt cs).cps.toList = cs := by show cs.toArray.toList = _; simp
theorem txt_of (s : Str) : s = txt s.cps.toList := by cases s; simp [txt]
theorem txt_app (cs ds : List Nat) : txt cs ++ txt ds = txt (cs ++ ds) := by
  show Str.append _ _ = _
  simp [Str.append, txt]
theorem txt_inj {cs ds : List Nat} : txt cs = txt ds ↔ cs = ds := by
  constructor
  · intro h
    have e := congrArg (fun s : Str => s.cps.toList) h
    simpa [txt] using e
  · intro h; rw [h]
theorem txt_one (c : Nat) : (⟨#[c]⟩ : Str) = txt [c] := rfl
theorem cutS_txt (cs : List Nat) (lo hi : Option Int) : cutS (txt cs) lo hi = txt ((cs.drop (HT.sIx cs.length 0 lo)).take (HT.sIx cs.length cs.length hi - HT.sIx cs.length 0 lo)) := by
  unfold cutS
  rw [txt_len, txt_cps]
  rfl
theorem join_ones : ∀ cs : List Nat, Str.join (txt []) (cs.map fun c => txt [c]) = txt cs
  | [] => rfl
  | [c] => rfl
  | c :: d :: r => by
    have ih := join_ones (d :: r)
    show txt [c] ++ txt [] ++ Str.join (txt []) ((d :: r).map fun c => txt [c]) = txt (c :: d :: r)
    rw [ih, txt_app, txt_app]
    rfl
theorem tjoin (s : Str) (ys : List Str) : Txt.join s ys = Str.join s ys := StrLaws.glued_eq_join s ys
theorem tjoin_ones (cs : List Nat) : Txt.join (txt []) (cs.map fun c => txt [c]) = txt cs := by rw [tjoin, join_ones]
theorem sum_ones (cs : List Nat) : (((cs.map fun c => txt [c])).map (·.length)).sum = cs.length := by
  induction cs with
  | nil => rfl
  | cons c r ih =>
    simp only [List.map_cons, List.sum_cons, ih, List.length_cons, txt_len]
    simp
    omega
/-! ## slices -/
def cutL {α : Type} (xs : List α) (lo hi : Option Int) : List α := (xs.drop (HT.sIx xs.length 0 lo)).take (HT.sIx xs.length xs.length hi - HT.sIx xs.length 0 lo)
theorem cutV_eq (xs : List V) (lo hi : Option Int) : cutV xs lo hi = cutL xs lo hi := rfl
theorem cutL_map {α β : Type} (f : α → β) (xs : List α) (lo hi : Option Int) : cutL (xs.map f) lo hi = (cutL xs lo hi).map f := by
  unfold cutL
  rw [List.length_map, List.map_take, List.map_drop]
theorem cutV_ints (ns : List Int) (lo hi : Option Int) : cutV (ns.map V.int) lo hi = (cutL ns lo hi).map V.int := by rw [cutV_eq, cutL_map]
theorem sIx_of {n d : Nat} {i : Int} (h : 0 ≤ i) : HT.sIx n d (some i) = min i.toNat n := by
  obtain ⟨k, rfl⟩ := Int.eq_ofNat_of_zero_le h
  exact HT.sIx_nat n d k
theorem cutL_lt {α : Type} {xs : List α} {i j : Int} (h0 : 0 ≤ i) (h1 : i ≤ j) (h2 : j ≤ xs.length) : cutL xs (some i) (some j) = (xs.drop i.toNat).take (j.toNat - i.toNat) := by
  unfold cutL
  rw [sIx_of h0, sIx_of (by omega), Nat.min_eq_left (by omega), Nat.min_eq_left (by omega)]
theorem cutL_to {α : Type} {xs : List α} {j : Int} (h1 : 0 ≤ j) (h2 : j ≤ xs.length) : cutL xs none (some j) = xs.take j.toNat := by
  unfold cutL
  rw [sIx_of h1, Nat.min_eq_left (by omega)]
  simp [HT.sIx]
theorem cutL_from {α : Type} {xs : List α} {i : Int} (h0 : 0 ≤ i) (h1 : i ≤ xs.length) : cutL xs (some i) none = xs.drop i.toNat := by
  unfold cutL
  rw [sIx_of h0, Nat.min_eq_left (by omega)]
  show (xs.drop i.toNat).take (xs.length - i.toNat) = _
  rw [List.take_of_length_le (by rw [List.length_drop]; omega)]
/-! ## lists of whole numbers compared -/
section
variable {K : PySem.W.Frag} {H : Hp} {Q : VK} {a b : Addr} {ns ms : List Int}
theorem dpAll_ints : ∀ ns : List Int, DpAll K H (ns.map V.int) (ns.map PyData.int)
  | [] => .nil
  | n :: r => .cons (.int n) (dpAll_ints r)
theorem dp_ints (h : SqL K H a (ns.map V.int)) : Dp K H (.ref a) (.list (ns.map PyData.int)) := .lst h (dpAll_ints ns)
theorem eqvAll_ints : ∀ ns ms : List Int, PyData.eqvAll (ns.map PyData.int) (ms.map PyData.int) = decide (ns = ms)
  | [], [] => by simp [PyData.eqvAll]
  | [], _ :: _ => by simp [PyData.eqvAll]
  | _ :: _, [] => by simp [PyData.eqvAll]
  | a :: r, b :: t => by
    simp only [List.map_cons, PyData.eqvAll, PyData.eqv, eqvAll_ints r t]
    by_cases h : a = b <;> by_cases h' : r = t <;> simp [h, h']
theorem c_eqLI (ha : SqL K H a (ns.map V.int)) (hb : SqL K H b (ms.map V.int)) (q : Q (.bl (decide (ns = ms))) H) : rEqU K (.ref a) (.ref b) H Q :=
  c_eqD (dp_ints ha) (dp_ints hb) (PySem.W.ke_shaped_ints ns) (PySem.W.ke_shaped_ints ms) (by rw [PyData.eqv, eqvAll_ints]; exact q)
theorem c_neLI (ha : SqL K H a (ns.map V.int)) (hb : SqL K H b (ms.map V.int)) (q : Q (.bl (!decide (ns = ms))) H) : rNeU K (.ref a) (.ref b) H Q :=
  c_neD (dp_ints ha) (dp_ints hb) (PySem.W.ke_shaped_ints ns) (PySem.W.ke_shaped_ints ms) (by rw [PyData.eqv, eqvAll_ints]; exact q)
end
theorem map_snocI (ds : List Int) (z : Int) : ds.map V.int ++ [V.int z] = (ds ++ [z]).map V.int := by rw [List.map_append]; rfl
theorem take_succ' {α : Type} {xs : List α} {i : Nat} {x : α} (h : xs[i]? = some x) : xs.take (i + 1) = xs.take i ++ [x] := by
  rw [List.take_succ, h]; rfl
end Sa

/-! Defs whose promise is kept where no repr is under way around them (the law's defs that call repr). -/
namespace Sa
open PySem PySem.Spec PyProof.Rows L2
structure FnG (P : Program) (w : World) (K : PySem.W.Frag) (mg : Str → Option Value) (base : Heap) (CX : CXT) (k : Nat) (f : Addr) (fd : FuncData) (ps : List Str) (sp : Sp) : Prop where
  len : ∀ vs H Q E, sp vs H Q E → vs.length = ps.length
  go : ∀ (A : Around) (fs : List Env) (s : Shared) (H : Hp) (args : Args) (us : List Value) (vs : List V) (Q : VK) (E : XK),
    A.guards = some [] ∧ Room k A ∧ Env0 P w K mg base A fs s H ∧ BindsTo s fd args (ps.zip us) ∧ Vals vs us ∧ sp vs H Q E → codeAny (model P w) A (.call (.ref f) args) (CR CX fs P w H s Q E) s
theorem FnG.mono {P : Program} {w : World} {K : PySem.W.Frag} {mg : Str → Option Value} {base : Heap} {CX : CXT} {j k : Nat} {f : Addr} {fd : FuncData} {ps : List Str} {sp : Sp} (F : FnG P w K mg base CX j f fd ps sp) (h : j ≤ k) : FnG P w K mg base CX k f fd ps sp :=
  ⟨F.len, fun A fs s H args us vs Q E z => F.go A fs s H args us vs Q E ⟨z.1, z.2.1.mono h, z.2.2⟩⟩
section
variable {P : Program} {w : World} {K : PySem.W.Frag} {mg : Str → Option Value} {base : Heap} {CX : CXT} {k : Nat} {f : Addr} {x : Str} {st : Stmt} {N ps : List Str} {sp : Sp}
/-- what such a body owes -/
def BodyG (P : Program) (w : World) (K : PySem.W.Frag) (mg : Str → Option Value) (base : Heap) (x : Str) (st : Stmt) (N : List Str) (k : Nat) (sp : Sp) : Prop :=
  ∀ (cdv : Value) (A : Around) (fs : List Env) (s : Shared) (H : Hp) (vs : List V) (Q : VK) (E : XK), sp vs H Q E → let X : Cx := (cxOf CX0 P w K mg base N x (defScope st) (He.ga K x) cdv A fs s H E).nox
    Room k X.A → X.A.guards = some [] → ∃ t, PSs X (defBody st) t ∧ t { nx := fun _ H' => Q .non H', rt := Q } (start N vs) H
theorem fnG_of {fd : FuncData} (F : FunD K x x (defArgs st) (defBody st) (defScope st) [] [] (He.ga K x) fd) (S : FnScope N ps (defScope st)) (len : ∀ vs H Q E, sp vs H Q E → vs.length = ps.length) (body : BodyG P w K mg base x st N k sp) :
    FnG P w K mg base CX0 (k + 1) (He.ga K x) fd ps sp := by
  obtain ⟨oc, od, dV, kV, doc, pm, an, cdv, ct, osl, rfl, lk, hcd, _, _⟩ := F.ex
  refine ⟨len, ?_⟩
  rintro A fs s H args us vs Q E ⟨hg, hr, e0, hb, rv, hsp⟩
  have hlen := len _ _ _ _ hsp
  have inK : K.In s.heap := e0.mod.kin.keeps (fun b o e => (e0.bs b o e).1)
  have noL : s.heap.NoLimit := e0.mod.nolimit.keeps (fun b o e => (e0.bs b o e).1)
  have loc : ∀ y ∈ ps.zip us, (defScope st).names.lookup y.1 = some .local ∨ ((defScope st).names.lookup y.1 = some .cell ∧ ((cellsFrom (s.heap.objs.size + 1) (defScope st).names []).lookup y.1).isSome = true) := by
    rintro ⟨n, v⟩ hy
    exact (S.par n (List.of_mem_zip hy).1).imp id (fun q => ⟨q, PySem.W.cellsFrom_some _ _ _ (.inl q)⟩)
  refine codeAny_call_function hr.depth (inK _ _ lk) rfl S.co S.gen rfl (PySem.W.codeRec_of inK hcd) (hb _ _ _ _ (wpAny_newFunctionEnv_cells S.kind loc (fun env he s1 ic => ?_)))
  cases he
  refine ⟨noL.keeps ic.toInCall.keep, codeAny_func ?_⟩
  obtain ⟨t, ht, hq⟩ := body cdv A fs s H vs Q E hsp (hr.deeper _) hg
  have I := inv_start (CX := CX0) (P := P) (w := w) (K := K) (mg := mg) (base := base) (E := E) S hr.hd e0 hlen rv ic
  refine wpAny_mono (ht.nox.run [] s1 (start N vs) H _ I hq) (fun fl s' hs => ?_) (fun e s' hs => hs)
  have fin : ∀ {σ' H' v u}, Inv (cxOf CX0 P w K mg base N x (defScope st) (He.ga K x) cdv A fs s H E) [] σ' H' s' → RelV v u → Q v H' → CE fs P w H s Q u s' := by
    intro σ' H' v u J rv q
    exact ⟨v, H', J.os, J.bare, J.base, J.hok, rv, q⟩
  cases fl with
  | ret u => obtain ⟨v, σ', H', J, rv, q⟩ := hs; exact fin J rv q
  | next => obtain ⟨σ', H', J, q⟩ := hs; exact fin (v := V.non) (u := Value.none) J rfl q
  | brk => obtain ⟨_, _, _, q⟩ := hs; exact q.elim
  | cont => obtain ⟨_, _, _, q⟩ := hs; exact q.elim
end
/-- a def under the module's name x that keeps sp where no repr is under way -/
structure DefG (P : Program) (w : World) (K : PySem.W.Frag) (mg : Str → Option Value) (base : Heap) (x : Str) (k : Nat) (ps : List Str) (sp : Sp) : Prop where
  gl : mg x = some (.ref (He.ga K x))
  kp : PySem.W.keepIn K (.ref (He.ga K x)) = true
  ok : ∃ fd, FnG P w K mg base CX0 k (He.ga K x) fd ps sp ∧ Binds K fd ps []
theorem defG_of {fa : List He.Fa} {fn : List He.DefD} {fx : List Fx} {P : Program} {w : World} {K : PySem.W.Frag} {mg : Str → Option Value} {base : Heap} (T : Tx fa fn fx K mg) (i j : Nat) {x : Str} {st : Stmt} {N ps : List Str} {k : Nat} {sp : Sp} (S : FnScope N ps (defScope st)) (B : BindN x st ps)
    (len : ∀ vs H Q E, sp vs H Q E → vs.length = ps.length) (body : BodyG P w K mg base x st N k sp) (hd : fn[i]? = some (dOf x st) := by rfl) (hg : fa[j]? = some (.glo x) := by rfl) : DefG P w K mg base x (k + 1) ps sp := by
  have gl := T.glo j hg
  obtain ⟨hp, X, G, c, _⟩ := T
  obtain ⟨fd, F⟩ := c.def_ i hd
  exact ⟨gl, F.kp, fd, fnG_of F S len body, F.bindsN B⟩
section
variable {X : Cx} {x : Str} {k j : Nat} {ps : List Str} {sp : Sp} {p pos : Pos} {e : Expr} {es : List Expr} {t : TA}
theorem pe_callG (D : DefG X.prog X.w X.K X.mg X.base x j ps sp) (hr : Room k X.A) (hgd : X.A.guards = some []) (ha : PA X (e :: es) t) (hjk : j ≤ k := by decide) (hg : Gl X x := by rfl)
    (hdb : (x == ("__debug__" : Str)) = false := by decide) (he : starEach (e :: es) X.env = (false, eval e X.env) :: starEach es X.env := by rfl) (hpl : (backTo pos (starEach es X.env)).any (·.1) = false := by rfl) :
    PE X (.Call (.Name x p) (e :: es) [] pos) (tCallA sp E0 t) := by
  obtain ⟨fd, F0, B⟩ := D.ok
  have F := F0.mono hjk
  refine ⟨fun pins s σ H Q I h => ?_⟩
  refine wpAny_Call_Name_kw (ld_glob I hg D.gl ?_ hdb)
  refine PySem.W.callWith_K (h₀ := X.base) I.ok.mod.kin D.kp (thn (ha.run pos pins s σ H _ I h) (fun us s1 z => ?_)) he hpl
  obtain ⟨vs, H1, I1, r, q⟩ := z
  refine ⟨I1.kIn, ?_⟩
  have n : (us ++ []).length = ps.length := by rw [List.append_nil, ← r.length]; exact F.len _ _ _ _ q
  have b := B s1 us I1.kIn n
  rw [List.append_nil] at b
  refine wpAny_call (codeAny_mono (F.go X.A X.stack s1 H1 ⟨us, []⟩ us vs Q E0 ⟨hgd, hr, I1.env0, b, r, q⟩) (fun r s' hq => ?_))
  cases r with
  | error e => exact False.elim hq
  | ok fl =>
    cases fl with
    | ret u => exact I1.after hq
    | next => exact False.elim hq
    | brk => exact False.elim hq
    | cont => exact False.elim hq
end
/-! ## repr of data -/
structure Nice (d : PyData) : Prop where
  lay : PyData.layable0 d = true
  shrt : PyData.intsShort 13 d = true
  show_ : PyData.showable d = true
theorem Nice.size {d : PyData} (h : Nice d) : d.shown.length ≤ sizeLine := by
  have z := shown_le13 h.lay h.shrt
  rw [sizeLine_eq]
  omega
theorem Nice.depth {d : PyData} (h : Nice d) : d.depth ≤ 64 := by
  have z := h.lay
  unfold PyData.layable0 at z
  simp only [Bool.and_eq_true, decide_eq_true_eq] at z
  exact z.1.2
def rReprD (K : PySem.W.Frag) : List V → Hp → VK → Prop := fun vs H Q => ∃ (x : V) (d : PyData), vs = [x] ∧ Dp K H x d ∧ Nice d ∧ Q (.str d.shown) H
theorem cr_reprD {X : Cx} {K : PySem.W.Frag} {A : Around} (hg : A.guards = some []) (hu : A.units + 100 < cLine) (hA : X.A = A := by rfl) (hK : X.K = K := by rfl) : CallR X (.builtin "repr") (rReprD K) := by
  subst hA hK
  intro pins s σ H vs us Q I r h
  obtain ⟨x, d, rfl, hd, nd, q⟩ := h
  obtain ⟨u, rfl, ru⟩ := vals1 r
  have hdp := nd.depth
  cases hd with
  | non => cases ru; exact PySem.P.repr_of_none ⟨.str _, H, I.tok _, ⟨_, rfl⟩, q⟩
  | bl b => cases ru; exact PySem.P.repr_of_bool ⟨.str _, H, I.tok _, ⟨_, rfl⟩, q⟩
  | int i => obtain ⟨t, rfl⟩ := ru; exact PySem.P.repr_of_int (of_decide_eq_true nd.show_) ⟨.str _, H, I.tok _, ⟨_, rfl⟩, q⟩
  | str z => obtain ⟨t, rfl⟩ := ru; exact PySem.P.repr_of_str ⟨.str _, H, I.tok _, ⟨_, rfl⟩, q⟩ nd.size
  | lst h1 h2 =>
    cases ru
    obtain ⟨as, hr⟩ := Dp.reads I _ _ _ (Dp.lst h1 h2) rfl
    exact repr_of_reads' hr nd.show_ (PyData.noDict_hsm (PyData.hasDict_of_layable nd.lay)) hg (by omega) (fun _ _ e => e) (fun h' u tk hk => ⟨.str _, H, I.kept hk, ⟨_, rfl⟩, q⟩) nd.size
  | tup h1 h2 =>
    cases ru
    obtain ⟨as, hr⟩ := Dp.reads I _ _ _ (Dp.tup h1 h2) rfl
    exact repr_of_reads' hr nd.show_ (PyData.noDict_hsm (PyData.hasDict_of_layable nd.lay)) hg (by omega) (fun _ _ e => e) (fun h' u tk hk => ⟨.str _, H, I.kept hk, ⟨_, rfl⟩, q⟩) nd.size
theorem c_repr {K : PySem.W.Frag} {H : Hp} {Q : VK} {x : V} {d : PyData} (h : Dp K H x d) (n : Nice d) (q : Q (.str d.shown) H) : rReprD K [x] H Q := ⟨x, d, rfl, h, n, q⟩

/-! ## the end of a law whose def is such -/
theorem run_end {P : Program} {w : World} {K : PySem.W.Frag} {mg mb : Str → Option Value} {k : Nat} {f a : Addr} {fd : FuncData} {x : Str} {sp : Sp} {s : Shared} {H : Hp}
    (KX : K.In s.heap) (hns : s.heap.Ns mainGlobals mg) (hb : s.heap.Ns builtinsNs mb) (hbb : ∀ x : Str, x ≠ "__name__" → mb x = bootBuiltins x) (hlim : s.heap.NoLimit) (hg : s.gens = #[]) (hr : Room k callerA)
    (F : ∀ base : Heap, K.In base → base.Ns mainGlobals mg → FnG P w K mg base CX0 k f fd [x] sp) (bind : BindsTo s fd ⟨[.ref a], []⟩ [(x, .ref a)]) (hsp : sp [.ref a] H (fun v _ => v = .bl true) fun _ _ _ => False)
    (only : Only H) (hok : HOk P w H s.heap) (one : ∀ b, H b ≠ none → b = a ∧ K.lookup a = none ∧ ∀ o, s.heap.get? a = some o → ∀ es ep, o.data ≠ .dict es ep) :
    codeAny (model P w) callerA (.call (.ref f) ⟨[.ref a], []⟩) (fun r s' => r = .ok (.ret (.bool true)) ∧ OldK s.heap s'.heap ∧ s'.os = s.os ∧ AllBare s'.gens) s := by
  have free : ∀ {b o es ep}, s.heap.get? b = some o → o.data = .dict es ep → H b = none := by
    intro b o es ep e d
    cases z : H b with
    | none => rfl
    | some u =>
      obtain ⟨e1, _, e3⟩ := one b (by rw [z]; intro q; cases q)
      subst e1
      exact absurd d (e3 o e es ep)
  have ns : ∀ {b m}, s.heap.Ns b m → (hidT s.heap H).Ns b m := by
    rintro b m ⟨o, es, ep, e, d, r⟩
    exact ⟨o, es, ep, hidT_get e (free e d), d, r⟩
  have KB : K.In (hidT s.heap H) := by
    intro b o e
    refine hidT_get (KX b o e) ?_
    cases z : H b with
    | none => rfl
    | some u =>
      obtain ⟨e1, e2, _⟩ := one b (by rw [z]; intro q; cases q)
      subst e1
      rw [e2] at e
      cases e
  have M : Mod K mg (hidT s.heap H) := ⟨KB, ns hns, ⟨mb, ns hb, hbb⟩, by obtain ⟨mc, h1, h2⟩ := hlim; exact ⟨mc, ns h1, h2⟩⟩
  have e0 : Env0 P w K mg (hidT s.heap H) callerA [] s H := ⟨rfl, M, fun b o e => of_hidT e, Nat.le_of_eq (hidT_size _ _), trivial, fun b hb => absurd hb (by simp [frs]), hok, .of_eq hg⟩
  refine codeAny_mono ((F _ KB (ns hns)).go callerA [] s H ⟨[.ref a], []⟩ [.ref a] [.ref a] _ _ ⟨rfl, hr, e0, bind, .cons rfl .nil, hsp⟩) (fun r s' z => ?_)
  cases r with
  | error e => exact False.elim z
  | ok fl =>
    cases fl with
    | next => exact False.elim z
    | brk => exact False.elim z
    | cont => exact False.elim z
    | ret u =>
      obtain ⟨v, H', os, bare, un, hok', rv, q⟩ := z
      cases (show v = .bl true from q)
      cases rv
      refine ⟨rfl, OldK.of_keep (fun b o e => ?_), os, bare⟩
      rcases only b with z | ⟨ob, xs, z⟩
      · exact un.keep b o e z (by simp [frs]) (by simp)
      · have e1 := (hok b _ z).1
        have e2 := (hok' b _ (un.frzs b ob _ z)).1
        rw [e] at e1
        cases e1
        exact e2
theorem law_end {l : PySem.W.OpenLaw} {n k : Nat} {q : Program} {loose : List Str} {XP : (Str → Option Value) → Heap → Prop} {YP : World → Heap → Prop} {d : DefRec} {x : Str}
    (hn : l.most = some n) (hn2 : n ≤ sizeLine) (hdf : d.params.defaults = []) (hr : Room k callerA)
    (F : ∀ (w : World) (mg : Str → Option Value) (fa : Addr) (h : Heap), YP w h → h.Ns mainGlobals mg → mg d.name = some (.ref fa) →
      ∃ (K : PySem.W.Frag) (fd : FuncData) (sp : Sp), K.In h ∧ (∀ (s : Shared) (u : Value), BindsTo s fd ⟨[u], []⟩ [(x, u)]) ∧
        (∀ (H : Hp) (a : Addr) (ns : List Int), SqL K H a (ns.map V.int) → sp [.ref a] H (fun v _ => v = .bl true) fun _ _ _ => False) ∧
        ∀ base : Heap, K.In base → base.Ns mainGlobals mg → FnG l.prog w K mg base CX0 k fa fd [x] sp) :
    PySem.W.WalkO q loose XP YP l.row.toRowW d [] (fun f vs => PySem.call f vs) := by
  refine Att.attach_call hn hdf (fun w s0 s mg mb fa o pm cd doc a vs ns G Y ho hd hcd hmg hobj hints hlen hg => ?_)
  obtain ⟨K, fd, sp, KX, bind, hsp, hF⟩ := F w mg fa _ Y G.T.g hmg
  have rv := vals_ints hints
  have len := hints.length
  have hz : ns.length ≤ sizeLine := Nat.le_trans hlen hn2
  cases hk : K.lookup a with
  | some ob =>
    have e := KX a ob hk
    rw [hobj] at e
    cases e
    exact run_end (H := fun _ => none) KX G.T.g G.T.b G.T.builtins G.T.nolimit hg hr hF (bind s _) (hsp _ a ns (.inr ⟨_, vs.toArray, _, hk, rfl, rfl, rfl, by rw [List.size_toArray, len]; exact hz, by simpa using rv⟩)) (fun _ => .inl rfl) (fun b u z => by cases z) (fun b z => absurd rfl z)
  | none =>
    have at_ : (fun b => if b = a then some (HO.frz { cls := .type "list", data := .seq vs.toArray } (.lst (ns.map V.int))) else none : Hp) a = some (HO.frz { cls := .type "list", data := .seq vs.toArray } (.lst (ns.map V.int))) := if_pos rfl
    refine run_end (H := fun b => if b = a then some (HO.frz { cls := .type "list", data := .seq vs.toArray } (.lst (ns.map V.int))) else none) KX G.T.g G.T.b G.T.builtins G.T.nolimit hg hr hF (bind s _) (hsp _ a ns (.inl (.inr ⟨_, at_⟩))) (fun b => ?_) (fun b u z => ?_) (fun b z => ?_)
    · by_cases h : b = a
      · exact .inr ⟨_, _, if_pos h⟩
      · exact .inl (if_neg h)
    · by_cases h : b = a
      · cases h
        cases (if_pos rfl).symm.trans z
        exact ⟨hobj, by rw [List.length_map]; exact hz, vs, _, rv, hobj⟩
      · cases (if_neg h).symm.trans z
    · by_cases h : b = a
      · refine ⟨h, hk, fun o2 e es ep dd => ?_⟩
        rw [hobj] at e
        cases e
        cases dd
      · exact absurd (if_neg h) z
/-- the law's own def, for this end -/
theorem lawG_of {fa : List He.Fa} {fn : List He.DefD} {P : Program} {w : World} {K : PySem.W.Frag} {mg : Str → Option Value} {h : Heap} {f : Addr} {N : List Str} {x : Str} {st : Stmt} {k : Nat} {sp : Sp} (KX : K.In h) (G : h.Ns mainGlobals mg) (c : He.SaysD fa fn K)
    (hf : mg "law" = some (.ref f)) (i j : Nat) (S : FnScope N [x] (defScope st)) (B : BindN "law" st [x]) (len : ∀ vs H Q E, sp vs H Q E → vs.length = 1) (body : ∀ base, BodyG P w K mg base "law" st N k sp)
    (hd : fn[i]? = some (dOf "law" st) := by rfl) (hg : fa[j]? = some (.glo "law") := by rfl) :
    ∃ fd : FuncData, (∀ (s : Shared) (v : Value), BindsTo s fd ⟨[v], []⟩ [(x, v)]) ∧ ∀ base : Heap, K.In base → base.Ns mainGlobals mg → FnG P w K mg base CX0 (k + 1) f fd [x] sp := by
  obtain ⟨fd, F⟩ := c.def_ i hd
  have gl := He.glo_ok KX G (c.fact j hg)
  cases hf.symm.trans gl
  have b := F.bindsA (ps := [x]) B
  exact ⟨fd, fun s v => b s [v] rfl, fun base _ _ => fnG_of F S len (body base)⟩
end Sa

/-! Texts: split, startswith, the tie. -/
namespace Sa
open PySem L2
section
variable {X : Cx} {K : PySem.W.Frag} {σ : St} {H : Hp} {Q : VK} {a : Addr} {s z : Str} {to te : TE} {o e : Expr}
/-- a text parted by another one -/
def rSplitU : V → List V → Hp → VK → Prop := fun x xs H Q => ∃ a b, x = .str a ∧ xs = [.str b] ∧ (b.length == 0) = false ∧ a.length + 2 ≤ sizeLine ∧ ∀ p, H p = none → Q (.ref p) (upd H p (.lst ((Txt.split a b).map V.str)))
theorem pe_splitU {apos pos : Pos} (ho : PE X o to) (he : PE X e te) (hs : starEach [e] X.env = [(false, eval e X.env)] := by rfl) (hbase : attributeBase o "split" X.env (eval o X.env) = eval o X.env := by rfl) (hline : (apos.endLine == pos.line) = true := by rfl) :
    PE X (.Call (.Attribute o "split" apos) [e] [] pos) (tM1 rSplitU to te) := pe_split ho he hs hbase hline
theorem c_split (h0 : (z.length == 0) = false) (hl : s.length + 2 ≤ sizeLine) (q : ∀ p H', New H p (.lst ((Txt.split s z).map V.str)) H' → Q (.ref p) H') : rSplitU (.str s) [.str z] H Q :=
  ⟨s, z, rfl, rfl, h0, hl, fun p hp => q p _ ⟨hp, rfl⟩⟩
def rStartsU : V → List V → Hp → VK → Prop := fun x xs H Q => ∃ a b, x = .str a ∧ xs = [.str b] ∧ Q (.bl (Txt.startswith a b)) H
theorem mt_startsU : MtR X "str.startswith" rStartsU := mt_startswith
theorem c_starts (q : Q (.bl (Txt.startswith s z)) H) : rStartsU (.str s) [.str z] H Q := ⟨s, z, rfl, rfl, q⟩
end
/-! ## the parts of a text -/
theorem join_len (y : Str) : ∀ ys : List Str, (ys.map (·.length)).sum + (ys.length - 1) * y.length = (Str.join y ys).length
  | [] => by show 0 + 0 * y.length = 0; omega
  | [x] => by show x.length + 0 + 0 * y.length = x.length; omega
  | x :: z :: r => by
    have ih := join_len y (z :: r)
    show _ = (x ++ y ++ Str.join y (z :: r)).length
    have l2 : ∀ a b : Str, (a ++ b).length = a.length + b.length := fun a b => by show (a.cps ++ b.cps).size = _; rw [Array.size_append]; rfl
    rw [l2, l2, ← ih]
    simp only [List.map_cons, List.sum_cons, List.length_cons, Nat.add_sub_cancel, Nat.add_mul, Nat.one_mul]
    omega
theorem split_len (x y : Str) : ((Txt.split x y).map (·.length)).sum + ((Txt.split x y).length - 1) * y.length = x.length := by
  rw [join_len, StrLaws.join_split]
theorem sum_mem {n : Nat} : ∀ {ns : List Nat}, n ∈ ns → n ≤ ns.sum
  | m :: r, h => by
    rw [List.sum_cons]
    rcases List.mem_cons.mp h with e | h
    · omega
    · have := sum_mem h
      omega
theorem split_part {x y z : Str} (h : z ∈ Txt.split x y) : z.length ≤ x.length := by
  have e := split_len x y
  have := sum_mem (List.mem_map_of_mem (f := fun s : Str => s.length) h)
  omega
theorem split_many {x : Str} (y : Str) (hy : 0 < y.length) : (Txt.split x y).length ≤ x.length + 1 := by
  have e := split_len x y
  have : (Txt.split x y).length - 1 ≤ ((Txt.split x y).length - 1) * y.length := Nat.le_mul_of_pos_right _ hy
  omega
theorem join_take (y : Str) (n : Nat) (ys : List Str) : (Str.join y (ys.take n)).length ≤ (Str.join y ys).length := by
  rw [← join_len, ← join_len]
  have h1 : ((ys.take n).map (·.length)).sum ≤ (ys.map (·.length)).sum := by
    conv => rhs; rw [← List.take_append_drop n ys, List.map_append, List.sum_append]
    omega
  have h2 : ((ys.take n).length - 1) * y.length ≤ (ys.length - 1) * y.length := Nat.mul_le_mul_right _ (by rw [List.length_take]; omega)
  omega
/-- text[:len(y)] is y just where text begins with it -/
theorem cut_starts (x y : Str) : decide (cutS x none (some (y.length : Int)) = y) = Txt.startswith x y := by
  rw [txt_of x, txt_of y, cutS_txt, txt_len]
  generalize x.cps.toList = xs
  generalize y.cps.toList = ys
  rw [sIx_of (by omega), Int.toNat_natCast]
  show decide (txt ((xs.drop (HT.sIx xs.length 0 none)).take (min ys.length xs.length - HT.sIx xs.length 0 none)) = txt ys) = _
  have e0 : HT.sIx xs.length 0 none = 0 := rfl
  rw [e0, List.drop_zero, Nat.sub_zero]
  unfold Txt.startswith
  rw [StrLaws.subAt_eq, txt_cps, txt_cps, txt_len, txt_len, List.drop_zero, Nat.zero_add]
  have e1 : xs.take (min ys.length xs.length) = xs.take ys.length := by
    by_cases h : ys.length ≤ xs.length
    · rw [Nat.min_eq_left h]
    · rw [Nat.min_eq_right (by omega), List.take_of_length_le (Nat.le_refl _), List.take_of_length_le (by omega)]
  rw [e1]
  by_cases h : xs.take ys.length = ys
  · have hl : ys.length ≤ xs.length := by have := congrArg List.length h; rw [List.length_take] at this; omega
    rw [h]
    simp [hl]
  · have hn : txt (xs.take ys.length) ≠ txt ys := fun e => h (txt_inj.mp e)
    simp [h, hn]
theorem getD_app_l {xs ys : List Int} {i : Nat} (h : i < xs.length) : (xs ++ ys).getD i 0 = xs.getD i 0 := by
  rw [List.getD_eq_getElem?_getD, List.getD_eq_getElem?_getD, List.getElem?_append_left h]
theorem getD_app_r {xs ys : List Int} {i : Nat} (h : xs.length ≤ i) : (xs ++ ys).getD i 0 = ys.getD (i - xs.length) 0 := by
  rw [List.getD_eq_getElem?_getD, List.getD_eq_getElem?_getD, List.getElem?_append_right h]
theorem getD_rep (n i : Nat) : (List.replicate n (0 : Int)).getD i 0 = 0 := by
  rw [List.getD_eq_getElem?_getD, List.getElem?_replicate]
  split <;> rfl
theorem str_app_len (a b : Str) : (a ++ b).length = a.length + b.length := by show (a.cps ++ b.cps).size = _; rw [Array.size_append]; rfl
theorem un100 {k : Nat} {A : Around} (r : Room k A) : A.units + 100 < cLine := by have := r.un; omega
/-! ## comprehensions whose parts only make things -/
section
variable {K : PySem.W.Frag} {σ : St} {H : Hp} {g : TG} {tt : TT} {te : TE} {a b d : Addr} {z : Str} {lo : Int} {n : Nat} {Q : VK} {vs : List Nat} {xs : List V}
theorem lcS (Pv : Addr → Nat → List V → Hp → Prop) (h0 : ∀ Dl, H Dl = none → Pv Dl 0 [] (upd H Dl (.lst [])))
    (hs : ∀ Dl i c acc H', H Dl = none → z.cps.toList[i]? = some c → H' Dl = some (.lst acc) → acc.length ≤ i → Pv Dl i acc H' → LcT g tt te vs σ Pv Dl i (.str ⟨#[c]⟩) H')
    (hd : ∀ Dl acc H', H Dl = none → H' Dl = some (.lst acc) → acc.length ≤ z.cps.toList.length → Pv Dl z.cps.toList.length acc H' → Q (.ref Dl) H') : LcJ (Its z) g tt te vs σ H Q := by
  intro Dl hD
  refine ⟨fun i m H' => m = z.cps.size - i ∧ i ≤ z.cps.size ∧ LcN Pv Dl i H', ⟨_, rfl, Nat.zero_le _, [], upd_same, Nat.zero_le _, h0 Dl hD⟩, ?_⟩
  rintro i m H1 ⟨rfl, hi, acc, h1, h2, h3⟩
  by_cases hlt : i < z.cps.size
  · refine .inr ⟨hlt, LcN Pv Dl (i + 1), fun H' p' => ⟨_, by omega, rfl, hlt, p'⟩, fun x H' y => ?_⟩
    obtain ⟨e, c, hc, e2⟩ := y
    subst e e2
    exact hs Dl i c acc _ hD (by rw [Array.getElem?_toList]; exact hc) h1 h2 h3
  · have e : i = z.cps.toList.length := by rw [Array.length_toList]; omega
    subst e
    exact .inl ⟨by rw [Array.length_toList] at hlt; exact Nat.le_of_not_lt hlt, hd Dl acc _ hD h1 h2 h3⟩
/-- the turn of such a comprehension -/
abbrev LcM (g : TG) (tt : TT) (te : TE) (vs : List Nat) (σ : St) (R : VK) (S : Hp → Prop) (x : V) (H' : Hp) : Prop :=
  g x (wipe σ vs) H' fun σ2 H2 => wipe σ2 vs = wipe σ vs ∧ tt σ2 H2 fun b H3 => if b = true then te σ2 H3 R else S H3
theorem lcS_map (f : Nat → V) (p : Nat → Bool) (hz : z.length ≤ 16777216)
    (hs : ∀ c H' R S, c ∈ z.cps.toList → Kp [] H H' → (p c = true → ∀ H4, Kp [] H' H4 → R (f c) H4) → (p c = false → ∀ H4, Kp [] H' H4 → S H4) → LcM g tt te vs σ R S (.str ⟨#[c]⟩) H')
    (hd : ∀ Dl H', H Dl = none → Kp [] H H' → H' Dl = some (.lst ((z.cps.toList.filter p).map f)) → Q (.ref Dl) H') : LcJ (Its z) g tt te vs σ H Q := by
  refine lcS (fun Dl i acc H' => Kp [] H H' ∧ acc = ((z.cps.toList.take i).filter p).map f) (fun Dl hD => ⟨Kp.new hD, rfl⟩) ?_ ?_
  · rintro Dl i c acc H' hD hc hacc hl ⟨e, rfl⟩
    have hi : i < z.cps.toList.length := (List.getElem?_eq_some_iff.mp hc).1
    have hz2 : z.cps.toList.length ≤ 16777216 := by rw [Array.length_toList]; exact hz
    refine hs c H' _ _ (List.mem_of_getElem? hc) e (fun hp H4 e4 => ?_) (fun hp H4 e4 => ?_)
    · exact lc_push (e4.at0 hacc) hl (by omega) ⟨(e.trans e4).fresh_mut hD, by rw [take_succ' hc, List.filter_append, List.map_append]; simp [hp]⟩
    · exact lc_skip (e4.at0 hacc) hl ⟨e.trans e4, by rw [take_succ' hc, List.filter_append, List.map_append]; simp [hp]⟩
  · rintro Dl acc H' hD hacc hl ⟨e, rfl⟩
    rw [List.take_length] at hacc
    exact hd Dl H' hD e hacc
theorem lcL_map {α : Type} {ys : List α} {u : α → V} (f : α → V) (p : α → Bool) (h : SqL K H a (ys.map u)) (hz : ys.length ≤ 16777216)
    (hs : ∀ y H' R S, y ∈ ys → Kp [] H H' → (p y = true → ∀ H4, Kp [] H' H4 → R (f y) H4) → (p y = false → ∀ H4, Kp [] H' H4 → S H4) → LcM g tt te vs σ R S (u y) H')
    (hd : ∀ Dl H', H Dl = none → Kp [] H H' → H' Dl = some (.lst ((ys.filter p).map f)) → Q (.ref Dl) H') : LcJ (Itl K a) g tt te vs σ H Q := by
  refine lcL (ys.map u) (fun Dl i acc H' => Kp [] H H' ∧ acc = ((ys.take i).filter p).map f) (fun Dl hD => ⟨Kp.new hD, rfl⟩) (fun Dl i acc H' hD e => SqL.kp e.1 h) ?_ ?_
  · rintro Dl i x acc H' hD hx hacc hl ⟨e, rfl⟩
    rw [List.getElem?_map] at hx
    obtain ⟨c, hc, rfl⟩ := Option.map_eq_some_iff.mp hx
    have hi : i < ys.length := (List.getElem?_eq_some_iff.mp hc).1
    refine hs c H' _ _ (List.mem_of_getElem? hc) e (fun hp H4 e4 => ?_) (fun hp H4 e4 => ?_)
    · exact lc_push (e4.at0 hacc) hl (by omega) ⟨(e.trans e4).fresh_mut hD, by rw [take_succ' hc, List.filter_append, List.map_append]; simp [hp]⟩
    · exact lc_skip (e4.at0 hacc) hl ⟨e.trans e4, by rw [take_succ' hc, List.filter_append, List.map_append]; simp [hp]⟩
  · rintro Dl acc H' hD hacc hl ⟨e, rfl⟩
    rw [List.length_map, List.take_length] at hacc
    exact hd Dl H' hD e hacc
theorem lcT_map {α : Type} {ys : List α} {u : α → V} (f : α → V) (p : α → Bool) (h : SqT K H a (ys.map u)) (hz : ys.length ≤ 16777216)
    (hs : ∀ y H' R S, y ∈ ys → Kp [] H H' → (p y = true → ∀ H4, Kp [] H' H4 → R (f y) H4) → (p y = false → ∀ H4, Kp [] H' H4 → S H4) → LcM g tt te vs σ R S (u y) H')
    (hd : ∀ Dl H', H Dl = none → Kp [] H H' → H' Dl = some (.lst ((ys.filter p).map f)) → Q (.ref Dl) H') : LcJ (Itt K a) g tt te vs σ H Q := by
  refine lcT (ys.map u) (fun Dl i acc H' => Kp [] H H' ∧ acc = ((ys.take i).filter p).map f) (fun Dl hD => ⟨Kp.new hD, rfl⟩) (fun Dl i acc H' hD e => SqT.kp e.1 h) ?_ ?_
  · rintro Dl i x acc H' hD hx hacc hl ⟨e, rfl⟩
    rw [List.getElem?_map] at hx
    obtain ⟨c, hc, rfl⟩ := Option.map_eq_some_iff.mp hx
    have hi : i < ys.length := (List.getElem?_eq_some_iff.mp hc).1
    refine hs c H' _ _ (List.mem_of_getElem? hc) e (fun hp H4 e4 => ?_) (fun hp H4 e4 => ?_)
    · exact lc_push (e4.at0 hacc) hl (by omega) ⟨(e.trans e4).fresh_mut hD, by rw [take_succ' hc, List.filter_append, List.map_append]; simp [hp]⟩
    · exact lc_skip (e4.at0 hacc) hl ⟨e.trans e4, by rw [take_succ' hc, List.filter_append, List.map_append]; simp [hp]⟩
  · rintro Dl acc H' hD hacc hl ⟨e, rfl⟩
    rw [List.length_map, List.take_length] at hacc
    exact hd Dl H' hD e hacc
/-- each turn draws -/
theorem lcR_draw {α : Type} (f : α → V) (Pa : α → Prop) (B : Bx H b d) (hz : n ≤ 16777216)
    (hs : ∀ i H' R S, i < n → Kp [b] H H' → Bx H' b d → (∀ x H4, Pa x → Kp [b] H' H4 → Bx H4 b d → R (f x) H4) → LcM g tt te vs σ R S (.int (lo + (i : Nat))) H')
    (hd : ∀ Dl H' (as : List α), H Dl = none → as.length = n → (∀ x ∈ as, Pa x) → Kp [b] H H' → Bx H' b d → H' Dl = some (.lst (as.map f)) → Q (.ref Dl) H') : LcJ (Itr lo n) g tt te vs σ H Q := by
  refine lcR (fun Dl i acc H' => Kp [b] H H' ∧ Bx H' b d ∧ ∃ as : List α, acc = as.map f ∧ as.length = i ∧ ∀ x ∈ as, Pa x) (fun Dl hD => ⟨Kp.new hD, B.new hD, [], rfl, rfl, by simp⟩) ?_ ?_
  · rintro Dl i acc H' hD hi hacc hl ⟨e, B1, as, rfl, hlen, hP⟩
    have nD := B.ne_new hD
    refine hs i H' _ _ hi e B1 (fun x H4 hx e4 B4 => ?_)
    refine lc_push (e4.at1 nD.1 hacc) hl (by omega) ⟨(e.trans e4).fresh_mut hD, B4.other nD.1 nD.2, as ++ [x], by rw [List.map_append]; rfl, by rw [List.length_append, hlen]; rfl, fun y hy => ?_⟩
    rcases List.mem_append.mp hy with h | h
    · exact hP y h
    · rw [List.mem_singleton.mp h]; exact hx
  · rintro Dl acc H' hD hacc hl ⟨e, B1, as, rfl, hlen, hP⟩
    exact hd Dl H' as hD hlen hP e B1 hacc
end
theorem Bx.pick {H H1 H2 : Hp} {b d p : Addr} {xs : List V} {K : PySem.W.Frag} (B : Bx H b d) (N : New H p (.lst xs) H1) (e : Kp [b] H1 H2) : SqL K H2 p xs := .of (e.at1 (B.ne_new N.fr).1 N.at_)
theorem c_pick {K : PySem.W.Frag} {H : Hp} {a : Addr} {i : Int} {Q : VK} {xs : List V} (h : SqL K H a xs) (h0 : 0 ≤ i) (h1 : i < xs.length) (q : ∀ v ∈ xs, Q v H) : rIx K (.ref a) (.int i) H Q :=
  c_ixL h (atI_at h0 h1) (q _ (by
    rw [List.getD_eq_getElem?_getD, List.getElem?_eq_getElem (by omega)]
    exact List.getElem_mem _))
theorem c_pickM {α : Type} {K : PySem.W.Frag} {H : Hp} {a : Addr} {i : Int} {Q : VK} {u : α → V} (ys : List α) (h : SqL K H a (ys.map u)) (h0 : 0 ≤ i) (h1 : i < ys.length) (q : ∀ y ∈ ys, Q (u y) H) : rIx K (.ref a) (.int i) H Q :=
  c_pick h h0 (by rw [List.length_map]; exact h1) (fun v hv => by obtain ⟨y, hy, rfl⟩ := List.mem_map.mp hv; exact q y hy)
/-! ## values compared, shown -/
section
variable {K : PySem.W.Frag} {H : Hp} {Q : VK} {a b : Addr} {ns ms : List Int}
theorem dp_intsT (h : SqT K H a (ns.map V.int)) : Dp K H (.ref a) (.tuple (ns.map PyData.int)) := .tup h (dpAll_ints ns)
end
end Sa

/-! Data: rows of texts compared; what is small enough to be shown. -/
namespace Sa
open PySem L2
section
variable {K : PySem.W.Frag} {H : Hp} {Q : VK} {a b : Addr} {ys zs : List Str}
/-- all codes are codes -/
def okS (z : Str) : Bool := PyData.strOk z
theorem dpAll_strs : ∀ ys : List Str, DpAll K H (ys.map V.str) (ys.map PyData.str)
  | [] => .nil
  | n :: r => .cons (.str n) (dpAll_strs r)
theorem dp_strs (h : SqL K H a (ys.map V.str)) : Dp K H (.ref a) (.list (ys.map PyData.str)) := .lst h (dpAll_strs ys)
theorem dp_strsT (h : SqT K H a (ys.map V.str)) : Dp K H (.ref a) (.tuple (ys.map PyData.str)) := .tup h (dpAll_strs ys)
theorem eqvAll_strs : ∀ ys zs : List Str, PyData.eqvAll (ys.map PyData.str) (zs.map PyData.str) = decide (ys = zs)
  | [], [] => by simp [PyData.eqvAll]
  | [], _ :: _ => by simp [PyData.eqvAll]
  | _ :: _, [] => by simp [PyData.eqvAll]
  | a :: r, b :: t => by
    simp only [List.map_cons, PyData.eqvAll, PyData.eqv, eqvAll_strs r t]
    by_cases h : a = b <;> by_cases h' : r = t <;> simp [h, h']
theorem layAll_strs : ∀ {ys : List Str}, (∀ y ∈ ys, okS y = true) → PyData.canLayAll0 (ys.map PyData.str) = true
  | [], _ => rfl
  | y :: r, h => by
    simp only [List.map_cons, PyData.canLayAll0, PyData.canLay0, Bool.and_eq_true]
    exact ⟨h y (List.mem_cons_self ..), layAll_strs fun z hz => h z (List.mem_cons_of_mem _ hz)⟩
theorem depthAll_strs : ∀ ys : List Str, PyData.depthAll (ys.map PyData.str) = 0
  | [] => rfl
  | y :: r => by simp [PyData.depthAll, PyData.depth, depthAll_strs r]
theorem shaped_strsL (h : ∀ y ∈ ys, okS y = true) : SeqAt.shaped (.list (ys.map PyData.str)) = true := by
  simp only [SeqAt.shaped, PyData.canLay0, PyData.depth, depthAll_strs, Bool.and_eq_true, decide_eq_true_eq]
  exact ⟨layAll_strs h, by omega⟩
theorem shaped_strsT (h : ∀ y ∈ ys, okS y = true) : SeqAt.shaped (.tuple (ys.map PyData.str)) = true := by
  simp only [SeqAt.shaped, PyData.canLay0, PyData.depth, depthAll_strs, Bool.and_eq_true, decide_eq_true_eq]
  exact ⟨layAll_strs h, by omega⟩
theorem c_eqLS (ha : SqL K H a (ys.map V.str)) (hb : SqL K H b (zs.map V.str)) (h1 : ∀ y ∈ ys, okS y = true) (h2 : ∀ y ∈ zs, okS y = true) (q : Q (.bl (decide (ys = zs))) H) : rEqU K (.ref a) (.ref b) H Q :=
  c_eqD (dp_strs ha) (dp_strs hb) (shaped_strsL h1) (shaped_strsL h2) (by rw [PyData.eqv, eqvAll_strs]; exact q)
theorem c_eqTS (ha : SqT K H a (ys.map V.str)) (hb : SqT K H b (zs.map V.str)) (h1 : ∀ y ∈ ys, okS y = true) (h2 : ∀ y ∈ zs, okS y = true) (q : Q (.bl (decide (ys = zs))) H) : rEqU K (.ref a) (.ref b) H Q :=
  c_eqD (dp_strsT ha) (dp_strsT hb) (shaped_strsT h1) (shaped_strsT h2) (by rw [PyData.eqv, eqvAll_strs]; exact q)
theorem c_neTS (ha : SqT K H a (ys.map V.str)) (hb : SqT K H b (zs.map V.str)) (h1 : ∀ y ∈ ys, okS y = true) (h2 : ∀ y ∈ zs, okS y = true) (q : Q (.bl (!decide (ys = zs))) H) : rNeU K (.ref a) (.ref b) H Q :=
  c_neD (dp_strsT ha) (dp_strsT hb) (shaped_strsT h1) (shaped_strsT h2) (by rw [PyData.eqv, eqvAll_strs]; exact q)
theorem c_neTI {ns ms : List Int} (ha : SqT K H a (ns.map V.int)) (hb : SqT K H b (ms.map V.int)) (s1 : SeqAt.shaped (.tuple (ns.map PyData.int)) = true) (s2 : SeqAt.shaped (.tuple (ms.map PyData.int)) = true) (q : Q (.bl (!decide (ns = ms))) H) : rNeU K (.ref a) (.ref b) H Q :=
  c_neD (dp_intsT ha) (dp_intsT hb) s1 s2 (by rw [PyData.eqv, eqvAll_ints]; exact q)
end
theorem c_eqSame {K : PySem.W.Frag} {H : Hp} {Q : VK} {x y : V} {d : PyData} (hx : Dp K H x d) (hy : Dp K H y d) (sd : SeqAt.shaped d = true) (q : Q (.bl true) H) : rEqU K x y H Q :=
  c_eqD hx hy sd sd (by rw [SeqAt.eqv_refl d (SeqAt.canLay_of_shaped sd)]; exact q)
theorem c_neSame {K : PySem.W.Frag} {H : Hp} {Q : VK} {x y : V} {d : PyData} (hx : Dp K H x d) (hy : Dp K H y d) (sd : SeqAt.shaped d = true) (q : Q (.bl false) H) : rNeU K x y H Q :=
  c_neD hx hy sd sd (by rw [SeqAt.eqv_refl d (SeqAt.canLay_of_shaped sd)]; exact q)
theorem rptS_txt (c : Nat) (n : Int) : rptS (txt [c]) n = txt (List.replicate n.toNat c) := by
  unfold rptS
  rw [txt_cps]
  show txt _ = _
  congr 1
  induction n.toNat with
  | zero => rfl
  | succ n ih => rw [List.replicate_succ, List.flatten_cons, ih, List.replicate_succ]; rfl
/-! what stands in the parts of a text -/
theorem cps_app (a b : Str) : (a ++ b).cps.toList = a.cps.toList ++ b.cps.toList := by show (a.cps ++ b.cps).toList = _; rw [Array.toList_append]
theorem join_mem {y z : Str} {c : Nat} : ∀ {ys : List Str}, z ∈ ys → c ∈ z.cps.toList → c ∈ (Str.join y ys).cps.toList
  | [x], h, hc => by rw [List.mem_singleton.mp h] at hc; exact hc
  | x :: u :: r, h, hc => by
    show c ∈ (x ++ y ++ Str.join y (u :: r)).cps.toList
    rw [cps_app, cps_app, List.mem_append, List.mem_append]
    rcases List.mem_cons.mp h with e | h
    · subst e; exact .inl (.inl hc)
    · exact .inr (join_mem h hc)
theorem split_mem {x y z : Str} {c : Nat} (h : z ∈ Txt.split x y) (hc : c ∈ z.cps.toList) : c ∈ x.cps.toList := by
  have := join_mem (y := y) h hc
  rw [StrLaws.join_split] at this
  exact this
theorem okS_iff {z : Str} : okS z = true ↔ ∀ c ∈ z.cps.toList, c < 1114112 := by
  unfold okS PyData.strOk
  rw [Array.all_eq_true_iff_forall_mem]
  simp [Array.mem_toList_iff]
theorem split_ok {x y z : Str} (hx : okS x = true) (h : z ∈ Txt.split x y) : okS z = true := okS_iff.mpr fun c hc => okS_iff.mp hx c (split_mem h hc)
theorem rptS_mem {z : Str} {n : Int} {c : Nat} (h : c ∈ (rptS z n).cps.toList) : c ∈ z.cps.toList := by
  unfold rptS at h
  simp only [List.mem_flatten] at h
  obtain ⟨l, hl, hc⟩ := h
  rw [(List.mem_replicate.mp hl).2] at hc
  exact hc
/-! shown -/
theorem nice_bl (b : Bool) : Nice (.bool b) := by cases b <;> exact ⟨by decide +kernel, by decide +kernel, by decide +kernel⟩
theorem nice_bl2 (b c : Bool) : Nice (.tuple [.bool b, .bool c]) := by cases b <;> cases c <;> exact ⟨by decide +kernel, by decide +kernel, by decide +kernel⟩
/-! the value of an and, of an or, whose second part is known -/
section
variable {σ : St} {H : Hp} {Q : VK} {te : TE}
theorem c_andE {c : Bool} (b : Bool) (h : ∀ R : VK, R (.bl b) H → te σ H R) (q : Q (.bl (c && b)) H) : if c = true then te σ H Q else Q (.bl false) H := by
  cases c with
  | true => rw [if_pos rfl]; exact h Q q
  | false => rw [if_neg Bool.false_ne_true]; exact q
theorem c_andK {c : Bool} (b : Bool) (h : ∀ R : VK, (∀ H', Kp [] H H' → R (.bl b) H') → te σ H R) (q : ∀ H', Kp [] H H' → Q (.bl (c && b)) H') : if c = true then te σ H Q else Q (.bl false) H := by
  cases c with
  | true => rw [if_pos rfl]; exact h Q q
  | false => rw [if_neg Bool.false_ne_true]; exact q H Kp.refl
theorem c_orE {c : Bool} (b : Bool) (h : ∀ R : VK, R (.bl b) H → te σ H R) (q : Q (.bl (c || b)) H) : if c = true then Q (.bl true) H else te σ H Q := by
  cases c with
  | true => rw [if_pos rfl]; exact q
  | false => rw [if_neg Bool.false_ne_true]; exact h Q q
theorem c_orK {c : Bool} (b : Bool) (h : ∀ R : VK, (∀ H', Kp [] H H' → R (.bl b) H') → te σ H R) (q : ∀ H', Kp [] H H' → Q (.bl (c || b)) H') : if c = true then Q (.bl true) H else te σ H Q := by
  cases c with
  | true => rw [if_pos rfl]; exact q H Kp.refl
  | false => rw [if_neg Bool.false_ne_true]; exact h Q q
end
theorem dp_bl2 {K : PySem.W.Frag} {H : Hp} {p : Addr} {b c : Bool} (h : H p = some (.tup [.bl b, .bl c])) : Dp K H (.ref p) (.tuple [.bool b, .bool c]) := .tup (SqT.of h) (.cons (.bl b) (.cons (.bl c) .nil))
theorem le_int {a b : Nat} : decide ((a : Int) ≤ (b : Int)) = decide (a ≤ b) := by congr 1; exact propext Int.ofNat_le
end Sa

/-! Defs that may raise an error of a class of the program; methods; an error class with one field. -/
namespace Sa
open PySem L2
section
variable {P : Program} {w : World} {K : PySem.W.Frag} {mg : Str → Option Value} {base : Heap}
theorem Tx.oex {fa : List He.Fa} {fn : List He.DefD} {fx : List Fx} (T : Tx fa fn fx K mg) (i : Nat) {x : Str} (h : fx[i]? = some (.oex x) := by rfl) : OexC K (He.ga K x) := oexB_ok (T.fx i h)
theorem Tx.xfc {fa : List He.Fa} {fn : List He.DefD} {fx : List Fx} (T : Tx fa fn fx K mg) (i : Nat) {x : Str} (h : fx[i]? = some (.xf x) := by rfl) : XfC K (He.ga K x) := xfB_ok (T.fx i h)
theorem Tx.cst {fa : List He.Fa} {fn : List He.DefD} {fx : List Fx} (T : Tx fa fn fx K mg) (i : Nat) {x : Str} {d : PyData} (h : fx[i]? = some (.cst x d) := by rfl) (H : Hp) : Dp K H (.ref (He.ga K x)) d := cst_ref (T.fx i h) H
/-- what the body of a def that may raise owes -/
def BodyX (P : Program) (w : World) (K : PySem.W.Frag) (mg : Str → Option Value) (base : Heap) (x : Str) (st : Stmt) (N : List Str) (k : Nat) (sp : Sp) : Prop :=
  ∀ (cdv : Value) (A : Around) (outer : List Env) (s : Shared) (H : Hp) (vs : List V) (Q : VK) (E : XK), sp vs H Q E → let X : Cx := cxOf (L2.CX P w) P w K mg base N x (defScope st) (He.ga K x) cdv A outer s H E
    Room k X.A → Takes X (fun cls d _ H => E cls d H) → ∃ t, PSs X (defBody st) t ∧ t { nx := fun _ H' => Q .non H', rt := Q } (start N vs) H
theorem def_ofX {fa : List He.Fa} {fn : List He.DefD} {fx : List Fx} (T : Tx fa fn fx K mg) (i j : Nat) {x : Str} {st : Stmt} {N ps : List Str} {k : Nat} {sp : Sp} (S : FnScope N ps (defScope st)) (B : BindN x st ps) (len : ∀ vs H Q E, sp vs H Q E → vs.length = ps.length)
    (body : BodyX P w K mg base x st N k sp) (hd : fn[i]? = some (dOf x st) := by rfl) (hg : fa[j]? = some (.glo x) := by rfl) : DefAt P w K mg base (L2.CX P w) x (k + 1) ps sp := by
  have gl := T.glo j hg
  obtain ⟨hp, X, G, c, _⟩ := T
  obtain ⟨fd, F⟩ := c.def_ i hd
  exact ⟨gl, F.kp, fd, F.ok S len fun cdv A outer s H vs Q E hr h => body cdv A outer s H vs Q E h hr (takes_of rfl rfl rfl rfl), F.bindsN B⟩
end
theorem passE0 {X : Cx} : Passes (L2.CX X.prog X.w) X E0 := fun pins σ H s e s' I h => by
  obtain ⟨_, _, _, _, _, _, _, _, _, _, _, _, z⟩ := h
  exact z.elim
theorem takes_never {X : Cx} : Takes X (fun _ _ _ _ => False) := fun u s' h => by
  obtain ⟨_, _, _, _, _, _, _, _, _, _, _, _, _, _, _, _, z⟩ := h
  exact z.elim
section
variable {X : Cx} {x : Str} {k j : Nat} {ps : List Str} {sp : Sp} {W : WX} {p pos : Pos} {e : Expr} {es : List Expr} {t : TA}
/-- a call of a def that may raise, where the error goes on -/
theorem pe_callX (D : DefAt X.prog X.w X.K X.mg X.base (L2.CX X.prog X.w) x j ps sp) (hr : Room k X.A) (tk : Takes X W) (ha : PA X (e :: es) t) (hjk : j ≤ k := by decide) (hg : Gl X x := by rfl)
    (hdb : (x == ("__debug__" : Str)) = false := by decide) (he : starEach (e :: es) X.env = (false, eval e X.env) :: starEach es X.env := by rfl) (hpl : (backTo pos (starEach es X.env)).any (·.1) = false := by rfl) :
    PE X (.Call (.Name x p) (e :: es) [] pos) (tCallS sp (WE W) t) := by
  obtain ⟨fd, F, B⟩ := D.ok
  exact pe_callS (F.mono hjk) hr hg D.gl D.kp B (fun σ => passAt tk σ) ha hdb he hpl
theorem names_glo {c : Addr} (h : X.mg x = some (.ref c)) (hg : Gl X x := by rfl) (hd : (x == ("__debug__" : Str)) = false := by decide) : Names X x (.ref c) := ⟨hg, hd, .inl h⟩
theorem c_callX {H : Hp} {σ : St} {Q : VK} {tr : TA} (h : tr σ H fun vs H1 => sp vs H1 Q (WE W σ)) : tCallS sp (WE W) tr σ H Q := h
end
/-! ## an error class whose __init__ keeps one field -/
def dOfM (C m q : Str) (st : Stmt) : He.DefD := ⟨(C, some m), m, q, defArgs st, defBody st, defScope st, [], []⟩
def BindM (m q : Str) (st : Stmt) (ps : List Str) : Prop := ∀ (kV doc pm : Value) (an : Option Addr) (cdv ct : Value) (us : List Value), us.length = ps.length →
  bindArgs (PySem.W.fnOf m q (defArgs st) (defBody st) (defScope st) .none kV doc pm an cdv ct) ⟨us, []⟩ = pure (ps.zip us)
/-- the statements of a class's body -/
def clsStmts : Stmt → List Stmt
  | .ClassDef (body := b) .. => b
  | _ => []
def subAt (st : Stmt) (i : Nat) : Stmt := (clsStmts st).getD i (.Pass ⟨0, 0, 0, 0⟩)
section
variable {P : Program} {w : World} {K : PySem.W.Frag} {mg : Str → Option Value} {base : Heap}
/-- a method of the class x that keeps sp -/
structure MethAt (P : Program) (w : World) (K : PySem.W.Frag) (mg : Str → Option Value) (base : Heap) (CX : CXT) (C m : Str) (k : Nat) (ps : List Str) (sp : Sp) : Prop where
  me : Meth K (He.ga K C) m (He.ma K (He.ga K C) m)
  ok : ∃ fd, FnOk P w K mg base CX k (He.ma K (He.ga K C) m) fd ps sp ∧ Binds K fd ps []
def BodyM (P : Program) (w : World) (K : PySem.W.Frag) (mg : Str → Option Value) (base : Heap) (C m q : Str) (st : Stmt) (N : List Str) (k : Nat) (sp : Sp) : Prop :=
  ∀ (cdv : Value) (A : Around) (outer : List Env) (s : Shared) (H : Hp) (vs : List V) (Q : VK) (E : XK), sp vs H Q E → let X : Cx := (cxOf CX0 P w K mg base N q (defScope st) (He.ma K (He.ga K C) m) cdv A outer s H E).nox
    Room k X.A → ∃ t, PSs X (defBody st) t ∧ t { nx := fun _ H' => Q .non H', rt := Q } (start N vs) H
def BodyMX (P : Program) (w : World) (K : PySem.W.Frag) (mg : Str → Option Value) (base : Heap) (C m q : Str) (st : Stmt) (N : List Str) (k : Nat) (sp : Sp) : Prop :=
  ∀ (cdv : Value) (A : Around) (outer : List Env) (s : Shared) (H : Hp) (vs : List V) (Q : VK) (E : XK), sp vs H Q E → let X : Cx := cxOf (L2.CX P w) P w K mg base N q (defScope st) (He.ma K (He.ga K C) m) cdv A outer s H E
    Room k X.A → Takes X (fun cls d _ H => E cls d H) → ∃ t, PSs X (defBody st) t ∧ t { nx := fun _ H' => Q .non H', rt := Q } (start N vs) H
theorem meth_of {fa : List He.Fa} {fn : List He.DefD} {fx : List Fx} (T : Tx fa fn fx K mg) (i j : Nat) {C m q : Str} {st : Stmt} {N ps : List Str} {k : Nat} {sp : Sp} (S : FnScope N ps (defScope st)) (B : BindM m q st ps) (len : ∀ vs H Q E, sp vs H Q E → vs.length = ps.length)
    (body : BodyM P w K mg base C m q st N k sp) (hd : fn[i]? = some (dOfM C m q st) := by rfl) (hg : fa[j]? = some (.meth C m) := by rfl) : MethAt P w K mg base CX0 C m (k + 1) ps sp := by
  have me := He.meth_ok (T.fact j hg)
  obtain ⟨hp, X, G, c, _⟩ := T
  obtain ⟨fd, F⟩ := c.def_ i hd
  refine ⟨me, fd, F.ok S len fun cdv A outer s H vs Q E hr h => ?_, F.bindsN B⟩
  obtain ⟨t, h1, h2⟩ := body cdv A outer s H vs Q E h hr
  exact ⟨t, h1.nox, h2⟩
theorem meth_ofX {fa : List He.Fa} {fn : List He.DefD} {fx : List Fx} (T : Tx fa fn fx K mg) (i j : Nat) {C m q : Str} {st : Stmt} {N ps : List Str} {k : Nat} {sp : Sp} (S : FnScope N ps (defScope st)) (B : BindM m q st ps) (len : ∀ vs H Q E, sp vs H Q E → vs.length = ps.length)
    (body : BodyMX P w K mg base C m q st N k sp) (hd : fn[i]? = some (dOfM C m q st) := by rfl) (hg : fa[j]? = some (.meth C m) := by rfl) : MethAt P w K mg base (L2.CX P w) C m (k + 1) ps sp := by
  have me := He.meth_ok (T.fact j hg)
  obtain ⟨hp, X, G, c, _⟩ := T
  obtain ⟨fd, F⟩ := c.def_ i hd
  exact ⟨me, fd, F.ok S len fun cdv A outer s H vs Q E hr h => body cdv A outer s H vs Q E h hr (takes_of rfl rfl rfl rfl), F.bindsN B⟩
end
/-- what __init__(self, name) keeps: the field f -/
def spInit (K : PySem.W.Frag) (C : Addr) (f : Str) : Sp := fun vs H Q _ => ∃ (a : Addr) (v : V), vs = [.ref a, v] ∧ H a = some (exo a C none) ∧ ∀ dx, H dx = none → dx ≠ a → Q .non (upd (upd H dx (exd dx [(f, v)])) a (exo a C (some dx)))
theorem c_ost {K : PySem.W.Frag} {f : Str} {to te : TE} {D : Ends} {σ : St} {H : Hp} (h : te σ H fun y H1 => to σ H1 fun x H2 => ∃ a C : Addr, x = .ref a ∧ OexC K C ∧ PySem.W.findIn K (.ref C) f = some none ∧
  ((H2 a = some (exo a C none) ∧ ∀ dx, H2 dx = none → dx ≠ a → D.nx σ (upd (upd H2 dx (exd dx [(f, y)])) a (exo a C (some dx)))) ∨
    ∃ (dx : Addr) (fs : List (Str × V)), H2 a = some (exo a C (some dx)) ∧ H2 dx = some (exd dx fs) ∧ fs.length ≤ 900 ∧ D.nx σ (upd H2 dx (exd dx ((f, y) :: fs))))) : tOst K f to te D σ H := h
/-- an error class x of one field f -/
structure ErrC (P : Program) (w : World) (K : PySem.W.Frag) (mg : Str → Option Value) (base : Heap) (x f : Str) : Prop where
  gl : mg x = some (.ref (He.ga K x))
  cls : OexC K (He.ga K x)
  xf : XfC K (He.ga K x)
  no : PySem.W.findIn K (.ref (He.ga K x)) f = some none
  ok : ∃ ps, MethAt P w K mg base CX0 x "__init__" 2 ps (spInit K (He.ga K x) f)
/-- x(v) is made: an error whose field f is v -/
def RaiseK (K : PySem.W.Frag) (x f : Str) (vs : List V) (H1 : Hp) (Q : XK) : Prop := vs.length ≤ 1000 ∧ ∀ a, H1 a = none → spInit K (He.ga K x) f (.ref a :: (vs ++ [])) (upd H1 a (exo a (He.ga K x) none))
  (fun v H2 => v = .non ∧ ∃ (d : Addr) (fs : List (Str × V)), H2 a = some (exo a (He.ga K x) (some d)) ∧ H2 d = some (exd d fs) ∧ H1 d = none ∧ Q (.ref (He.ga K x)) (some d) (upd (del H2 a) d (.xd fs))) (fun _ _ _ => False)
def tMkE (K : PySem.W.Frag) (x f : Str) (t : TA) : St → Hp → XK → Prop := fun σ H Q => t σ H fun vs H1 => RaiseK K x f vs H1 Q
def tRaiseE (K : PySem.W.Frag) (x f : Str) (W : WX) (t : TA) : TS := fun _ σ H => t σ H fun vs H1 => RaiseK K x f vs H1 fun cls d H' => W cls d σ H'
theorem c_err {K : PySem.W.Frag} {x f : Str} {v : V} {H1 : Hp} {Q : XK} (q : ∀ d H', New H1 d (.xd [(f, v)]) H' → Q (.ref (He.ga K x)) (some d) H') : RaiseK K x f [v] H1 Q := by
  refine ⟨by simp, fun a ha => ⟨a, v, rfl, upd_same, fun dx hdx hne => ⟨rfl, dx, [(f, v)], upd_same, ?_, ?_, ?_⟩⟩⟩
  · rw [upd_ne hne, upd_same]
  · rw [upd_ne hne] at hdx
    exact hdx
  · have hd1 : H1 dx = none := by rw [upd_ne hne] at hdx; exact hdx
    have e : upd (del (upd (upd (upd H1 a (exo a (He.ga K x) none)) dx (exd dx [(f, v)])) a (exo a (He.ga K x) (some dx))) a) dx (.xd [(f, v)]) = upd H1 dx (.xd [(f, v)]) := by
      funext b
      by_cases h1 : b = dx
      · rw [h1, upd_same, upd_same]
      · rw [upd_ne h1, upd_ne h1]
        by_cases h2 : b = a
        · rw [h2, del_same, ha]
        · rw [del_ne h2, upd_ne h2, upd_ne h1, upd_ne h2]
    rw [e]
    exact q dx _ ⟨hd1, rfl⟩
theorem c_raiseE {K : PySem.W.Frag} {x f : Str} {W : WX} {t : TA} {D : Ends} {σ : St} {H : Hp} (h : t σ H fun vs H1 => RaiseK K x f vs H1 fun cls d H' => W cls d σ H') : tRaiseE K x f W t D σ H := h
section
variable {X : Cx} {x f : Str} {k : Nat} {W : WX} {p pos pos2 : Pos} {e : Expr} {es : List Expr} {t : TA}
theorem pmk_err {K : PySem.W.Frag} (T : ErrC X.prog X.w X.K X.mg X.base x f) (hr : Room k X.A) (ha : PA X (e :: es) t) (hk : 3 ≤ k := by decide) (hK : X.K = K := by rfl) (hg : Gl X x := by rfl)
    (hdb : (x == ("__debug__" : Str)) = false := by decide) (he : starEach (e :: es) X.env = (false, eval e X.env) :: starEach es X.env := by rfl) (hpl : (backTo pos (starEach es X.env)).any (·.1) = false := by rfl) :
    PMk X (.Call (.Name x p) (e :: es) [] pos) (tMkE K x f t) := by
  subst hK
  obtain ⟨ps, M⟩ := T.ok
  obtain ⟨fd, F, B⟩ := M.ok
  have fnT : PySem.W.typeIn X.K (.ref (He.ma X.K (He.ga X.K x) "__init__")) = some (.type "function") := eq_of_beq M.me.fn
  exact pmk_oex (p := p) T.cls M.me.at_ fnT F (hr.mono hk) B .nil (fun _ _ _ _ _ _ _ h => h.elim) hg T.gl ha hdb he hpl
theorem ps_raiseE {K : PySem.W.Frag} (T : ErrC X.prog X.w X.K X.mg X.base x f) (hr : Room k X.A) (tk : Takes X W) (ha : PA X (e :: es) t) (hk : 3 ≤ k := by decide) (hK : X.K = K := by rfl) (hg : Gl X x := by rfl) (hc : X.calm = true := by rfl)
    (hdb : (x == ("__debug__" : Str)) = false := by decide) (he : starEach (e :: es) X.env = (false, eval e X.env) :: starEach es X.env := by rfl) (hpl : (backTo pos (starEach es X.env)).any (·.1) = false := by rfl) :
    PS X (.Raise (some (.Call (.Name x p) (e :: es) [] pos)) none pos2) (tRaiseE K x f W t) := ps_raise hc tk (pmk_err T hr ha hk hK hg hdb he hpl)
end
/-! ## try .. except x as n -/
section
variable {K : PySem.W.Frag} {i : Nat} {ts : Addr → Value → Option Addr → TS} {Wout : WX} {D : Ends} {σ : St} {H : Hp} {cls : Value} {d : Option Addr} {c : Value}
theorem c_caught (he : PySem.W.exmOne K cls c = some true) (h : ∀ a, H a = none → ts a cls d { nx := fun σ' H' => D.nx (σ'.set i none) H', rt := D.rt, bk := fun σ' H' => D.bk (σ'.set i none) H', ct := fun σ' H' => D.ct (σ'.set i none) H' } (σ.set i (some (.ref a))) H) :
    wAs K c i ts Wout D cls d σ H := ⟨true, he, fun _ => h, fun z => by cases z⟩
theorem c_xf {a C : Addr} {f : Str} {te : TE} {Q : VK} (h : te σ H fun x H1 => x = .ref a ∧ cls = .ref C ∧ ∃ (dd : Addr) (fs : List (Str × V)) (v : V), d = some dd ∧ H1 dd = some (.xd fs) ∧ fs.lookup f = some v ∧ Q v H1) : tXf a cls d C f te σ H Q := h
end
/-! ## isinstance -/
section
variable {K : PySem.W.Frag} {H : Hp} {Q : VK} {a : Addr} {xs : List V} {T : String}
theorem cr_isi {X : Cx} (hK : X.K = K := by rfl) : CallR X (.builtin "isinstance") (rIsi K) := hK ▸ call_isi
theorem c_isiL {b : Bool} (h : H a = some (.lst xs)) (hk : kitB "list" T = some b) (q : Q (.bl b) H) : rIsi K [.ref a, .ty T] H Q := ⟨_, _, _, _, b, rfl, .ty T, .base (.lst h), kit_ty hk, q⟩
theorem c_isiT {b : Bool} (h : H a = some (.tup xs)) (hk : kitB "tuple" T = some b) (q : Q (.bl b) H) : rIsi K [.ref a, .ty T] H Q := ⟨_, _, _, _, b, rfl, .ty T, .base (.tup h), kit_ty hk, q⟩
theorem c_isiN {b : Bool} (hk : kitB "NoneType" T = some b) (q : Q (.bl b) H) : rIsi K [.non, .ty T] H Q := ⟨_, _, _, _, b, rfl, .ty T, .base .non, kit_ty hk, q⟩
theorem c_isiS {s : Str} {b : Bool} (hk : kitB "str" T = some b) (q : Q (.bl b) H) : rIsi K [.str s, .ty T] H Q := ⟨_, _, _, _, b, rfl, .ty T, .base (.str s), kit_ty hk, q⟩
end
end Sa

/-! Comprehensions over any walk. -/
namespace Sa
open PySem L2
/-- a walk of n turns: while ok, its turn i gives x, by Y -/
structure Itn (J : It) (n : Nat) (ok : Hp → Prop) (Y : Nat → V → Hp → Hp → Prop) : Prop where
  go : ∀ i H, ok H → i < n → J.go i H
  stop : ∀ i H, ok H → n ≤ i → J.stop i H
  yld : ∀ i H x H', ok H → i < n → J.yld i H x H' → Y i x H H'
  kp : ∀ i x H H', Y i x H H' → Kp [] H H'
section
variable {K : PySem.W.Frag} {a : Addr} {α : Type} {ys : List α} {u : α → V} {lo c : Int} {n : Nat} {z : Str}
theorem itn_l : Itn (Itl K a) ys.length (fun H => SqL K H a (ys.map u)) (fun i x H H' => H' = H ∧ ∃ y, ys[i]? = some y ∧ x = u y) where
  go := fun i H ok hi => ⟨_, u (ys[i]), ok, by rw [List.getElem?_map, List.getElem?_eq_getElem hi]; rfl⟩
  stop := fun i H ok hi => ⟨_, ok, by rw [List.length_map]; exact hi⟩
  yld := fun i H x H' ok hi y => by
    obtain ⟨e, h⟩ := y
    have := h _ ok
    rw [List.getElem?_map] at this
    obtain ⟨y, h1, h2⟩ := Option.map_eq_some_iff.mp this
    exact ⟨e, y, h1, h2.symm⟩
  kp := fun i x H H' h => by rw [h.1]; exact Kp.refl
theorem itn_t : Itn (Itt K a) ys.length (fun H => SqT K H a (ys.map u)) (fun i x H H' => H' = H ∧ ∃ y, ys[i]? = some y ∧ x = u y) where
  go := fun i H ok hi => ⟨_, u (ys[i]), ok, by rw [List.getElem?_map, List.getElem?_eq_getElem hi]; rfl⟩
  stop := fun i H ok hi => ⟨_, ok, by rw [List.length_map]; exact hi⟩
  yld := fun i H x H' ok hi y => by
    obtain ⟨e, h⟩ := y
    have := h _ ok
    rw [List.getElem?_map] at this
    obtain ⟨y, h1, h2⟩ := Option.map_eq_some_iff.mp this
    exact ⟨e, y, h1, h2.symm⟩
  kp := fun i x H H' h => by rw [h.1]; exact Kp.refl
theorem itn_r : Itn (Itr lo n) n (fun _ => True) (fun i x H H' => H' = H ∧ x = .int (lo + (i : Nat))) where
  go := fun i H _ hi => hi
  stop := fun i H _ hi => hi
  yld := fun i H x H' _ hi y => y
  kp := fun i x H H' h => by rw [h.1]; exact Kp.refl
theorem itn_c : Itn (Itc lo c n) n (fun _ => True) (fun i x H H' => H' = H ∧ x = .int (lo + (i : Nat) * c)) where
  go := fun i H _ hi => hi
  stop := fun i H _ hi => hi
  yld := fun i H x H' _ hi y => y
  kp := fun i x H H' h => by rw [h.1]; exact Kp.refl
theorem itn_s : Itn (Its z) z.cps.toList.length (fun _ => True) (fun i x H H' => H' = H ∧ ∃ c, z.cps.toList[i]? = some c ∧ x = .str ⟨#[c]⟩) where
  go := fun i H _ hi => by rw [Array.length_toList] at hi; exact hi
  stop := fun i H _ hi => by rw [Array.length_toList] at hi; exact hi
  yld := fun i H x H' _ hi y => by
    obtain ⟨e, c, hc, h⟩ := y
    exact ⟨e, c, by rw [Array.getElem?_toList]; exact hc, h⟩
  kp := fun i x H H' h => by rw [h.1]; exact Kp.refl
theorem itn_e : Itn (Ite K a) ys.length (fun H => SqL K H a (ys.map u)) (fun i x H H' => ∃ T y, x = .ref T ∧ New H T (.tup [.int (i : Nat), u y]) H' ∧ ys[i]? = some y) where
  go := fun i H ok hi => ⟨_, u (ys[i]), ok, by rw [List.getElem?_map, List.getElem?_eq_getElem hi]; rfl⟩
  stop := fun i H ok hi => ⟨_, ok, by rw [List.length_map]; exact hi⟩
  yld := fun i H x H' ok hi y => by
    obtain ⟨T, x', h1, h2, h3, h4⟩ := y
    have := h4 _ ok
    rw [List.getElem?_map] at this
    obtain ⟨y, e1, e2⟩ := Option.map_eq_some_iff.mp this
    subst e2
    exact ⟨T, y, h1, ⟨h2, h3⟩, e1⟩
  kp := fun i x H H' h => by
    obtain ⟨T, y, _, N, _⟩ := h
    exact N.kp
end
section
variable {K : PySem.W.Frag} {σ : St} {H : Hp} {g : TG} {tt : TT} {te : TE} {tb : TS} {Dn : Ends} {n : Nat} {Q : VK} {vs : List Nat} {J : It} {ok : Hp → Prop} {Y : Nat → V → Hp → Hp → Prop}
theorem lcQ (I : Itn J n ok Y) (Pv : Addr → Nat → List V → Hp → Prop) (h0 : ∀ Dl, H Dl = none → Pv Dl 0 [] (upd H Dl (.lst []))) (hok : ∀ Dl i acc H', H Dl = none → Pv Dl i acc H' → ok H')
    (hs : ∀ Dl i x acc H' H'', H Dl = none → i < n → H' Dl = some (.lst acc) → acc.length ≤ i → Pv Dl i acc H' → Y i x H' H'' → LcT g tt te vs σ Pv Dl i x H'')
    (hd : ∀ Dl acc H', H Dl = none → H' Dl = some (.lst acc) → acc.length ≤ n → Pv Dl n acc H' → Q (.ref Dl) H') : LcJ J g tt te vs σ H Q := by
  intro Dl hD
  refine ⟨fun i m H' => m = n - i ∧ i ≤ n ∧ LcN Pv Dl i H', ⟨_, rfl, Nat.zero_le _, [], upd_same, Nat.zero_le _, h0 Dl hD⟩, ?_⟩
  rintro i m H1 ⟨rfl, hi, acc, h1, h2, h3⟩
  have o := hok Dl i acc H1 hD h3
  by_cases hlt : i < n
  · exact .inr ⟨I.go i H1 o hlt, LcN Pv Dl (i + 1), fun H' p' => ⟨_, by omega, rfl, hlt, p'⟩, fun x H' y => hs Dl i x acc H1 H' hD hlt h1 h2 h3 (I.yld i H1 x H' o hlt y)⟩
  · have e : i = n := by omega
    subst e
    exact .inl ⟨I.stop i H1 o (Nat.le_refl _), hd Dl acc H1 hD h1 h2 h3⟩
theorem forQ (I : Itn J n ok Y) (Pv : Nat → St → Hp → Prop) (h0 : Pv 0 σ H) (hok : ∀ i σ H', Pv i σ H' → ok H')
    (hs : ∀ i x σ H' H'', i < n → Pv i σ H' → Y i x H' H'' → g x σ H'' fun σ2 H2 => tb { Dn with nx := Pv (i + 1), ct := Pv (i + 1), bk := Dn.nx } σ2 H2) (hd : ∀ σ H', Pv n σ H' → Dn.nx σ H') : ForJ J g tb Dn σ H := by
  refine ⟨fun i m σ H => m = n - i ∧ i ≤ n ∧ Pv i σ H, ⟨_, rfl, Nat.zero_le _, h0⟩, ?_⟩
  rintro i m σ H ⟨rfl, hi, p⟩
  have o := hok i σ H p
  by_cases hlt : i < n
  · exact .inr ⟨I.go i H o hlt, Pv (i + 1), fun σ' H' p' => ⟨_, by omega, rfl, hlt, p'⟩, fun x H' y => hs i x σ H H' hlt p (I.yld i H x H' o hlt y)⟩
  · have e : i = n := by omega
    subst e
    exact .inl ⟨I.stop i H o (Nat.le_refl _), hd σ H p⟩
/-- each turn makes a value that is told by the turn's number -/
theorem lcQ_map (I : Itn J n ok Y) (f : Nat → V) (hz : n ≤ 16777216) (hok : ∀ H', Kp [] H H' → ok H')
    (hs : ∀ i x H' H'' R S, i < n → Kp [] H H' → Y i x H' H'' → (∀ H4, Kp [] H'' H4 → R (f i) H4) → LcM g tt te vs σ R S x H'')
    (hd : ∀ Dl H', H Dl = none → Kp [] H H' → H' Dl = some (.lst ((List.range n).map f)) → Q (.ref Dl) H') : LcJ J g tt te vs σ H Q := by
  refine lcQ I (fun Dl i acc H' => Kp [] H H' ∧ acc = (List.range i).map f) (fun Dl hD => ⟨Kp.new hD, rfl⟩) (fun Dl i acc H' hD e => hok H' e.1) ?_ ?_
  · rintro Dl i x acc H' H'' hD hi hacc hl ⟨e, rfl⟩ y
    have k := I.kp i x H' H'' y
    refine hs i x H' H'' _ _ hi e y fun H4 e4 => ?_
    exact lc_push (e4.at0 (k.at0 hacc)) hl (by omega) ⟨((e.trans k).trans e4).fresh_mut hD, by rw [List.range_succ, List.map_append]; rfl⟩
  · rintro Dl acc H' hD hacc hl ⟨e, rfl⟩
    exact hd Dl H' hD e hacc
/-- each turn makes a new object -/
theorem lcQ_new (I : Itn J n ok Y) (ob : Nat → HO) (hz : n ≤ 16777216) (hok : ∀ H', Kp [] H H' → ok H')
    (hs : ∀ i x H' H'' R S, i < n → Kp [] H H' → Y i x H' H'' → (∀ q H4, H'' q = none → Kp [] H'' H4 → H4 q = some (ob i) → R (.ref q) H4) → LcM g tt te vs σ R S x H'')
    (hd : ∀ Dl (qs : List Addr) H', H Dl = none → Kp [] H H' → H' Dl = some (.lst (qs.map V.ref)) → qs.length = n → (∀ k q, qs[k]? = some q → H q = none ∧ H' q = some (ob k)) → Q (.ref Dl) H') : LcJ J g tt te vs σ H Q := by
  refine lcQ I (fun Dl i acc H' => Kp [] H H' ∧ ∃ qs : List Addr, acc = qs.map V.ref ∧ qs.length = i ∧ ∀ k q, qs[k]? = some q → H q = none ∧ q ≠ Dl ∧ H' q = some (ob k)) (fun Dl hD => ⟨Kp.new hD, [], rfl, rfl, fun k q h => by simp at h⟩) (fun Dl i acc H' hD e => hok H' e.1) ?_ ?_
  · rintro Dl i x acc H' H'' hD hi hacc hl ⟨e, qs, rfl, hq, hqs⟩ y
    have k := I.kp i x H' H'' y
    refine hs i x H' H'' _ _ hi e y fun q H4 hn e4 h4 => ?_
    have nq : q ≠ Dl := (ne_of_none (k.at0 hacc) hn).symm
    refine lc_push (e4.at0 (k.at0 hacc)) hl (by omega) ⟨((e.trans k).trans e4).fresh_mut hD, qs ++ [q], by rw [List.map_append]; rfl, by rw [List.length_append, hq]; rfl, fun j w hw => ?_⟩
    by_cases hj : j < qs.length
    · rw [List.getElem?_append_left hj] at hw
      obtain ⟨a1, a2, a3⟩ := hqs j w hw
      exact ⟨a1, a2, upd_other a2 (e4.at0 (k.at0 a3))⟩
    · rw [List.getElem?_append_right (by omega)] at hw
      have hj2 : j - qs.length = 0 := by
        cases h : j - qs.length with
        | zero => rfl
        | succ m => rw [h] at hw; simp at hw
      rw [hj2] at hw
      simp only [List.getElem?_cons_zero, Option.some.injEq] at hw
      subst hw
      have ej : j = i := by omega
      subst ej
      exact ⟨free0 (e.trans k) hn, nq, upd_other nq h4⟩
  · rintro Dl acc H' hD hacc hl ⟨e, qs, rfl, hq, hqs⟩
    exact hd Dl qs H' hD e hacc hq fun k q h => ⟨(hqs k q h).1, (hqs k q h).2.2⟩
end
/-! ## range with a step; enumerate -/
section
variable {K : PySem.W.Frag} {σ : St} {H : Hp} {g : TG} {tt : TT} {te : TE} {tb : TS} {ta : TA} {D : Ends} {n : Nat} {Q : VK} {vs : List Nat} {R : It → Hp → Prop} {a : Addr} {xs : List V}
theorem rgC_up {len : Nat} {c : Int} (h0 : 0 < c) (h1 : c < 1000000) (h2 : len < 1000000000) : RgC 0 len c (((len : Int) + c - 1) / c).toNat := by
  have e : Builtin.Range.rangeSize 0 len c = ((len : Int) + c - 1) / c := by
    unfold Builtin.Range.rangeSize
    rw [if_pos h0]
    by_cases hl : (0 : Int) < len
    · rw [if_pos hl]
      have e2 : (len : Int) + c - 1 = (len - 0 - 1) + c * 1 := by omega
      rw [e2, Int.add_mul_ediv_left _ _ (by omega)]
    · rw [if_neg hl]
      exact (Int.ediv_eq_zero_of_lt (by omega) (by omega)).symm
  have hq0 : 0 ≤ ((len : Int) + c - 1) / c := Int.ediv_nonneg (by omega) (by omega)
  have hq1 : ((len : Int) + c - 1) / c ≤ (len : Int) + c - 1 := Int.ediv_le_self _ (by omega)
  refine ⟨by omega, by omega, ?_, by rw [e]; omega⟩
  unfold Builtin.Range.small
  rw [e]
  simp only [Builtin.Range.rangeFitsLong, Bool.and_eq_true, Bool.or_eq_true, decide_eq_true_eq, beq_iff_eq, if_pos h0]
  omega
theorem c_rng3 (h : ta σ H fun vs H1 => ∃ (i j c : Int) (n : Nat), vs = [.int i, .int j, .int c] ∧ RgC i j c n ∧ R (Itc i c n) H1) : iRng3 ta σ H R := h
theorem c_r3C {σ : St} {len : Nat} {c : Int} (h0 : 0 < c) (h1 : c < 1000000) (h2 : len < 1000000000) (h : LcJ (Itc 0 c (((len : Int) + c - 1) / c).toNat) g tt te vs σ H Q) :
    ∃ (i j c' : Int) (n : Nat), [V.int 0, V.int len, V.int c] = [.int i, .int j, .int c'] ∧ RgC i j c' n ∧ LcJ (Itc i c' n) g tt te vs σ H Q := ⟨0, len, c, _, rfl, rgC_up h0 h1 h2, h⟩
theorem c_r3F {σ : St} {len : Nat} {c : Int} (h0 : 0 < c) (h1 : c < 1000000) (h2 : len < 1000000000) (h : ForJ (Itc 0 c (((len : Int) + c - 1) / c).toNat) g tb D σ H) :
    ∃ (i j c' : Int) (n : Nat), [V.int 0, V.int len, V.int c] = [.int i, .int j, .int c'] ∧ RgC i j c' n ∧ ForJ (Itc i c' n) g tb D σ H := ⟨0, len, c, _, rfl, rgC_up h0 h1 h2, h⟩
theorem c_enum (h : ta σ H fun vs H1 => ∃ a xs, vs = [.ref a] ∧ SqL K H1 a xs ∧ R (Ite K a) H1) : iEnum K ta σ H R := h
theorem pi_enumU {X : Cx} {e : Expr} {p pos tpos : Pos} {elts : List Expr} {kk : Nat} (hg : Gl X "enumerate") (hm : X.mg "enumerate" = none) (ha : PA X [e] ta) (hK : X.K = K := by rfl) (hs : starEach [e] X.env = [(false, eval e X.env)] := by rfl) :
    PI X (.Tuple elts kk tpos) (.Call (.Name "enumerate" p) [e] [] pos) (iEnum K ta) := hK ▸ pi_enum hg hm ha hs
end
theorem bitAnd_255 {x : Int} (h : 0 ≤ x) : Builtin.bitAnd x 255 = x % 256 := PyProof.Rows.bitAnd_m8 x
end Sa

/-! Classes: fields, methods, new instances. -/
namespace Sa
open PySem L2
/-! ## fields -/
/-- x.f is v -/
def FldK (K : PySem.W.Frag) (f : Str) (x : V) (H : Hp) (Q : VK) : Prop := ∃ a C dx fs v, x = .ref a ∧ H a = some (.ins C dx fs) ∧ Cls K C ∧ NoAttr K C f ∧ fs.lookup f = some v ∧ Q v H
def tFldU (K : PySem.W.Frag) (ta : TE) (f : Str) : TE := fun σ H Q => ta σ H fun x H1 => FldK K f x H1 Q
/-- x.f = y -/
def SetFldK (K : PySem.W.Frag) (f : Str) (x y : V) (H : Hp) (R : Hp → Prop) : Prop := ∃ a C dx fs, x = .ref a ∧ H a = some (.ins C dx fs) ∧ Cls K C ∧ NoAttr K C f ∧ fs.length < 1000 ∧ R (upd H a (.ins C dx (putF f y fs)))
def sFldU (K : PySem.W.Frag) (ta tv : TE) (f : Str) : TS := fun D σ H => tv σ H fun y H1 => ta σ H1 fun x H2 => SetFldK K f x y H2 fun H3 => D.nx σ H3
section
variable {X : Cx} {K : PySem.W.Frag} {σ : St} {H : Hp} {Q : VK} {D : Ends} {o e value : Expr} {ta tv : TE} {f : Str} {pos pos' : Pos} {a C dx : Addr} {fs : List (Str × V)} {v : V} {R : Hp → Prop}
theorem pe_fldU (he : PE X e ta) (hK : X.K = K := by rfl) (hb : attributeBase e f X.env (eval e X.env) = eval e X.env := by rfl) : PE X (.Attribute e f pos) (tFldU K ta f) := by
  subst hK
  exact pe_fld he hb
theorem ps_fldU (ha : PE X o ta) (hv : PE X value tv) (hK : X.K = K := by rfl) (hs : swapsWith value (some (.Attribute o f pos')) pos.line X.env = pure false := by rfl) : PS X (.Assign [.Attribute o f pos'] value pos) (sFldU K ta tv f) := by
  subst hK
  exact ps_fld ha hv hs
theorem c_fld (h : ta σ H fun x H1 => FldK K f x H1 Q) : tFldU K ta f σ H Q := h
theorem c_fldAt (h : H a = some (.ins C dx fs)) (c : Cls K C) (n : NoAttr K C f) (l : fs.lookup f = some v) (q : Q v H) : FldK K f (.ref a) H Q := ⟨a, C, dx, fs, v, rfl, h, c, n, l, q⟩
theorem c_setF (h : tv σ H fun y H1 => ta σ H1 fun x H2 => SetFldK K f x y H2 fun H3 => D.nx σ H3) : sFldU K ta tv f D σ H := h
theorem c_setFAt (h : H a = some (.ins C dx fs)) (c : Cls K C) (n : NoAttr K C f) (l : fs.length < 1000) (q : R (upd H a (.ins C dx (putF f v fs)))) : SetFldK K f (.ref a) v H R := ⟨a, C, dx, fs, rfl, h, c, n, l, q⟩
end
/-! ## methods -/
/-- a class of the program whose instances are plain -/
structure ClsAt (K : PySem.W.Frag) (mg : Str → Option Value) (x : Str) : Prop where
  gl : mg x = some (.ref (He.ga K x))
  cls : Cls K (He.ga K x)
/-- the receiver of a method: an instance of the class -/
def RecvK (K : PySem.W.Frag) (C m : Str) (x : V) (H : Hp) (R : Hp → Prop) : Prop := ∃ a dx fs, x = .ref a ∧ H a = some (.ins (He.ga K C) dx fs) ∧ fs.lookup m = none ∧ R H
def tMethA (K : PySem.W.Frag) (C m : Str) (sp : Sp) (E : St → XK) (ta : TE) (t : TA) : TE := fun σ H Q => ta σ H fun x H1 => RecvK K C m x H1 fun H2 => t σ H2 fun vs H3 => sp (x :: vs) H3 Q (E σ)
section
variable {X : Cx} {CX : CXT} {K : PySem.W.Frag} {C m : Str} {k j : Nat} {ps : List Str} {sp : Sp} {E : St → XK} {W : WX} {apos pos : Pos} {o e : Expr} {es : List Expr} {ta : TE} {t : TA} {pl : Sem Bool}
theorem pe_methS1 (M : MethAt X.prog X.w X.K X.mg X.base CX C m j ps sp) (c : ClsAt X.K X.mg C) (hr : Room k X.A) (hx : ∀ σ, PassesAt CX X σ (E σ)) (ho : PE X o ta) (ha : PA X (e :: es) t) (hjk : j ≤ k := by decide) (hK : X.K = K := by rfl)
    (hst : starEach (e :: es) X.env = (false, eval e X.env) :: starEach es X.env := by rfl) (hpl : (backTo pos (starEach es X.env)).any (·.1) = false := by rfl)
    (ht : eval (.Call (.Attribute o m apos) (e :: es) [] pos) X.env = (do
      let ov ← eval o X.env
      standAt apos.atName
      let (f, first) ← holding [ov] (getMethod ov m pl)
      callWith pos f first (backTo pos (starEach (e :: es) X.env)) (backToKw pos (keywordEach [] X.env))) := by rfl) :
    PE X (.Call (.Attribute o m apos) (e :: es) [] pos) (tMethA K C m sp E ta t) := by
  subst hK
  obtain ⟨fd, F, B⟩ := M.ok
  refine ⟨fun pins s σ H Q I h => ?_⟩
  refine PySem.W.methodCall_KW (pl := pl) (thn (ho.run pins s σ H _ I h) fun u s1 ⟨x, H1, I1, rx, a, dx, fs, ex, ea, l, q⟩ => ?_) ht
  subst ex
  obtain rfl : u = Value.ref a := rx
  refine getmeth_ok I1 ea c.cls M.me l (PySem.W.callWith_K (first := [.ref a]) (h₀ := X.base) I.ok.mod.kin M.me.kp (thn (ha.run pos pins s1 σ H1 _ I1 q) fun us s2 ⟨vs, H2, I2, r, q2⟩ => ⟨I2.kIn, ?_⟩) hst hpl)
  exact run_fnS (us := .ref a :: us) (vs := .ref a :: vs) (F.mono hjk) hr B (hx σ) I2 (.cons rfl r) q2
theorem pe_methS0 (M : MethAt X.prog X.w X.K X.mg X.base CX C m j ps sp) (c : ClsAt X.K X.mg C) (hr : Room k X.A) (hx : ∀ σ, PassesAt CX X σ (E σ)) (ho : PE X o ta) (hjk : j ≤ k := by decide) (hK : X.K = K := by rfl)
    (ht : eval (.Call (.Attribute o m apos) [] [] pos) X.env = (do
      let ov ← eval o X.env
      standAt apos.atName
      let (f, first) ← holding [ov] (getMethod ov m pl)
      callWith pos f first (backTo pos (starEach [] X.env)) (backToKw pos (keywordEach [] X.env))) := by rfl) :
    PE X (.Call (.Attribute o m apos) [] [] pos) (tMethA K C m sp E ta tNil) := by
  subst hK
  obtain ⟨fd, F, B⟩ := M.ok
  refine ⟨fun pins s σ H Q I h => ?_⟩
  refine PySem.W.methodCall_KW (pl := pl) (thn (ho.run pins s σ H _ I h) fun u s1 ⟨x, H1, I1, rx, a, dx, fs, ex, ea, l, q⟩ => ?_) ht
  subst ex
  obtain rfl : u = Value.ref a := rx
  exact getmeth_ok I1 ea c.cls M.me l (PySem.W.callWith_K0 (first := [.ref a]) I1.kIn M.me.kp (run_fnS (us := [.ref a]) (vs := [.ref a]) (F.mono hjk) hr B (hx σ) I1 (.cons rfl .nil) q))
end
/-- where nothing is let out -/
theorem at0 {X : Cx} : ∀ σ : St, PassesAt CX0 X σ E0 := fun _ _ _ _ _ _ _ h => h.elim
theorem atE {X : Cx} : ∀ σ : St, PassesAt (L2.CX X.prog X.w) X σ E0 := fun σ pins H s e s' I h => by
  obtain ⟨_, _, _, _, _, _, _, _, _, _, _, _, z⟩ := h
  exact z.elim
theorem atW {X : Cx} {W : WX} (tk : Takes X W) : ∀ σ : St, PassesAt (L2.CX X.prog X.w) X σ (WE W σ) := fun σ => passAt tk σ
section
variable {K : PySem.W.Frag} {C m : Str} {σ : St} {H : Hp} {Q : VK} {sp : Sp} {E : St → XK} {ta : TE} {t : TA} {a dx : Addr} {fs : List (Str × V)} {R : Hp → Prop}
theorem c_meth (h : ta σ H fun x H1 => RecvK K C m x H1 fun H2 => t σ H2 fun vs H3 => sp (x :: vs) H3 Q (E σ)) : tMethA K C m sp E ta t σ H Q := h
theorem c_recv (h : H a = some (.ins (He.ga K C) dx fs)) (l : fs.lookup m = none) (q : R H) : RecvK K C m (.ref a) H R := ⟨a, dx, fs, rfl, h, l, q⟩
end
/-! ## new instances -/
def NewK (K : PySem.W.Frag) (C : Str) (sp : Sp) (vs : List V) (H1 : Hp) (Q : VK) (E : XK) : Prop := ∀ x dx, H1 x = none → H1 dx = none → dx ≠ x →
  sp (.ref x :: vs) (upd (upd H1 dx (.own x)) x (.ins (He.ga K C) dx [])) (fun v H2 => v = .non ∧ Q (.ref x) H2) E
def tNewA (K : PySem.W.Frag) (C : Str) (sp : Sp) (E : St → XK) (t : TA) : TE := fun σ H Q => t σ H fun vs H1 => NewK K C sp vs H1 Q (E σ)
theorem c_newA {K : PySem.W.Frag} {C : Str} {sp : Sp} {E : St → XK} {t : TA} {σ : St} {H : Hp} {Q : VK} (h : t σ H fun vs H1 => NewK K C sp vs H1 Q (E σ)) : tNewA K C sp E t σ H Q := h
section
variable {X : Cx} {CX : CXT} {K : PySem.W.Frag} {C : Str} {k j : Nat} {ps : List Str} {sp : Sp} {E : St → XK} {p pos : Pos} {e : Expr} {es : List Expr} {t : TA}
theorem pe_newS (M : MethAt X.prog X.w X.K X.mg X.base CX C "__init__" j ps sp) (mk : Mk X.K (He.ga X.K C) (He.ma X.K (He.ga X.K C) "__init__")) (c : ClsAt X.K X.mg C) (hr : Room (k + 1) X.A) (hx : ∀ σ, PassesAt CX X σ (E σ)) (ha : PA X (e :: es) t)
    (hjk : j ≤ k := by decide) (hK : X.K = K := by rfl) (hg : Gl X C := by rfl)
    (hdb : (C == ("__debug__" : Str)) = false := by decide) (he : starEach (e :: es) X.env = (false, eval e X.env) :: starEach es X.env := by rfl) (hpl : (backTo pos (starEach es X.env)).any (·.1) = false := by rfl) :
    PE X (.Call (.Name C p) (e :: es) [] pos) (tNewA K C sp E t) := by
  subst hK
  obtain ⟨fd, F0, B⟩ := M.ok
  have F := F0.mono hjk
  refine ⟨fun pins s σ H Q I h => ?_⟩
  refine wpAny_Call_Name_kw (ld_glob I hg c.gl ?_ hdb)
  refine PySem.W.callWith_K (h₀ := X.base) I.ok.mod.kin mk.kp (thn (ha.run pos pins s σ H _ I h) fun us s1 ⟨vs, H1, I1, r, q⟩ => ⟨I1.kIn, ?_⟩) he hpl
  have hq := q (s1.heap.objs.size + 1) s1.heap.objs.size (I1.hok.fresh (Nat.le_succ _)) (I1.hok.fresh (Nat.le_refl _)) (Nat.ne_of_lt (Nat.lt_succ_self _))
  have I2 := Inv.made (C := He.ga X.K C) I1
  have r2 : Vals (V.ref (s1.heap.objs.size + 1) :: vs) (Value.ref (s1.heap.objs.size + 1) :: us) := .cons rfl r
  have hl : ((Value.ref (s1.heap.objs.size + 1) :: us) ++ []).length = ps.length := by
    rw [List.append_nil, ← r2.length]
    exact F.len _ _ _ _ hq
  have b := B _ (Value.ref (s1.heap.objs.size + 1) :: us) I2.kIn hl
  rw [List.append_nil] at b
  refine wpAny_call (make_map (f := He.ma X.K (He.ga X.K C) "__init__") I1.kIn mk.makes mk.init (beq_iff_eq.mp mk.fn) (codeAny_mono (F.run _ X.stack _ _ ⟨Value.ref (s1.heap.objs.size + 1) :: us, []⟩ (Value.ref (s1.heap.objs.size + 1) :: us) _ _ (E σ)
    (hr.make (He.ga X.K C) us []) (I2.env0.make (He.ga X.K C) us []) b r2 hq) fun rr s' hq' => ?_))
  cases rr with
  | error er => exact hx σ pins _ _ er s' I2 hq'
  | ok fl =>
    cases fl with
    | ret u =>
      obtain ⟨v, H', I3, rv, ev, q3⟩ := I2.after hq'
      subst ev
      exact ⟨rv, ⟨V.ref (s1.heap.objs.size + 1), H', I3, rfl, q3⟩⟩
    | next => exact False.elim hq'
    | brk => exact False.elim hq'
    | cont => exact False.elim hq'
end
end Sa

/-! try with several except clauses, with and without names. -/
namespace Sa
open PySem PySem.Spec L2
/-- one clause: the class it names, the slot of its name (if it has one), its suite's reading -/
structure Cl where
  c : Value
  i : Option Nat
  ts : Addr → Value → Option Addr → TS
def setO : Option Nat → St → Option V → St
  | none, σ, _ => σ
  | some i, σ, v => σ.set i v
def endO (i : Option Nat) (D : Ends) : Ends := { nx := fun σ' H' => D.nx (setO i σ' none) H', rt := D.rt, bk := fun σ' H' => D.bk (setO i σ' none) H', ct := fun σ' H' => D.ct (setO i σ' none) H' }
/-- what the clauses wish of an error -/
def wCl (K : PySem.W.Frag) (Wout : WX) (D : Ends) : List Cl → WX
  | [] => Wout
  | q :: r => fun cls d σ H => ∃ b, PySem.W.exmOne K cls q.c = some b ∧ (b = true → ∀ a, H a = none → q.ts a cls d (endO q.i D) (setO q.i σ (some (.ref a))) H) ∧ (b = false → wCl K Wout D r cls d σ H)
inductive ClsOk (X : Cx) : List ExceptHandler → List Cl → Prop
  | nil : ClsOk X [] []
  | bare {x : Str} {c : Value} {ts : Addr → Value → Option Addr → TS} {b₀ : Stmt} {suite : List Stmt} {np pos' : Pos} {hds : List ExceptHandler} {l : List Cl} (hc : Names X x c)
      (hsu : ∀ (a : Addr) (oe : Obj) (cls : Value) (d : Option Addr) (pn : List (Addr × Obj)), Zc cls d oe → (∃ vs, oe.data = .fields vs) → PSs (X.suite a ((a, oe) :: pn)) (b₀ :: suite) (ts a cls d)) (r : ClsOk X hds l) :
      ClsOk X (.ExceptHandler (some (.Name x np)) none (b₀ :: suite) pos' :: hds) (⟨c, none, ts⟩ :: l)
  | named {x n : Str} {i : Nat} {c : Value} {ts : Addr → Value → Option Addr → TS} {b₀ : Stmt} {suite : List Stmt} {np pos' : Pos} {hds : List ExceptHandler} {l : List Cl} (hi : X.N[i]? = some n) (hln : X.env.kindOf n = some .local) (hc : Names X x c)
      (hsu : ∀ (a : Addr) (oe : Obj) (cls : Value) (d : Option Addr) (pn : List (Addr × Obj)), Zc cls d oe → (∃ vs, oe.data = .fields vs) → PSs (X.suite a ((a, oe) :: pn)) (b₀ :: suite) (ts a cls d)) (r : ClsOk X hds l) :
      ClsOk X (.ExceptHandler (some (.Name x np)) (some n) (b₀ :: suite) pos' :: hds) (⟨c, some i, ts⟩ :: l)
section
variable {X : Cx} {body : List Stmt} {h₀ : ExceptHandler} {hds : List ExceptHandler} {l : List Cl} {pos : Pos} {tb : WX → TS} {Wout : WX}
theorem ps_tryN (hs : X.stack = X.env :: X.outer) (hf : X.env.frame = some X.env.locals) (hN : X.N.Nodup) (tk : Takes X Wout)
    (hb : ∀ (W : WX) (pn : List (Addr × Obj)) (xe : Value → Shared → Prop), Takes (X.tr pn xe) W → PassesOwn (model X.prog X.w) X.A X.env xe → PSs (X.tr pn xe) body (tb W))
    (hh : ClsOk X (h₀ :: hds) l) : PS X (.Try body (h₀ :: hds) [] [] pos) (fun D σ H => tb (wCl X.K Wout D l) D σ H) := by
  constructor
  intro pins s σ H D I h
  have ok := I.ok
  have hfr : X.A.frames = some (X.env :: X.outer) := by rw [ok.frames, hs]
  refine wpAny_Try_except (wpAny_mono ((hb (wCl X.K Wout D l) (X.pn ++ pins) (fun e s₁ => wpAny (model X.prog X.w) X.A (noteFrame e X.env) (fun _ s₂ => wpAny (model X.prog X.w) X.A (setFlight e none) (fun _ s₃ =>
    wpAny (model X.prog X.w) X.A (handleBy e X.env (h₀ :: hds)) (SP X pins D) X.xe s₃) X.xe s₂) X.xe s₁) (fun u s' xx => ?_) PassesOwn.looking).run [] s σ H D (I.toTry _) h) (fun f s1 hsp => ?_) (fun e s1 he => he))
  · obtain ⟨a, B, sI, pins', σ', H', cls, d, rfl, J', nb, up, sky, na, os, ag, w⟩ := xx
    have J : Inv X pins σ' H' sI := J'.ofTry ok
    have sky' : Sky B (X.env :: X.outer) a (Zc cls d) X.env.locals s'.heap := by rw [← hs]; exact sky
    show wpAny (model X.prog X.w) X.A (noteFrame (.ref a) X.env) _ _ _
    refine Sky.land Zc.steady hfr hf sky' fun h3 fl3 up3 => ?_
    have J3 : Inv X pins σ' H' { s' with heap := h3 } := J.landed nb fl3.1 (up.trans up3) os ag
    obtain ⟨oe3, vs3, he3, hz3, hd3⟩ := fl3.there
    have nfr : a ∉ frs (X.env :: X.outer) := fun hm => by
      obtain ⟨_, o', e', hnf⟩ := fl3.2.2.1.mem hm
      rw [he3] at e'
      cases e'
      exact hnf _ hd3
    have nL : a ≠ X.env.locals := fun z => nfr (List.mem_filterMap.mpr ⟨X.env, List.mem_cons_self, by rw [hf, z]⟩)
    have nF : a ∉ X.fs := fun hm => by
      obtain ⟨e, he, q⟩ := List.mem_filterMap.mp hm
      exact nfr (List.mem_filterMap.mpr ⟨e, List.mem_cons_of_mem _ he, q⟩)
    have S3 := J3.suite he3 hd3 na nL nF
    have LT : PySem.W.Looks (model X.prog X.w) h3 (typeOf (.ref a)) cls := fun A Q E s k q => wpAny_typeOf_ref (k _ _ he3) (by rw [hz3.1]; exact q)
    have test : ∀ {x : Str} {c : Value} {np : Pos} {Q : Value → Shared → Prop} {E : Value → Shared → Prop}, Names X x c → Q c { s' with heap := h3 } → wpAny (model X.prog X.w) (X.A.mark (some (.ref a))) (eval (.Name x np) X.env) Q E { s' with heap := h3 } := by
      intro x c np Q E hc q
      obtain ⟨hg, hdbg, hm | ⟨hm, hv, hnn⟩⟩ := hc
      · exact ld_glob (X := X.suite a ((a, oe3) :: (X.pn ++ pins))) S3 hg hm q hdbg
      · exact ld_blt (X := X.suite a ((a, oe3) :: (X.pn ++ pins))) S3 hg hm hv q hnn hdbg
    suffices go : ∀ {hds' : List ExceptHandler} {l' : List Cl}, ClsOk X hds' l' → wCl X.K Wout D l' cls d σ' H' → wpAny (model X.prog X.w) X.A (handleBy (.ref a) X.env hds') (SP X pins D) X.xe { s' with heap := h3 } from go hh w
    intro hds' l' hk
    induction hk with
    | nil =>
      intro w
      refine wpAny_handleBy_nil ?_
      obtain ⟨k1, k2, k3, oe, vs, T, oT, ts', he, hz, hd, h1, hr⟩ := id fl3
      unfold PySem.passOn
      refine wpAny_bind (wpAny_field he hd h1 ?_)
      rw [if_neg (show ¬ ((Value.ref T == Value.none) = true) from by simp)]
      have fin : wpAny (model X.prog X.w) X.A (setFlight (.ref a) X.env.frame) (fun _ s4 => wpAny (model X.prog X.w) X.A (throw (.ref a) : Sem Flow) (SP X pins D) X.xe s4) X.xe { s' with heap := h3 } := by
        rw [hf]
        exact HandSPX.setFlight_upZ fl3 fun h4 hh4 up4 => wpAny_throw (tk _ _ ⟨a, B, sI, pins, σ', H', cls, d, rfl, J, nb, (up.trans up3).trans up4, .inr (.inr (by rw [hs]; exact hh4)), na, os, ag, w⟩)
      first
        | exact wpAny_bind (wpAny_pure (wpAny_bind fin))
        | exact wpAny_bind fin
    | @bare x c ts b₀ suite np pos' hds2 l2 hc hsu r ih =>
      intro w
      obtain ⟨b, hb1, hyes, hno⟩ := w
      refine wpAny_handleBy_cons (codeAny_handlers_test ?_) (by intro q; cases q)
      refine test hc ((PySem.W.exm_one (M := model X.prog X.w) (J3.kIn) LT hb1).here ?_)
      cases b with
      | true =>
        refine codeAny_handlers_suite (HandSPX.lands_againZ fl3 fun h4 fl4 up4 => ?_)
        have J4 : Inv X pins σ' H' { s' with heap := h4 } := J.landed nb fl4.1 ((up.trans up3).trans up4) os ag
        obtain ⟨oe4, vs4, he4, hz4, hd4⟩ := fl4.there
        refine wpAny_mono ((hsu a oe4 cls d (X.pn ++ pins) hz4 ⟨_, hd4⟩).run [] _ _ H' _ (J4.suite he4 hd4 na nL nF) (hyes rfl a na)) (fun f s6 hsp => ?_) (fun _ _ z => False.elim z)
        cases f with
        | next => obtain ⟨σ6, H6, S6, q6⟩ := hsp; exact ⟨_, _, S6.unsuite ok, q6⟩
        | brk => obtain ⟨σ6, H6, S6, q6⟩ := hsp; exact ⟨_, _, S6.unsuite ok, q6⟩
        | cont => obtain ⟨σ6, H6, S6, q6⟩ := hsp; exact ⟨_, _, S6.unsuite ok, q6⟩
        | ret u => obtain ⟨v6, σ6, H6, S6, r6, q6⟩ := hsp; exact ⟨_, _, _, S6.unsuite ok, r6, q6⟩
      | false =>
        show wpAny _ X.A (handleBy (.ref a) X.env hds2) _ _ _
        exact ih (hno rfl)
    | @named x n i c ts b₀ suite np pos' hds2 l2 hi hln hc hsu r ih =>
      intro w
      obtain ⟨b, hb1, hyes, hno⟩ := w
      refine wpAny_handleBy_cons (codeAny_handlers_test ?_) (by intro q; cases q)
      refine test hc ((PySem.W.exm_one (M := model X.prog X.w) (J3.kIn) LT hb1).here ?_)
      cases b with
      | true =>
        refine codeAny_handlers_suite_as (HandSPX.lands_againZ fl3 fun h4 fl4 up4 => ?_)
        have J4 : Inv X pins σ' H' { s' with heap := h4 } := J.landed nb fl4.1 ((up.trans up3).trans up4) os ag
        obtain ⟨oe4, vs4, he4, hz4, hd4⟩ := fl4.there
        have S4 := J4.suite he4 hd4 na nL nF
        refine store_ok (X := X.suite a ((a, oe4) :: (X.pn ++ pins))) (v := .ref a) S4 hN hi (show Loc X.env.scope n from .inl hln) rfl (fun s5 S5 => ?_) (.inr hln)
        refine wpAny_mono ((hsu a oe4 cls d (X.pn ++ pins) hz4 ⟨_, hd4⟩).run [] s5 _ H' _ S5 (hyes rfl a na)) (fun f s6 hsp => ?_) (fun _ _ z => False.elim z)
        have end_ : ∀ {σ6 : St} {H6 : Hp} {Q : Shared → Prop}, Inv (X.suite a ((a, oe4) :: (X.pn ++ pins))) [] σ6 H6 s6 → (∀ s7, Inv X pins (σ6.set i none) H6 s7 → Q s7) →
            wpAny (model X.prog X.w) X.A (do bindName X.env n .none; unbindBehindTheSuite X.env n pos') (fun _ s7 => Q s7) X.xe s6 := fun {σ6 H6 Q} S6 hq => gone_ok (S6.unsuite ok) hN hi hln hq
        cases f with
        | next => obtain ⟨σ6, H6, S6, q6⟩ := hsp; exact end_ S6 fun s7 J7 => ⟨_, _, J7, q6⟩
        | brk => obtain ⟨σ6, H6, S6, q6⟩ := hsp; exact end_ S6 fun s7 J7 => ⟨_, _, J7, q6⟩
        | cont => obtain ⟨σ6, H6, S6, q6⟩ := hsp; exact end_ S6 fun s7 J7 => ⟨_, _, J7, q6⟩
        | ret u => obtain ⟨v6, σ6, H6, S6, r6, q6⟩ := hsp; exact end_ S6 fun s7 J7 => ⟨_, _, _, J7, r6, q6⟩
      | false =>
        show wpAny _ X.A (handleBy (.ref a) X.env hds2) _ _ _
        exact ih (hno rfl)
  · cases f with
    | next => obtain ⟨σ', H', J', q⟩ := hsp; exact wpAny_execs_nil ⟨σ', H', J'.ofTry ok, q⟩
    | brk => obtain ⟨σ', H', J', q⟩ := hsp; exact ⟨σ', H', J'.ofTry ok, q⟩
    | cont => obtain ⟨σ', H', J', q⟩ := hsp; exact ⟨σ', H', J'.ofTry ok, q⟩
    | ret u => obtain ⟨v, σ', H', J', r, q⟩ := hsp; exact ⟨v, σ', H', J'.ofTry ok, r, q⟩
end
section
variable {K : PySem.W.Frag} {Wout : WX} {D : Ends} {σ : St} {H : Hp} {cls : Value} {d : Option Addr} {q : Cl} {r : List Cl}
theorem c_hit (he : PySem.W.exmOne K cls q.c = some true) (h : ∀ a, H a = none → q.ts a cls d (endO q.i D) (setO q.i σ (some (.ref a))) H) : wCl K Wout D (q :: r) cls d σ H := ⟨true, he, fun _ => h, fun z => by cases z⟩
theorem c_miss (he : PySem.W.exmOne K cls q.c = some false) (h : wCl K Wout D r cls d σ H) : wCl K Wout D (q :: r) cls d σ H := ⟨false, he, (fun z => nomatch z), fun _ => h⟩
end
end Sa

/-! len(set(texts)) (a rule of the library turned from whole numbers to texts). -/
namespace Sa
open PySem PySem.Spec
def stepT (σ : List Str) (v : Str) : List Str := if σ.any (· == v) then σ else σ ++ [v]
/-- each text once -/
def ded (xs : List Str) : List Str := xs.foldl stepT []
theorem stepT_any (σ : List Str) (v k : Str) : (stepT σ v).any (· == k) = (σ.any (· == k) || decide (k = v)) := by
  unfold stepT
  by_cases h : σ.any (· == v) = true
  · rw [if_pos h]
    by_cases e : k = v
    · subst e; rw [h]; simp
    · simp [e]
  · rw [if_neg h, List.any_append]
    by_cases e : k = v
    · subst e; simp
    · have hb : (v == k) = false := by simpa [beq_iff_eq] using (fun h' : v = k => e h'.symm)
      simp [hb, e]
theorem stepT_length (σ : List Str) (v : Str) : (stepT σ v).length = if σ.any (· == v) then σ.length else σ.length + 1 := by
  unfold stepT; split <;> simp
theorem ded_snoc (xs : List Str) (v : Str) : ded (xs ++ [v]) = stepT (ded xs) v := by unfold ded; rw [List.foldl_append]; rfl
theorem ded_take {xs : List Str} {i : Nat} (h : i < xs.length) : ded (xs.take (i + 1)) = stepT (ded (xs.take i)) (xs.getD i Str.empty) := by
  have e : xs[i]? = some (xs.getD i Str.empty) := by rw [List.getD_eq_getElem?_getD, List.getElem?_eq_getElem h]; rfl
  rw [take_succ' e, ded_snoc]
theorem ded_le (xs : List Str) : (ded xs).length ≤ xs.length := by
  suffices h : ∀ i, (ded (xs.take i)).length ≤ i by
    have := h xs.length
    rwa [List.take_length] at this
  intro i
  induction i with
  | zero => rw [List.take_zero]; exact Nat.le_refl _
  | succ i ih =>
    by_cases hi : i < xs.length
    · rw [ded_take hi, stepT_length]; split <;> omega
    · rw [List.take_of_length_le (by omega)] at ih ⊢
      omega
section
open PyProof.Rows
variable {prog : Program} {w : World} {A : Around} {R : Result → Shared → Prop} {I : Addr} {fp wr : List Addr} {G : Array GenState → Array GenState → Prop} {n : Nat} {P : Nat → Value → Prop} {St : Nat → Shared → Prop}
theorem set_loopT (W : WalksS prog w A.in1 I fp wr G n P St) (S : Addr) (hSf : S ∉ fp)
    (xs : List Str) (hval : ∀ i v, P i v → ∃ t, v = .str (xs.getD i Str.empty) t) (hsz : xs.length = n) (hb : n + 1 < scanBound) :
    ∀ (k i : Nat) (s : Shared), n - i = k → i ≤ n → St i s →
      s.heap.SetOf (strKind prog w) S (fun k' => (ded (xs.take i)).any (· == k')) (ded (xs.take i)).length →
      (∀ s', Moved (S :: wr) G s s' → s'.heap.SetOf (strKind prog w) S (fun k' => (ded (xs.take n)).any (· == k')) (ded (xs.take n)).length → R (.ok (.ret .none)) s') →
      codeAny (model prog w) A (.builtin "set.update.loop" ⟨[.ref S, .ref I], []⟩) R s := by
  have hSw : S ∉ wr := fun h => hSf (W.sub _ h)
  have hsub : ∀ b ∈ wr, b ∈ S :: wr := fun b hb => List.mem_cons_of_mem _ hb
  intro k
  induction k with
  | zero =>
    intro i s hk hi hst hS hR
    have hin : i = n := by omega
    subst hin
    refine codeAny_builtin PyProof.Rows.F.entry_set_update_loop ?_
    rw [Around.under_plainId PyProof.Rows.F.plain_set_update_loop _]
    show wpAny _ A.in1 (pyNext (.ref I) >>= _) _ _ s
    refine wpAny_bind (W.done s _ _ hst fun s' hm => ?_)
    show wpAny _ A.in1 (ret Value.none) _ _ s'
    exact wpAny_pure (hR s' (hm.mono hsub) (by
      obtain ⟨o, es, ep, t, ho, rest⟩ := hS
      exact ⟨o, es, ep, t, hm.heap S _ hSw ho, rest⟩))
  | succ k ih =>
    intro i s hk hi hst hS hR
    have hlt : i < n := by omega
    refine codeAny_builtin PyProof.Rows.F.entry_set_update_loop ?_
    rw [Around.under_plainId PyProof.Rows.F.plain_set_update_loop _]
    show wpAny _ A.in1 (pyNext (.ref I) >>= _) _ _ s
    refine wpAny_bind (W.item i s _ _ hlt hst fun v s' hP hst' hm => ?_)
    obtain ⟨t, rfl⟩ := hval i v hP
    have hS' : s'.heap.SetOf (strKind prog w) S (fun k' => (ded (xs.take i)).any (· == k')) (ded (xs.take i)).length := by
      obtain ⟨o, es, ep, tb, ho, rest⟩ := hS
      exact ⟨o, es, ep, tb, hm.heap S _ hSw ho, rest⟩
    show wpAny _ A.in1 (holding [Value.str (xs.getD i Str.empty) t] (setAdd S (.str (xs.getD i Str.empty) t)) >>= _) _ _ s'
    refine wpAny_bind (wpAny_holding ?_)
    unfold setAdd
    refine wpAny_holding ?_
    refine wpAny_bind ((strKind prog w).pyHash (k := xs.getD i Str.empty) (strKind_is _ _ _ _) ?_)
    have hroom : (ded (xs.take i)).length + 1 < scanBound := by have := ded_le (xs.take i); rw [List.length_take] at this; omega
    refine wpAny_setAddHashed_of (knd := strKind prog w) (s := { s' with toks := s'.toks + 1 }) (strKind_is _ _ _ _) rfl hS' hroom fun h' hsb hS2 => ?_

    have hSi : h'.SetOf (strKind prog w) S (fun k' => (ded (xs.take (i + 1))).any (· == k')) (ded (xs.take (i + 1))).length :=
      SetOf_congr hS2 (fun k' => by rw [ded_take (by omega), stepT_any]) (by rw [ded_take (by omega), stepT_length])
    refine wpAny_pure ⟨plainId_quiet PyProof.Rows.F.plain_set_update_loop _, ih (i + 1) _ (by omega) hlt (W.frame _ s' _ _ hst' (Nat.le_succ _) fun b hb o e => ?_) hSi fun s'' hm'' hS'' => ?_⟩
    · rw [hsb.2 b (fun h : b = S => hSf (by rw [← h]; exact hb))]; exact e
    · refine hR s'' (Moved.trans W.gtrans ((hm.mono hsub).then_heap (Nat.le_succ _) fun b o hb e => ?_) hm'') hS''
      rw [hsb.2 b (fun h : b = S => hb (by rw [h]; exact List.mem_cons_self))]; exact e
end
section
variable {prog : Program} {w : World} {A : Around} {E : Value → Shared → Prop} {s : Shared}
set_option maxRecDepth 100000 in
set_option maxHeartbeats 3200000 in
theorem call_set_texts {l : Addr} {items : Array Value} {xs : List Str} {Q : Value → Shared → Prop}
    (hh : A.handled = none) (hl : s.heap.IsList l items) (hi : PyProof.Rows.StrsAre items.toList xs) (hsz : xs.length = items.size) (hb : items.size + 1 < scanBound)
    (h : ∀ (h' : Heap) (tk : Nat), h'.SetOf (strKind prog w) s.heap.objs.size (fun k' => (ded (xs.take items.size)).any (· == k')) (ded (xs.take items.size)).length →
      (∀ b o, b < s.heap.objs.size → s.heap.get? b = some o → h'.get? b = some o) → Q (.ref s.heap.objs.size) { s with heap := h', toks := tk }) :
    wpAny (model prog w) A (call (.type "set") [.ref l]) Q E s := by
  obtain ⟨c, tl, hmro⟩ := F.called_set.mro
  have hmade := F.called_set.made
  have hsub := F.called_set.sub
  refine wpAny_call (codeAny_of_tree ?_)
  show wpAny _ _ (callAny (.type "set") _) _ _ _
  refine wpAny_pure ⟨Code.quiet_builtin _ (by decide +kernel), codeAny_builtin F.entry_type_call ?_⟩
  rw [Around.under_plain (weight_type_call_type "set" [.ref l] []) rfl]
  have h1 := F.called_set.notType
  have h2 := F.called_set.canCreate
  have hct := F.typeCall_set_1 (.ref l)
  repeat (any_goals (first | assumption | wp_step))

  refine codeAny_mono (code_set_new_1 (.ref l) (E := E) (Q₁ := fun obj s₁ => ∃ led : Bool, obj = .ref s.heap.objs.size ∧ s₁ = { s with heap := s.heap.push { cls := .type "set", dict := none, data := .set #[] 0 (.fresh 0 0 led) } }) fun led => ⟨led, rfl, rfl⟩) fun r s₁ hr => ?_
  cases r with
  | error e => exact hr
  | ok fl =>
    cases fl with
    | ret obj =>
      obtain ⟨led, rfl, rfl⟩ := hr
      have hS : (s.heap.push { cls := .type "set", dict := none, data := .set #[] 0 (.fresh 0 0 led) }).get? s.heap.objs.size = some { cls := .type "set", dict := none, data := .set #[] 0 (.fresh 0 0 led) } := Heap.get?_push_size _ rfl
      have hT : Shared.TypeIs { s with heap := s.heap.push { cls := .type "set", dict := none, data := .set #[] 0 (.fresh 0 0 led) } } (.ref s.heap.objs.size) "set" := ⟨_, hS, rfl⟩
      have hli := F.called_set.init.lookup
      have hbi := F.called_set.init.bind (.ref s.heap.objs.size)
      repeat (any_goals (first | assumption | wp_step))

      refine codeAny_mono (codeAny_call_builtin (R := wants (fun r s₂ => r = .none ∧ ∃ h' tk, s₂ = { s with heap := h', toks := tk } ∧
          h'.SetOf (strKind prog w) s.heap.objs.size (fun k' => (ded (xs.take items.size)).any (· == k')) (ded (xs.take items.size)).length ∧
          (∀ b o, b < s.heap.objs.size → s.heap.get? b = some o → h'.get? b = some o)) E) F.called_set.init.plain F.entry_set_init (check_set_init_1 hT ?_)) fun r₂ s₂ hr₂ => ?_
      · obtain ⟨ol, hol, hcl, nl, hdl⟩ := hl
        obtain ⟨ocls, odict, odata, oslots⟩ := ol
        simp only at hcl hdl
        subst hcl; subst hdl
        have hol' : (s.heap.push { cls := .type "set", dict := none, data := .set #[] 0 (.fresh 0 0 led) }).get? l = some { cls := .type "list", dict := odict, data := .seq items nl, slots := oslots } := Heap.get?_push_of_some _ hol
        have hsls := F.sub_list_set
        have hslf := F.sub_list_frozenset
        have hne : (Value.type "list" == Value.type "dict") = false := by decide
        have hl1 : (s.heap.push { cls := .type "set", dict := none, data := .set #[] 0 (.fresh 0 0 led) }).IsList l items := ⟨_, hol', rfl, nl, rfl⟩
        unfold Builtin.«set.__init__» noKeywords Builtin.Frozenset.updateFrom
        generalize hPI : pyIter = PI
        wp_walk
        subst hPI

        refine wpAny_pyIter_list hl1 ?_
        refine wpAny_bind (wpAny_runValue ?_)
        have hlS : l < s.heap.objs.size := Heap.lt_size hol
        have hh3 : A.in1.in1.in1.handled = none := by simp [hh]
        have hneI : l ≠ (s.heap.push { cls := .type "set", dict := none, data := .set #[] 0 (.fresh 0 0 led) }).objs.size := by
          rw [Heap.size_push]; exact Nat.ne_of_lt (Nat.lt_succ_of_lt hlS)
        have hSf : s.heap.objs.size ∉ [(s.heap.push { cls := .type "set", dict := none, data := .set #[] 0 (.fresh 0 0 led) }).objs.size, l] := by
          rw [Heap.size_push]; simp only [List.mem_cons, List.mem_singleton, List.not_mem_nil, or_false, not_or]
          exact ⟨Nat.ne_of_lt (Nat.lt_succ_self _), Nat.ne_of_gt hlS⟩
        have hval : ∀ (i : Nat) (v : Value), items[i]? = some v → ∃ t, v = .str (xs.getD i Str.empty) t := fun i v hv =>
          SS.strs_at hi i v (by rw [Array.getElem?_toList]; exact hv)
        refine set_loopT ((Walks.list hh3 _ l hneI items).toS) s.heap.objs.size
          hSf xs hval hsz hb (items.size - 0) 0 _ (by omega) (Nat.zero_le _)
          ⟨⟨_, Heap.get?_push_size _ rfl, rfl, rfl⟩, (hl1.push _)⟩ ?hS0 ?hR
        case hS0 =>
          have hget : ((s.heap.push { cls := .type "set", dict := none, data := .set #[] 0 (.fresh 0 0 led) }).push { cls := .type "list_iterator", data := .fields #[.ref l, .int 0 0] }).get? s.heap.objs.size
              = some { cls := .type "set", dict := none, data := .set #[] 0 (.fresh 0 0 led) } := Heap.get?_push_of_some _ hS
          exact PyProof.Rows.SetOf_congr ((PyProof.Rows.setObjOf_fresh (knd := strKind prog w) led).setOf hget (by unfold scanBound; omega)) (fun _ => by rw [List.take_zero]; rfl) (by rw [List.take_zero]; rfl)
        case hR =>
          intro s' hm hS'
          obtain ⟨h', g', d', tk', os'⟩ := s'
          have eg : g' = s.gens := hm.gens
          have ed : d' = s.drawn := hm.drawn
          have eo : os' = s.os := hm.os
          subst eg; subst ed; subst eo
          show wpAny _ _ _ _ _ _
          refine wpAny_pure ?_
          show wpAny _ _ (ret Value.none) _ _ _
          refine wpAny_pure ⟨rfl, h', tk', rfl, hS', fun b o hb e => ?_⟩
          have hb1 : b ≠ s.heap.objs.size := Nat.ne_of_lt hb
          have hb2 : b ≠ (s.heap.push { cls := .type "set", dict := none, data := .set #[] 0 (.fresh 0 0 led) }).objs.size := by
            rw [Heap.size_push]; exact Nat.ne_of_lt (Nat.lt_succ_of_lt hb)
          exact hm.heap b o (by simp only [List.mem_cons, List.mem_singleton, List.not_mem_nil, or_false, not_or]; exact ⟨hb1, hb2⟩) (Heap.get?_push_of_some _ (Heap.get?_push_of_some _ e))

      · cases r₂ with
        | error e => exact hr₂
        | ok fl₂ =>
          cases fl₂ with
          | ret r =>
            obtain ⟨rfl, h', tk, rfl, hS', hk'⟩ := hr₂
            repeat (any_goals (first | assumption | wp_step))
            exact h _ _ hS' hk'
          | _ => exact hr₂.elim
    | _ => exact hr.elim
end
end Sa

/-! len(set(texts)) as a reading; walks of lists or tuples; dicts of texts. -/
namespace Sa
open PySem L2
def tLenSetU (K : PySem.W.Frag) (ta : TE) : TE := fun σ H Q => ta σ H fun x H1 => ∃ (l : Addr) (xs : List Str), x = .ref l ∧ SqL K H1 l (xs.map V.str) ∧ xs.length ≤ 1000 ∧ Q (.int (ded xs).length) H1
theorem c_lenSet {K : PySem.W.Frag} {ta : TE} {σ : St} {H : Hp} {Q : VK} (h : ta σ H fun x H1 => ∃ (l : Addr) (xs : List Str), x = .ref l ∧ SqL K H1 l (xs.map V.str) ∧ xs.length ≤ 1000 ∧ Q (.int (ded xs).length) H1) : tLenSetU K ta σ H Q := h
theorem pe_lenSetU {X : Cx} {K : PySem.W.Frag} {a : Expr} {ta : TE} {p p2 q pos : Pos} (hc : X.calm = true) (hm : X.mg "len" = none) (hm2 : X.mg "set" = none) (ha : PE X a ta) (hK : X.K = K := by rfl) (hg : Gl X "len" := by rfl) (hg2 : Gl X "set" := by rfl)
    (na : starEach [a] X.env = (false, eval a X.env) :: starEach [] X.env := by rfl) : PE X (.Call (.Name "len" p) [.Call (.Name "set" p2) [a] [] q] [] pos) (tLenSetU K ta) := by
  subst hK
  constructor
  intro pins s σ H Q I h
  refine PyProof.Rows.Call_ (ld_blt I hg hm PySem.boot_len (PyProof.Rows.callWith_builtin1 (PyProof.Rows.args_cons ?_ rfl) rfl rfl))
  refine PyProof.Rows.Call_ (ld_blt I hg2 hm2 PySem.Pv.boot_set (PyProof.Rows.callWith_type1 (PyProof.Rows.args_cons (thn (ha.run pins s σ H _ I h) fun v s1 ⟨x, H1, I1, r1, q1⟩ => PyProof.Rows.args_nil ?_) na) na rfl))
  obtain ⟨l, xs, rfl, hq, h1, q1⟩ := q1
  cases r1
  obtain ⟨its, r, pl, hz⟩ := I1.list hq
  have hl : its.length = xs.length := by rw [← r.length, List.length_map]
  refine call_set_texts (xs := xs) (I1.ok.hd hc) pl.isList (by simpa using strsAre_of r) (by rw [List.size_toArray, hl]) (by rw [List.size_toArray, hl]; unfold scanBound; omega) fun h' tk hS hk => PyProof.Rows.args_nil ?_
  have hsz : its.toArray.size = xs.length := by rw [List.size_toArray, hl]
  rw [hsz, List.take_length] at hS
  obtain ⟨o, es, ep, t, ho, hex, hd, _, _, _, hf, hn⟩ := hS
  have I2 : Inv X pins σ H1 { s1 with heap := h', toks := tk } := I1.kept fun b o e => hk b o (Heap.lt_size e) e
  exact call_len_set ho hex hd hf (by rw [hn]; have := ded_le xs; omega) ⟨.int (ded xs).length, H1, I2.tok _, ⟨_, by rw [hn]⟩, q1⟩
/-! ## walks of a list or of a tuple -/
/-- whatever sequence it is -/
def Sq (K : PySem.W.Frag) (H : Hp) (a : Addr) (xs : List V) : Prop := SqL K H a xs ∨ SqT K H a xs
def iSeq (K : PySem.W.Frag) (te : TE) : TI := fun σ H R => te σ H fun x H1 => ∃ a, x = .ref a ∧ (((∃ xs, SqL K H1 a xs) ∧ R (Itl K a) H1) ∨ ((∃ xs, SqT K H1 a xs) ∧ R (Itt K a) H1))
theorem pi_seq {X : Cx} {K : PySem.W.Frag} {tg e : Expr} {te : TE} (he : PE X e te) (hK : X.K = K := by rfl) : PI X tg e (iSeq K te) := by
  subst hK
  constructor
  intro pins s σ H R I h
  refine thn (he.run pins s σ H _ I h) fun v s1 ⟨x, H1, I1, r1, a, ex, z⟩ => ?_
  subst ex
  cases r1
  have fp : ∀ b ∈ [s1.heap.objs.size], FpOk X pins H1 b := fun b hb => by
    rw [List.mem_singleton.mp hb]
    exact I1.fpOk (Nat.le_refl _) (I1.hok.fresh (Nat.le_refl _))
  rcases z with ⟨⟨xs, hq⟩, q⟩ | ⟨⟨xs, hq⟩, q⟩
  · obtain ⟨its, rv, p, hz⟩ := I1.list hq
    exact wpAny_pyIter_list p.isList ⟨_, [s1.heap.objs.size], _, _, H1, rfl, I1.kept (t' := s1.toks) fun b o e => Heap.get?_push_of_some _ e, turn_list a _, ⟨_, Heap.get?_push_size _ rfl, rfl, rfl⟩, fp, q⟩
  · obtain ⟨its, rv, p, hz⟩ := I1.tuple hq
    exact wpAny_pyIter_tuple (show s1.heap.IsTuple a its.toArray from p) ⟨_, [s1.heap.objs.size], _, _, H1, rfl, I1.kept (t' := s1.toks) fun b o e => Heap.get?_push_of_some _ e, turn_tuple a _, ⟨_, Heap.get?_push_size _ rfl, rfl, rfl⟩, fp, q⟩
section
variable {K : PySem.W.Frag} {σ : St} {H : Hp} {R : It → Hp → Prop} {te : TE} {a : Addr} {xs : List V} {g : TG} {tt : TT} {tb : TS} {D : Ends} {vs : List Nat} {Q : VK}
theorem c_iSeq (h : te σ H fun x H1 => ∃ a, x = .ref a ∧ (((∃ xs, SqL K H1 a xs) ∧ R (Itl K a) H1) ∨ ((∃ xs, SqT K H1 a xs) ∧ R (Itt K a) H1))) : iSeq K te σ H R := h
end
/-! ## dicts whose keys are texts -/
def rSortedDU : List V → Hp → VK → Prop := fun xs H Q => ∃ (a : Addr) (kvs : List (Key × V)) (ks : List Str), xs = [.ref a] ∧ Rd H a (.dK kvs) ∧ kvs.map (·.1) = ks.map Sum.inr ∧ ks.length < 64 ∧ ∀ ys p, ys.Perm ks → PyProof.Rows.sortedS ys = true → H p = none → Q (.ref p) (upd H p (.lst (ys.map V.str)))
theorem cr_sortedDU {X : Cx} (hc : X.calm = true) : CallR X (.builtin "sorted") rSortedDU := call_sortedD hc
theorem pe_dgetU {X : Cx} {o e : Expr} {apos cpos : Pos} {td ty : TE} (hu : X.A.units + 1 < cLine) (ho : PE X o td) (he : PE X e ty) (hb : attributeBase o "get" X.env (eval o X.env) = eval o X.env := by rfl)
    (hf : ((backTo cpos (starEach [e] X.env)).all (fun x => !x.1) && (backToKw cpos (keywordEach [] X.env)).all (fun x => x.1.isSome) && decide (([e] : List Expr).length + ([] : List Keyword).length + (if ([] : List Keyword).isEmpty then 0 else 1) < 30)) = true := by rfl)
    (hl : (apos.endLine == cpos.line) = true := by rfl) (ht : backTo cpos (starEach [e] X.env) = [(false, eval e X.env)] := by rfl) : PE X (.Call (.Attribute o "get" apos) [e] [] cpos) (tDGet1 td ty) := pe_dget1 hu ho he ⟨hb, hf, hl, ht⟩
theorem c_dget {td ty : TE} {σ : St} {H : Hp} {Q : VK} (h : td σ H fun x H1 => ty σ H1 fun y H2 => ∃ a v, x = .ref a ∧ DGet H2 a y (some v) ∧ Q v H2) : tDGet td ty σ H Q := h
/-- d[k], d.get(k) of a dict whose keys are texts -/
theorem c_dget1 {td ty : TE} {σ : St} {H : Hp} {Q : VK} (h : td σ H fun x H1 => ∃ a, x = .ref a ∧ IsD H1 a ∧ ty σ H1 fun y H2 => ∃ o, DGet H2 a y o ∧ Q (o.getD .non) H2) : tDGet1 td ty σ H Q := h
end Sa

/-! Texts in order; rows by their paths. -/
namespace Sa
open PySem L2
def leS (a b : Str) : Prop := ¬ (b.cps.toList < a.cps.toList)
instance (a b : Str) : Decidable (leS a b) := inferInstanceAs (Decidable (¬ _))
theorem leS_refl (a : Str) : leS a a := List.lt_irrefl _
theorem str_ext {a b : Str} (h : a.cps.toList = b.cps.toList) : a = b := by
  cases a; cases b
  congr 1
  exact Array.toList_inj.mp h
theorem leS_antisymm {a b : Str} (h1 : leS a b) (h2 : leS b a) : a = b := str_ext (List.le_antisymm (List.not_lt.mp h1) (List.not_lt.mp h2))
theorem leS_trans {a b c : Str} (h1 : leS a b) (h2 : leS b c) : leS a c := List.not_lt.mpr (List.le_trans (List.not_lt.mp h1) (List.not_lt.mp h2))
theorem leS_total (a b : Str) : leS a b ∨ leS b a := (List.le_total a.cps.toList b.cps.toList).imp List.not_lt.mpr List.not_lt.mpr
theorem leS_of_lt {a b : Str} (h : a.cps.toList < b.cps.toList) : leS a b := List.not_lt.mpr (List.le_of_lt h)
theorem rising_pair : ∀ (p : Str) (l : List Str), PyProof.Rows.risingS p l = true → (p :: l).Pairwise leS
  | p, [], _ => List.pairwise_singleton ..
  | p, x :: r, h => by
    unfold PyProof.Rows.risingS at h
    rw [Bool.and_eq_true, PyProof.Rows.ltCps_eq, Bool.not_eq_true', decide_eq_false_iff_not] at h
    have ih := rising_pair x r h.2
    refine List.pairwise_cons.mpr ⟨fun y hy => ?_, ih⟩
    rcases List.mem_cons.mp hy with e | hy
    · subst e; exact h.1
    · exact leS_trans h.1 ((List.pairwise_cons.mp ih).1 y hy)
theorem sorted_pair {l : List Str} (h : PyProof.Rows.sortedS l = true) : l.Pairwise leS := by
  cases l with
  | nil => exact .nil
  | cons x r => exact rising_pair x r h
theorem sorted_eq : ∀ {ys zs : List Str}, ys.Perm zs → ys.Pairwise leS → zs.Pairwise leS → ys = zs
  | [], zs, hp, _, _ => (List.Perm.nil_eq hp)
  | y :: r, [], hp, _, _ => by have := hp.length_eq; simp at this
  | y :: r, z :: t, hp, h1, h2 => by
    obtain ⟨a1, a2⟩ := List.pairwise_cons.mp h1
    obtain ⟨b1, b2⟩ := List.pairwise_cons.mp h2
    have e : y = z := by
      have m1 : y ∈ z :: t := hp.subset (List.mem_cons_self ..)
      have m2 : z ∈ y :: r := hp.symm.subset (List.mem_cons_self ..)
      rcases List.mem_cons.mp m1 with e | m1
      · exact e
      rcases List.mem_cons.mp m2 with e | m2
      · exact e.symm
      exact leS_antisymm (a1 z m2) (b1 y m1)
    subst e
    rw [sorted_eq (List.perm_cons y |>.mp hp) a2 b2]
section
variable {β : Type}
def insF (x : Str × β) : List (Str × β) → List (Str × β)
  | [] => [x]
  | y :: r => if x.1.cps.toList < y.1.cps.toList then x :: y :: r else y :: insF x r
def sortF (fs : List (Str × β)) : List (Str × β) := fs.foldr insF []
theorem insF_perm (x : Str × β) : ∀ fs : List (Str × β), (insF x fs).Perm (x :: fs)
  | [] => .refl _
  | y :: r => by
    unfold insF
    split
    · exact .refl _
    · exact ((insF_perm x r).cons y).trans (.swap ..)
theorem sortF_perm : ∀ fs : List (Str × β), (sortF fs).Perm fs
  | [] => .refl _
  | x :: r => (insF_perm x (sortF r)).trans ((sortF_perm r).cons x)
def Asc (fs : List (Str × β)) : Prop := (fs.map Prod.fst).Pairwise leS
theorem insF_asc (x : Str × β) : ∀ {fs : List (Str × β)}, Asc fs → Asc (insF x fs)
  | [], _ => List.pairwise_singleton ..
  | y :: r, h => by
    obtain ⟨h1, h2⟩ := List.pairwise_cons.mp (show (y.1 :: r.map Prod.fst).Pairwise leS from h)
    unfold insF
    split
    · rename_i hlt
      refine List.pairwise_cons.mpr ⟨fun z hz => ?_, h⟩
      rcases List.mem_cons.mp hz with e | hz
      · subst e; exact leS_of_lt hlt
      · exact leS_trans (leS_of_lt hlt) (h1 z hz)
    · rename_i hlt
      refine List.pairwise_cons.mpr ⟨fun z hz => ?_, insF_asc x (fs := r) h2⟩
      have : z ∈ (x :: r).map Prod.fst := ((insF_perm x r).map Prod.fst).subset hz
      rcases List.mem_cons.mp this with e | hz
      · subst e; exact hlt
      · exact h1 z hz
theorem sortF_asc : ∀ fs : List (Str × β), Asc (sortF fs)
  | [] => .nil
  | x :: r => insF_asc x (sortF_asc r)
/-- the keys of rows, sorted, are those of the sorted rows -/
theorem sorted_keys {fs : List (Str × β)} {ys : List Str} (h : ys.Perm (fs.map Prod.fst)) (hs : PyProof.Rows.sortedS ys = true) : ys = (sortF fs).map Prod.fst :=
  sorted_eq (h.trans ((sortF_perm fs).map Prod.fst).symm) (sorted_pair hs) (sortF_asc fs)
theorem sortF_len (fs : List (Str × β)) : (sortF fs).length = fs.length := (sortF_perm fs).length_eq
/-- rows with each path once -/
def Once (fs : List (Str × β)) : Prop := (fs.map Prod.fst).Nodup
theorem sortF_once {fs : List (Str × β)} (h : Once fs) : Once (sortF fs) := ((sortF_perm fs).map Prod.fst).symm.nodup h
theorem asc_perm_eq {fs gs : List (Str × β)} (hp : fs.Perm gs) (ho : Once fs) (h1 : Asc fs) (h2 : Asc gs) : fs = gs := by
  induction fs generalizing gs with
  | nil => exact List.Perm.nil_eq hp
  | cons x r ih =>
    cases gs with
    | nil => have := hp.length_eq; simp at this
    | cons y t =>
      have ek := sorted_eq (hp.map Prod.fst) h1 h2
      simp only [List.map_cons, List.cons.injEq] at ek
      have exy : x = y := by
        rcases List.mem_cons.mp (hp.subset (List.mem_cons_self ..)) with e | m
        · exact e
        · exfalso
          have hy : Once (y :: t) := (hp.map Prod.fst).nodup ho
          have : y.1 ∉ t.map Prod.fst := (List.nodup_cons.mp hy).1
          exact this (ek.1 ▸ List.mem_map_of_mem (f := Prod.fst) m)
      subst exy
      rw [ih ((List.perm_cons x).mp hp) (List.nodup_cons.mp ho).2 (List.pairwise_cons.mp h1).2 (List.pairwise_cons.mp h2).2]
theorem sortF_of_asc {fs : List (Str × β)} (ho : Once fs) (h : Asc fs) : sortF fs = fs := asc_perm_eq (sortF_perm fs) (sortF_once ho) (sortF_asc fs) h
theorem sortF_congr {fs gs : List (Str × β)} (hp : fs.Perm gs) (ho : Once fs) : sortF fs = sortF gs :=
  asc_perm_eq ((sortF_perm fs).trans (hp.trans (sortF_perm gs).symm)) (sortF_once ho) (sortF_asc _) (sortF_asc _)
/-- what stands at a path -/
def at? (fs : List (Str × β)) (p : Str) : Option β := (fs.find? fun f => decide (f.1 = p)).map Prod.snd
theorem at_some {fs : List (Str × β)} (ho : Once fs) {p : Str} {v : β} : at? fs p = some v ↔ (p, v) ∈ fs := by
  induction fs with
  | nil => simp [at?]
  | cons f r ih =>
    obtain ⟨h1, h2⟩ := List.nodup_cons.mp (show (f.1 :: r.map Prod.fst).Nodup from ho)
    have ih := ih h2
    unfold at? at ih ⊢
    rw [List.find?_cons]
    by_cases e : f.1 = p
    · rw [decide_eq_true e]
      constructor
      · intro h
        have h : f.2 = v := by simpa using h
        rw [← e, ← h]
        exact List.mem_cons_self ..
      · intro h
        rcases List.mem_cons.mp h with h | h
        · rw [← h]; rfl
        · exact absurd (List.mem_map_of_mem (f := Prod.fst) h) (by rw [← e]; exact h1)
    · rw [decide_eq_false e]
      rw [ih]
      constructor
      · exact List.mem_cons_of_mem _
      · intro h
        rcases List.mem_cons.mp h with h | h
        · exact absurd (by rw [← h]) e
        · exact h
theorem at_perm {fs gs : List (Str × β)} (ho : Once fs) (hp : fs.Perm gs) (p : Str) : at? fs p = at? gs p := by
  have hg : Once gs := (hp.map Prod.fst).nodup ho
  cases h : at? gs p with
  | none =>
    cases h2 : at? fs p with
    | none => rfl
    | some v => rw [(at_some hg).mpr (hp.subset ((at_some ho).mp h2))] at h; cases h
  | some v => exact (at_some ho).mpr (hp.symm.subset ((at_some hg).mp h))
end
end Sa

/-! Dict comprehensions; rows of files as they lie in the heap. -/
namespace Sa
open PySem L2
section
variable {K : PySem.W.Frag} {σ : St} {H : Hp} {wi : TI} {g : TG} {tt : TT} {tk tv : TE} {n : Nat} {Q : VK} {vs : List Nat} {J : It} {ok : Hp → Prop} {Y : Nat → V → Hp → Hp → Prop}
def DcJ (J : It) (g : TG) (tt : TT) (tk tv : TE) (vs : List Nat) (σ : St) (H1 : Hp) (Q : VK) : Prop := ∀ D, H1 D = none → ∃ W : Nat → Nat → Hp → Prop, (∃ m, W 0 m (upd H1 D (.dK []))) ∧ ∀ i m H, W i m H →
  (J.stop i H ∧ Q (.ref D) H) ∨ (J.go i H ∧ ∃ Nx : Hp → Prop, (∀ H', Nx H' → ∃ m', m' < m ∧ W (i + 1) m' H') ∧ ∀ x H', J.yld i H x H' → g x (wipe σ vs) H' fun σ2 H2 => wipe σ2 vs = wipe σ vs ∧ tt σ2 H2 fun b H3 =>
    if b = true then tk σ2 H3 fun y H4 => tv σ2 H4 fun z H5 => ∃ kvs k, y = kV k ∧ H5 D = some (.dK kvs) ∧ kvs.length < sizeLine ∧ Nx (upd H5 D (.dK (putK kvs k z))) else Nx H3)
theorem c_dc (h : wi σ H fun J H1 => DcJ J g tt tk tv vs σ H1 Q) : tDc wi g tt tk tv vs σ H Q := h
abbrev DcM (g : TG) (tt : TT) (tk tv : TE) (vs : List Nat) (σ : St) (R : V → V → Hp → Prop) (S : Hp → Prop) (x : V) (H' : Hp) : Prop :=
  g x (wipe σ vs) H' fun σ2 H2 => wipe σ2 vs = wipe σ vs ∧ tt σ2 H2 fun b H3 => if b = true then tk σ2 H3 fun y H4 => tv σ2 H4 fun z H5 => R y z H5 else S H3
/-- each turn puts a new text -/
theorem dcQ_map (I : Itn J n ok Y) (key : Nat → Str) (val : Nat → V) (hnd : ((List.range n).map key).Nodup) (hz : n ≤ 10000) (hok : ∀ H', Kp [] H H' → ok H')
    (hs : ∀ i x H' H'' R S, i < n → Kp [] H H' → Y i x H' H'' → (∀ H4, Kp [] H'' H4 → R (.str (key i)) (val i) H4) → DcM g tt tk tv vs σ R S x H'')
    (hd : ∀ D H', H D = none → Kp [] H H' → H' D = some (.dK ((List.range n).map fun i => (Sum.inr (key i), val i))) → Q (.ref D) H') : DcJ J g tt tk tv vs σ H Q := by
  intro D hD
  refine ⟨fun i m H' => m = n - i ∧ i ≤ n ∧ Kp [] H H' ∧ H' D = some (.dK ((List.range i).map fun i => (Sum.inr (key i), val i))), ⟨_, rfl, Nat.zero_le _, Kp.new hD, upd_same⟩, ?_⟩
  rintro i m H1 ⟨rfl, hi, e, h⟩
  have o := hok H1 e
  by_cases hlt : i < n
  · refine .inr ⟨I.go i H1 o hlt, fun H' => Kp [] H H' ∧ H' D = some (.dK ((List.range (i + 1)).map fun i => (Sum.inr (key i), val i))), fun H' p => ⟨_, by omega, rfl, hlt, p.1, p.2⟩, fun x H' y => ?_⟩
    have y' := I.yld i H1 x H' o hlt y
    have k := I.kp i x H1 H' y'
    refine hs i x H1 H' _ _ hlt e y' fun H4 e4 => ?_
    refine ⟨_, Sum.inr (key i), rfl, e4.at0 (k.at0 h), by rw [List.length_map, List.length_range, sizeLine_eq]; omega, ((e.trans k).trans e4).fresh_mut hD, ?_⟩
    rw [upd_same]
    congr 2
    unfold putK
    have hno : ((List.range i).map fun i => ((Sum.inr (key i) : Key), val i)).any (fun kv => decide (kv.1 = Sum.inr (key i))) = false := by
      rw [List.any_eq_false]
      intro kv hkv
      obtain ⟨j, hj, rfl⟩ := List.mem_map.mp hkv
      simp only [decide_eq_true_eq, Sum.inr.injEq]
      intro ej
      have hj : j < i := List.mem_range.mp hj
      have a1 : ((List.range n).map key)[j]? = some (key j) := by rw [List.getElem?_map, List.getElem?_range (by omega)]; rfl
      have a2 : ((List.range n).map key)[i]? = some (key i) := by rw [List.getElem?_map, List.getElem?_range (by omega)]; rfl
      have := (List.getElem?_inj (by rw [List.length_map, List.length_range]; omega) hnd).mp (a1.trans ((congrArg some ej).trans a2.symm))
      omega
    rw [hno, if_neg Bool.false_ne_true, List.range_succ, List.map_append]
    rfl
  · have ei : i = n := by omega
    subst ei
    exact .inl ⟨I.stop i H1 o (Nat.le_refl _), hd D H1 hD e h⟩
end
/-! ## walks of a sequence, whichever it is -/
section
variable {K : PySem.W.Frag} {σ : St} {H : Hp} {g : TG} {tt : TT} {te tk tv : TE} {tb : TS} {D : Ends} {Q : VK} {vs : List Nat} {a : Addr} {α : Type} {ys : List α} {u : α → V}
abbrev Yq (ys : List α) (u : α → V) : Nat → V → Hp → Hp → Prop := fun i x H H' => H' = H ∧ ∃ y, ys[i]? = some y ∧ x = u y
theorem seq_any {R : It → Hp → Prop} (h : Sq K H a (ys.map u)) (q : ∀ J ok, Itn J ys.length ok (Yq ys u) → (∀ H', Kp [] H H' → ok H') → R J H) :
    ∃ b, V.ref a = .ref b ∧ (((∃ xs, SqL K H b xs) ∧ R (Itl K b) H) ∨ ((∃ xs, SqT K H b xs) ∧ R (Itt K b) H)) := by
  rcases h with h | h
  · exact ⟨a, rfl, .inl ⟨⟨_, h⟩, q _ _ itn_l fun H' e => SqL.kp e h⟩⟩
  · exact ⟨a, rfl, .inr ⟨⟨_, h⟩, q _ _ itn_t fun H' e => SqT.kp e h⟩⟩
theorem c_seqC (h : Sq K H a (ys.map u)) (q : ∀ J ok, Itn J ys.length ok (Yq ys u) → (∀ H', Kp [] H H' → ok H') → LcJ J g tt te vs σ H Q) :
    ∃ b, V.ref a = .ref b ∧ (((∃ xs, SqL K H b xs) ∧ LcJ (Itl K b) g tt te vs σ H Q) ∨ ((∃ xs, SqT K H b xs) ∧ LcJ (Itt K b) g tt te vs σ H Q)) := seq_any (R := fun J H => LcJ J g tt te vs σ H Q) h q
theorem c_seqF (h : Sq K H a (ys.map u)) (q : ∀ J ok, Itn J ys.length ok (Yq ys u) → (∀ H', Kp [] H H' → ok H') → ForJ J g tb D σ H) :
    ∃ b, V.ref a = .ref b ∧ (((∃ xs, SqL K H b xs) ∧ ForJ (Itl K b) g tb D σ H) ∨ ((∃ xs, SqT K H b xs) ∧ ForJ (Itt K b) g tb D σ H)) := seq_any (R := fun J H => ForJ J g tb D σ H) h q
theorem c_seqD (h : Sq K H a (ys.map u)) (q : ∀ J ok, Itn J ys.length ok (Yq ys u) → (∀ H', Kp [] H H' → ok H') → DcJ J g tt tk tv vs σ H Q) :
    ∃ b, V.ref a = .ref b ∧ (((∃ xs, SqL K H b xs) ∧ DcJ (Itl K b) g tt tk tv vs σ H Q) ∨ ((∃ xs, SqT K H b xs) ∧ DcJ (Itt K b) g tt tk tv vs σ H Q)) := seq_any (R := fun J H => DcJ J g tt tk tv vs σ H Q) h q
end
theorem range_getD {α β : Type} (ys : List α) (d : α) (f : α → β) : (List.range ys.length).map (fun i => f (ys.getD i d)) = ys.map f := by
  apply List.ext_getElem?
  intro i
  rw [List.getElem?_map, List.getElem?_map]
  by_cases h : i < ys.length
  · rw [List.getElem?_range h, List.getElem?_eq_getElem h]
    simp [List.getD_eq_getElem?_getD, List.getElem?_eq_getElem h]
  · rw [List.getElem?_eq_none (by rw [List.length_range]; omega), List.getElem?_eq_none (by omega)]
    rfl
theorem getD_of {α : Type} {ys : List α} {i : Nat} {y d : α} (h : ys[i]? = some y) : ys.getD i d = y := by rw [List.getD_eq_getElem?_getD, h]; rfl
/-! ## rows of files -/
abbrev File := Str × List Str
/-- a row as it lies in the heap: its own place, its lines' place, what it says -/
abbrev RowA := Addr × Addr × File
structure RowOk (K : PySem.W.Frag) (H : Hp) (r : RowA) : Prop where
  row : SqT K H r.1 [.str r.2.2.1, .ref r.2.1]
  lines : SqT K H r.2.1 (r.2.2.2.map V.str)
theorem RowOk.kp {K : PySem.W.Frag} {H H' : Hp} {r : RowA} (h : RowOk K H r) (e : Kp [] H H') : RowOk K H' r := ⟨SqT.kp e h.row, SqT.kp e h.lines⟩
/-- rows of files at a: a list or a tuple -/
def RowsAt (K : PySem.W.Frag) (H : Hp) (a : Addr) (fs : List File) : Prop := ∃ rs : List RowA, Sq K H a (rs.map fun r => V.ref r.1) ∧ rs.map (fun r => r.2.2) = fs ∧ ∀ r ∈ rs, RowOk K H r
theorem Sq.kp {K : PySem.W.Frag} {H H' : Hp} {a : Addr} {xs : List V} (h : Sq K H a xs) (e : Kp [] H H') : Sq K H' a xs := h.imp (SqL.kp e) (SqT.kp e)
theorem RowsAt.kp {K : PySem.W.Frag} {H H' : Hp} {a : Addr} {fs : List File} (h : RowsAt K H a fs) (e : Kp [] H H') : RowsAt K H' a fs := by
  obtain ⟨rs, h1, h2, h3⟩ := h
  exact ⟨rs, Sq.kp h1 e, h2, fun r hr => (h3 r hr).kp e⟩
/-- a tree: its files in the order of their paths -/
def TreeAt (K : PySem.W.Frag) (H : Hp) (a : Addr) (fs : List File) : Prop := ∃ (dx d : Addr) (ls : List (Addr × File)), H a = some (.ins (He.ga K "Tree") dx [("_files", .ref d)]) ∧
  H d = some (.dK (ls.map fun l => (Sum.inr l.2.1, V.ref l.1))) ∧ (∀ l ∈ ls, SqT K H l.1 (l.2.2.map V.str)) ∧ Once (ls.map Prod.snd) ∧ fs = sortF (ls.map Prod.snd)
theorem TreeAt.kp {K : PySem.W.Frag} {H H' : Hp} {a : Addr} {fs : List File} (h : TreeAt K H a fs) (e : Kp [] H H') : TreeAt K H' a fs := by
  obtain ⟨dx, d, ls, h1, h2, h3, h4, h5⟩ := h
  exact ⟨dx, d, ls, e.at0 h1, e.at0 h2, fun l hl => SqT.kp e (h3 l hl), h4, h5⟩
/-! ## methods with defaults, all parameters given -/
def dOfMd (C m q : Str) (st : Stmt) (ds : List He.Dv) : He.DefD := ⟨(C, some m), m, q, defArgs st, defBody st, defScope st, ds, []⟩
def BindD (m q : Str) (st : Stmt) (ps : List Str) (nd : Nat) : Prop := ∀ (T : Addr) (kV doc pm : Value) (an : Option Addr) (cdv ct : Value) (us its : List Value), us.length = ps.length → its.length = nd →
  ∃ k, bindArgs (PySem.W.fnOf m q (defArgs st) (defBody st) (defScope st) (.ref T) kV doc pm an cdv ct) ⟨us, []⟩ = seqItems? (.ref T) >>= k ∧ k (some its.toArray) = pure (ps.zip us)
section
variable {P : Program} {w : World} {K : PySem.W.Frag} {mg : Str → Option Value} {base : Heap}
theorem meth_ofXD {fa : List He.Fa} {fn : List He.DefD} {fx : List Fx} (T : Tx fa fn fx K mg) (i j : Nat) {C m q : Str} {st : Stmt} {N ps : List Str} {k : Nat} {sp : Sp} {ds : List He.Dv} (S : FnScope N ps (defScope st)) (B : BindD m q st ps ds.length) (hne : ds ≠ [])
    (len : ∀ vs H Q E, sp vs H Q E → vs.length = ps.length) (body : BodyMX P w K mg base C m q st N k sp) (hd : fn[i]? = some (dOfMd C m q st ds) := by rfl) (hg : fa[j]? = some (.meth C m) := by rfl) : MethAt P w K mg base (L2.CX P w) C m (k + 1) ps sp := by
  have me := He.meth_ok (T.fact j hg)
  obtain ⟨hp, X, G, c, _⟩ := T
  obtain ⟨fd, F⟩ := c.def_ i hd
  have hl : (ds.map (He.Dv.v K)).length = ds.length := List.length_map ..
  obtain ⟨vs, r, b⟩ := F.binds1 (ps := ps) ps.length ds.length (by intro z; exact hne (List.map_eq_nil_iff.mp z)) (by show ps.length + ((ds.map (He.Dv.v K)).length - ds.length) = ps.length; rw [hl]; omega) (fun T kV doc pm an cdv ct us its h1 h2 => by
    have h2 : its.length = ds.length := h2.trans hl
    obtain ⟨k, e1, e2⟩ := B T kV doc pm an cdv ct us its h1 h2
    exact ⟨k, e1, by rw [List.drop_of_length_le (by omega), List.append_nil]; exact e2⟩)
  have ev : vs = [] := by
    have : (ds.map (He.Dv.v K)).drop ds.length = [] := List.drop_of_length_le (by omega)
    have r' : Vals ((ds.map (He.Dv.v K)).drop ds.length) vs := r
    rw [this] at r'
    cases r'
    rfl
  subst ev
  exact ⟨me, fd, F.ok S len fun cdv A outer s H vs Q E hr h => body cdv A outer s H vs Q E h hr (takes_of rfl rfl rfl rfl), b⟩
end
end Sa

/-! enumerate(tuple); slices and sums of tuples; membership. -/
namespace Sa
open PySem PySem.Spec PyProof.Rows L2
open Sem (wp)
theorem meets_enum_new1 {v : Value} {o : Obj} {H : Heap → Prop} (B : Begins v o H) :
    Meets (Builtin.«enumerate.__new__» ⟨[.type "enumerate", v], []⟩) (fun _ R s => H s.heap ∧
      R (.ok (.ret (.ref (s.heap.push o).objs.size))) { s with heap := (s.heap.push o).push { cls := .type "enumerate", data := .fields #[.none, .bool false, .ref s.heap.objs.size, rawInt 0, .none, .none] } }) :=
  .of_wp fun prog w A R s h => by
    obtain ⟨hp, g, d, tk, os⟩ := s; obtain ⟨h1, h⟩ := h
    have hsub := sub_enumerate
    have q1 : ∀ {A' : Around} {E : Value → Shared → Prop} {Q : Value → Shared → Prop}, Q (.ref hp.objs.size) ⟨hp.push o, g, d, tk, os⟩ → wpAny (model prog w) A' (pyIter v) Q E ⟨hp, g, d, tk, os⟩ :=
      fun q => B.iter prog w _ _ ⟨hp, g, d, tk, os⟩ _ h1 q
    wp_walk using q1
    refine wpAny_stack_any fun st => wpAny_pure ?_
    split
    · rename_i c _ _ _ _ _
      cases (c == Value.type "enumerate")
      · wp_walk using q1
        exact ⟨_, rfl, h⟩
      · wp_walk using q1
        exact ⟨_, rfl, h⟩
    · wp_walk using q1
      exact ⟨_, rfl, h⟩
theorem call_enum1 {prog : Program} {w : World} {A : Around} {E : Value → Shared → Prop} {s : Shared} {v : Value} {o : Obj} {H : Heap → Prop} {Q : Value → Shared → Prop} (B : Begins v o H) (h1 : H s.heap)
    (h : ∀ h', IsEnum h' (s.heap.objs.size + 1) s.heap.objs.size 0 .none → h'.get? s.heap.objs.size = some o → h'.objs.size = s.heap.objs.size + 2 →
      (∀ b o, s.heap.get? b = some o → h'.get? b = some o) → Q (.ref (s.heap.objs.size + 1)) { s with heap := h' }) :
    wpAny (model prog w) A (call (.type "enumerate") [v]) Q E s := by
  refine callType_new F.called_enumerate (by decide) (F.typeCall_enumerate_1 _) (F.newCall_enumerate_1 _) (fun obj => F.args_object_init_2 obj _) F.entry_enumerate_new
    (meets_enum_new1 B) ⟨h1, ?_⟩
  have hz : (s.heap.push o).objs.size = s.heap.objs.size + 1 := Heap.size_push ..
  show _ ∧ _
  rw [hz]
  have he : IsEnum ((s.heap.push o).push { cls := .type "enumerate", data := .fields #[.none, .bool false, .ref s.heap.objs.size, rawInt 0, .none, .none] }) (s.heap.objs.size + 1) s.heap.objs.size 0 .none := by
    have := Heap.get?_push_size (s.heap.push o) (o := { cls := .type "enumerate", data := .fields #[.none, .bool false, .ref s.heap.objs.size, rawInt 0, .none, .none] }) rfl
    rw [hz] at this; exact this
  refine ⟨⟨_, he, rfl⟩, h _ he (Heap.get?_push_of_some _ (Heap.get?_push_size _ B.free)) (by rw [Heap.size_push, hz]) fun b o x => Heap.get?_push_of_some _ (Heap.get?_push_of_some _ x)⟩
theorem pyNext_enum_endT {prog : Program} {w : World} {A : Around} {E : Value → Shared → Prop} {s : Shared} {e it t : Addr} {j : Int} {i : Nat} {items : Array Value} {old : Value} {Q : Option Value → Shared → Prop} (hh : A.handled = none)
    (he : IsEnum s.heap e it j old) (hit : s.heap.IsTupleIter it t i) (ht : s.heap.IsTuple t items) (hx : items[i]? = none)
    (hQ : ∀ h', Heap.ExtBut it s.heap h' → Q none { s with heap := h' }) : wpAny (model prog w) A (pyNext (.ref e)) Q E s := by
  have hT : s.TypeIs (.ref e) "enumerate" := ⟨_, he, rfl⟩
  unfold pyNext
  refine wpAny_bind (wpAny_attempt (wpAny_callSpecial?_slot (name := Str.ofString "__next__") hT F.slot_enumerate_next
    (wpAny_call_entry F.slot_enumerate_next hT F.entry_enumerate_next ?_ (F.args_enumerate_next_1 _))))
  show wpAny _ _ (field (.ref e) 2 >>= _) _ _ _
  refine wpAny_bind (wpAny_field he rfl (x := .ref it) rfl ?_)
  refine wpAny_bind (wpAny_nextOf_tuple_end (A := A.in1) hh hit ht hx fun h' x he' hx' => ?_)
  obtain ⟨o, ho, hc⟩ := hx'
  refine wpAny_bind (wpAny_isInstance (T := "StopIteration") (b := true) ⟨o, ho, hc⟩ isSubtype_stop ?_)
  exact wpAny_pure (hQ _ he')
/-- the tuple at a, each item in a new pair -/
def Iet (K : PySem.W.Frag) (a : Addr) : It :=
  ⟨fun i H => ∃ (xs : List V) (x : V), SqT K H a xs ∧ xs[i]? = some x, fun i H v H' => ∃ T x, v = .ref T ∧ H T = none ∧ H' = upd H T (.tup [.int (i : Nat), x]) ∧ ∀ xs, SqT K H a xs → xs[i]? = some x, fun i H => ∃ xs : List V, SqT K H a xs ∧ xs.length ≤ i⟩
theorem turn_enumT {P : Program} {w : World} {K : PySem.W.Frag} {elts : List Expr} {kk : Nat} {tpos : Pos} (a e it : Addr) :
    Turn P w K (.Tuple elts kk tpos) (Iet K a) [e, it] e (fun i h => (∃ old, IsEnum h e it ((i : Nat) : Int) old) ∧ h.IsTupleIter it a i ∧ e ≠ it ∧ e ≠ a ∧ a ≠ it) where
  mem := by simp
  obj := fun i h st b hb => by
    obtain ⟨⟨old, he⟩, ⟨o, ho, hc, hd⟩, _⟩ := st
    have e' : b = e ∨ b = it := by simpa using hb
    rcases e' with z | z
    · rw [z]; exact ⟨_, he, fun v q => nomatch q⟩
    · rw [z]; exact ⟨o, ho, fun v q => by rw [hd] at q; cases q⟩
  keep := fun i h h' st k => let ⟨⟨old, he⟩, hi, hne⟩ := st; ⟨⟨old, k e (by simp) _ he⟩, hi.at fun o q => k it (by simp) o q, hne⟩
  item := by
    intro X hP hw hK hc i pins s σ H E I hf st hg
    subst hP hw hK
    obtain ⟨⟨old, he⟩, hit, hne, hea, hai⟩ := st
    obtain ⟨xs, x, hq, hx⟩ := hg
    obtain ⟨its, rv, p, hz⟩ := I.tuple hq
    have p' : s.heap.IsTuple a its.toArray := p
    obtain ⟨u, hu, ru⟩ := rv.get hx
    have hel : e < s.heap.objs.size := Heap.lt_size he
    have hil : it < s.heap.objs.size := by obtain ⟨_, q, _⟩ := hit; exact Heap.lt_size q
    have hi : i < its.toArray.size := by rw [List.size_toArray]; exact (List.getElem?_eq_some_iff.mp hu).1
    refine wpAny_pyNext_enum_itemD (fp := [it, a]) (Draws.tuple (A := X.A.in1) (I.ok.hd hc) it a hai its.toArray) he ⟨hit, p'⟩ hi hne (by simp [hne, hea]) fun x2 h' tk hx2 ho hit' hT hsz hk => ?_
    have ex : x2 = u := by
      have : its.toArray[i]? = some x2 := hx2
      rw [List.getElem?_toArray, hu] at this
      exact (Option.some.inj this).symm
    subst ex
    refine ⟨_, rfl, wpAny_letOwnedTupleGo_enum (s := { s with heap := h', toks := tk + 1 }) ho fun h'' he' sb => ?_⟩
    have hT2 : h''.get? s.heap.objs.size = some { cls := .type "tuple", data := .seq #[.int i tk, x2] } := (sb.2 _ (Nat.ne_of_gt hel)).trans hT
    have new : ObjOk X.prog X.w (upd H s.heap.objs.size (.tup [.int (i : Nat), x])) h'' s.heap.objs.size (.tup [.int (i : Nat), x]) :=
      ⟨by show 2 ≤ sizeLine; decide, [.int i tk, x2], .cons ⟨_, rfl⟩ (.cons ru .nil), ⟨_, hT2, rfl, _, rfl⟩⟩
    have I1 : Inv X pins σ (upd H s.heap.objs.size (.tup [.int (i : Nat), x])) { s with heap := h'', toks := tk + 1 } :=
      I.turnedNew (ch := [e, it]) (fun b ob hb q => (sb.2 b (fun z => hb (by simp [z]))).trans (hk b ob (fun z => hb (by simp [z])) (fun z => hb (by simp [z])) q)) hf (Nat.le_refl _) new
    refine ⟨.ref s.heap.objs.size, _, I1, rfl, ⟨_, x, rfl, I.hok.fresh (Nat.le_refl _), rfl, fun ys hy => by rw [I.tuple_inj hy hq]; exact hx⟩, ⟨⟨x2, ?_⟩, hit'.1.at fun o q => (sb.2 it (Ne.symm hne)).trans q, hne, hea, hai⟩, fun b hb => ?_⟩
    · have e1 : ((i + 1 : Nat) : Int) = (i : Int) + 1 := by omega
      rw [e1]; exact he'
    · have hb' : b < s.heap.objs.size := by
        have e' : b = e ∨ b = it := by simpa using hb
        rcases e' with z | z
        · rw [z]; exact hel
        · rw [z]; exact hil
      rw [upd_ne (Nat.ne_of_lt hb')]
      exact (hf b hb).1
  done := by
    intro X hP hw hK hc i pins s σ H E I hf st hg
    subst hP hw hK
    obtain ⟨⟨old, he⟩, hit, hne, hea, hai⟩ := st
    obtain ⟨xs, hq, hx⟩ := hg
    obtain ⟨its, rv, p, hz⟩ := I.tuple hq
    have p' : s.heap.IsTuple a its.toArray := p
    obtain ⟨f0, f1, f2, f3, f4, f5⟩ := hf it (by simp)
    have hl := rv.length
    exact pyNext_enum_endT (A := X.A) (I.ok.hd hc) he hit p' (by rw [List.getElem?_toArray]; exact List.getElem?_eq_none (by omega)) fun h' eb => ⟨rfl, I.turned (t' := s.toks) (fun b o hb e => eb b o hb e) f0 f1 f3 f4 f5⟩
  self := fun A i s Q E st h => let ⟨⟨_, he⟩, _⟩ := st; wpAny_pyIter_enum he h
def iEnumT (K : PySem.W.Frag) (ta : TA) : TI := fun σ H R => ta σ H fun vs H1 => ∃ a xs, vs = [.ref a] ∧ SqT K H1 a xs ∧ R (Iet K a) H1
theorem pi_enumT {X : Cx} {K : PySem.W.Frag} {e : Expr} {ta : TA} {p pos tpos : Pos} {elts : List Expr} {kk : Nat} (hg : Gl X "enumerate") (hm : X.mg "enumerate" = none) (ha : PA X [e] ta) (hK : X.K = K := by rfl) (hs : starEach [e] X.env = [(false, eval e X.env)] := by rfl) :
    PI X (.Tuple elts kk tpos) (.Call (.Name "enumerate" p) [e] [] pos) (iEnumT K ta) := by
  subst hK
  refine ⟨fun pins s σ H R I h => ?_⟩
  refine Call_ (ld_blt I hg hm boot_enumerate (PyProof.Rows.callWith_type1 (thn (ha.run pos pins s σ H _ I h) fun us s1 ⟨vs, H1, I1, r1, q1⟩ => ?_) hs rfl))
  obtain ⟨a, xs, ex, hq, q⟩ := q1
  subst ex
  cases r1 with
  | cons r rr =>
    cases rr
    cases r
    obtain ⟨its, rv, p', hz⟩ := I1.tuple hq
    have p2 : s1.heap.IsTuple a its.toArray := p'
    have ha1 : a < s1.heap.objs.size := by obtain ⟨_, q, _⟩ := p2; exact Heap.lt_size q
    refine call_enum1 (begins_tuple a its.toArray) p2 fun h' he hit hsz hk => wpAny_pyIter_enum he ?_
    have I2 : Inv X pins σ H1 { s1 with heap := h' } := I1.kept (t' := s1.toks) hk
    refine ⟨s1.heap.objs.size + 1, [s1.heap.objs.size + 1, s1.heap.objs.size], _, _, H1, rfl, I2, turn_enumT a (s1.heap.objs.size + 1) s1.heap.objs.size, ⟨⟨.none, he⟩, ⟨_, hit, rfl, rfl⟩, Nat.succ_ne_self _, Nat.ne_of_gt (Nat.lt_succ_of_lt ha1), Nat.ne_of_lt ha1⟩, fun b hb => ?_, q⟩
    have e' : b = s1.heap.objs.size + 1 ∨ b = s1.heap.objs.size := by simpa using hb
    have hle : s1.heap.objs.size ≤ b := by
      rcases e' with z | z
      · rw [z]; exact Nat.le_add_right _ _
      · rw [z]; exact Nat.le_refl _
    exact I1.fpOk hle (I1.hok.fresh hle)
theorem itn_et {K : PySem.W.Frag} {a : Addr} {α : Type} {ys : List α} {u : α → V} : Itn (Iet K a) ys.length (fun H => SqT K H a (ys.map u)) (fun i x H H' => ∃ T y, x = .ref T ∧ New H T (.tup [.int (i : Nat), u y]) H' ∧ ys[i]? = some y) where
  go := fun i H ok hi => ⟨_, u (ys[i]), ok, by rw [List.getElem?_map, List.getElem?_eq_getElem hi]; rfl⟩
  stop := fun i H ok hi => ⟨_, ok, by rw [List.length_map]; exact hi⟩
  yld := fun i H x H' ok hi y => by
    obtain ⟨T, x', h1, h2, h3, h4⟩ := y
    have := h4 _ ok
    rw [List.getElem?_map] at this
    obtain ⟨y, e1, e2⟩ := Option.map_eq_some_iff.mp this
    subst e2
    exact ⟨T, y, h1, ⟨h2, h3⟩, e1⟩
  kp := fun i x H H' h => by
    obtain ⟨T, y, _, N, _⟩ := h
    exact N.kp
section
variable {K : PySem.W.Frag} {σ : L2.St} {H : Hp} {Q : VK} {R : It → Hp → Prop} {ta : TA} {a b : Addr} {xs ys : List V} {s z : Str}
theorem c_enumT (h : ta σ H fun vs H1 => ∃ a xs, vs = [.ref a] ∧ SqT K H1 a xs ∧ R (Iet K a) H1) : iEnumT K ta σ H R := h
/-! slices and sums of tuples: the tuple itself or a new one -/
theorem c_slT {lo hi : Option Int} (h : SqT K H a xs) (q : ∀ p H', Kp [] H H' → SqT K H' p (cutL xs lo hi) → Q (.ref p) H') : rSlU K (.ref a) lo hi H Q := by
  refine .inr (.inr ⟨a, xs, rfl, h, fun hw => ?_, fun _ p hp => ?_⟩)
  · refine q a H Kp.refl ?_
    have e : cutL xs lo hi = xs := by
      unfold cutL
      rw [hw.1, hw.2, List.drop_zero, Nat.sub_zero, List.take_length]
    rw [e]; exact h
  · exact q p _ (Kp.new hp) (SqT.of upd_same)
theorem c_addT (ha : SqT K H a xs) (hb : SqT K H b ys) (hl : xs.length + ys.length ≤ sizeLine) (q : ∀ p H', Kp [] H H' → SqT K H' p (xs ++ ys) → Q (.ref p) H') : rAddU K (.ref a) (.ref b) H Q := by
  refine .inr (.inr (.inr ⟨a, b, xs, ys, rfl, rfl, ha, hb, hl, fun h => ?_, fun _ h => ?_, fun _ _ p hp => q p _ (Kp.new hp) (SqT.of upd_same)⟩))
  · subst h; exact q b H Kp.refl hb
  · subst h; exact q a H Kp.refl (by rw [List.append_nil]; exact ha)
theorem inV_str (s : Str) : ∀ ys : List Str, inV (.str s) (ys.map V.str) = decide (s ∈ ys)
  | [] => by simp [inV]
  | y :: r => by
    have ih := inV_str s r
    unfold inV at ih ⊢
    rw [List.map_cons, List.any_cons, ih]
    by_cases h : s = y
    · subst h; simp [eqV]
    · have h2 : y ≠ s := fun e => h e.symm
      simp [eqV, h, h2]
theorem flat_strs (ys : List Str) : (ys.map V.str).all flatV = true := by rw [List.all_eq_true]; intro v hv; obtain ⟨y, _, rfl⟩ := List.mem_map.mp hv; rfl
theorem c_inSs {ys : List Str} (h : SqL K H a (ys.map V.str) ∨ SqT K H a (ys.map V.str)) (q : Q (.bl (decide (s ∈ ys))) H) : rInU K (.str s) (.ref a) H Q :=
  .inr (.inr ⟨a, _, rfl, h, rfl, flat_strs ys, by rw [inV_str]; exact q⟩)
theorem c_notInSs {ys : List Str} (h : SqL K H a (ys.map V.str) ∨ SqT K H a (ys.map V.str)) (q : Q (.bl (!decide (s ∈ ys))) H) : rNotInU K (.str s) (.ref a) H Q :=
  .inr (.inr ⟨a, _, rfl, h, rfl, flat_strs ys, by rw [inV_str]; exact q⟩)
/-- a text in a text -/
def occS (j i : Str) : Bool := !(Builtin.Str.occurrences j i 0 j.length 1).isEmpty
theorem c_inT (q : Q (.bl (occS z s)) H) : rInU K (.str s) (.str z) H Q := .inr (.inl ⟨s, z, rfl, rfl, q⟩)
end
end Sa

/-! Data in the heap: kept, opened; comprehensions and loops that make data. -/
namespace Sa
open PySem L2
/-! ## tuples stay what they are -/
/-- all tuples are kept -/
def Kt (H H' : Hp) : Prop := ∀ a xs, Rd H a (.tup xs) → Rd H' a (.tup xs)
section
variable {K : PySem.W.Frag} {H H' H1 H2 : Hp} {a b : Addr} {v : V} {xs : List V} {d e : PyData} {ds : List PyData} {o : HO}
theorem Kt.refl : Kt H H := fun _ _ h => h
theorem Kt.trans (e : Kt H H1) (f : Kt H1 H2) : Kt H H2 := fun a xs h => f a xs (e a xs h)
theorem Kp.kt (e : Kp [] H H') : Kt H H' := fun a xs h => rd_at (fun o ho => e.at0 ho) h
/-- what is no tuple -/
def NoT (H : Hp) (b : Addr) : Prop := ∀ xs, ¬ Rd H b (.tup xs)
theorem NoT.none (h : H b = none) : NoT H b := fun xs r => by rcases r with r | ⟨o, r⟩ <;> rw [h] at r <;> cases r
theorem NoT.lst {ys : List V} (h : H b = some (.lst ys)) : NoT H b := fun xs r => by rcases r with r | ⟨o, r⟩ <;> rw [h] at r <;> cases r
theorem NoT.dK {ys : List (Key × V)} (h : H b = some (.dK ys)) : NoT H b := fun xs r => by rcases r with r | ⟨o, r⟩ <;> rw [h] at r <;> cases r
theorem NoT.ins {C dx : Addr} {fs : List (Str × V)} (h : H b = some (.ins C dx fs)) : NoT H b := fun xs r => by rcases r with r | ⟨o, r⟩ <;> rw [h] at r <;> cases r
theorem NoT.of (h : H b = some o) (h1 : ∀ xs, o ≠ .tup xs) (h2 : ∀ u xs, o ≠ .frz u (.tup xs)) : NoT H b := fun xs r => by
  rcases r with r | ⟨u, r⟩ <;> rw [h] at r <;> injection r with r
  · exact h1 xs r
  · exact h2 u xs r
theorem Kt.upd1 (n : NoT H b) : Kt H (upd H b o) := fun a xs h => by
  by_cases hz : a = b
  · subst hz; exact absurd h (n xs)
  · exact rd_at (fun o ho => by rw [upd_ne hz]; exact ho) h
theorem Kp.kt1 (e : Kp [b] H H') (n : NoT H b) : Kt H H' := fun a xs h => by
  by_cases hz : a = b
  · subst hz; exact absurd h (n xs)
  · exact rd_at (fun o ho => e.at1 hz ho) h
theorem Bx.noT {d : Addr} (B : Bx H b d) : NoT H b := by
  obtain ⟨_, _, h, _⟩ := B.ex
  exact NoT.lst h
theorem Bx.kt {d : Addr} (B : Bx H b d) (e : Kp [b] H H') : Kt H H' := e.kt1 B.noT
theorem SqT.kt (e : Kt H H') (h : SqT K H a xs) : SqT K H' a xs := h.imp (e a xs) id
mutual
inductive Dt (K : PySem.W.Frag) (H : Hp) : V → PyData → Prop
  | non : Dt K H .non .none
  | bl (b : Bool) : Dt K H (.bl b) (.bool b)
  | int (i : Int) : Dt K H (.int i) (.int i)
  | str (x : Str) : Dt K H (.str x) (.str x)
  | tup {a : Addr} {xs : List V} {ds : List PyData} : SqT K H a xs → DtAll K H xs ds → Dt K H (.ref a) (.tuple ds)
inductive DtAll (K : PySem.W.Frag) (H : Hp) : List V → List PyData → Prop
  | nil : DtAll K H [] []
  | cons {v : V} {vs : List V} {d : PyData} {ds : List PyData} : Dt K H v d → DtAll K H vs ds → DtAll K H (v :: vs) (d :: ds)
end
mutual
theorem Dt.kt : ∀ {v : V} {d : PyData}, Kt H H' → Dt K H v d → Dt K H' v d
  | _, _, _, .non => .non
  | _, _, _, .bl b => .bl b
  | _, _, _, .int i => .int i
  | _, _, _, .str x => .str x
  | _, _, k, .tup h hs => .tup (SqT.kt k h) (DtAll.kt k hs)
theorem DtAll.kt : ∀ {vs : List V} {ds : List PyData}, Kt H H' → DtAll K H vs ds → DtAll K H' vs ds
  | _, _, _, .nil => .nil
  | _, _, k, .cons h hs => .cons (Dt.kt k h) (DtAll.kt k hs)
end
mutual
theorem Dt.dp : ∀ {v : V} {d : PyData}, Dt K H v d → Dp K H v d
  | _, _, .non => .non
  | _, _, .bl b => .bl b
  | _, _, .int i => .int i
  | _, _, .str x => .str x
  | _, _, .tup h hs => .tup h (DtAll.dp hs)
theorem DtAll.dp : ∀ {vs : List V} {ds : List PyData}, DtAll K H vs ds → DpAll K H vs ds
  | _, _, .nil => .nil
  | _, _, .cons h hs => .cons (Dt.dp h) (DtAll.dp hs)
end
mutual
/-- no lists in it -/
def tupD : PyData → Bool
  | .none | .bool _ | .int _ | .str _ => true
  | .tuple ds => tupDs ds
  | .list _ | .dict _ => false
def tupDs : List PyData → Bool
  | [] => true
  | d :: ds => tupD d && tupDs ds
end
mutual
theorem Dt.of : ∀ {v : V} {d : PyData}, Dp K H v d → tupD d = true → Dt K H v d
  | _, _, .non, _ => .non
  | _, _, .bl b, _ => .bl b
  | _, _, .int i, _ => .int i
  | _, _, .str x, _ => .str x
  | _, _, .lst h hs, z => by unfold tupD at z; cases z
  | _, _, .tup h hs, z => .tup h (DtAll.of hs (by unfold tupD at z; exact z))
theorem DtAll.of : ∀ {vs : List V} {ds : List PyData}, DpAll K H vs ds → tupDs ds = true → DtAll K H vs ds
  | _, _, .nil, _ => .nil
  | _, _, .cons h hs, z => by
    unfold tupDs at z
    rw [Bool.and_eq_true] at z
    exact .cons (Dt.of h z.1) (DtAll.of hs z.2)
end
theorem Dt.kp (h : Dt K H v d) (e : Kp [] H H') : Dt K H' v d := Dt.kt e.kt h
theorem DtAll.kp (h : DtAll K H xs ds) (e : Kp [] H H') : DtAll K H' xs ds := DtAll.kt e.kt h
theorem dt_tup (h : Dt K H v (.tuple ds)) : ∃ a xs, v = .ref a ∧ SqT K H a xs ∧ DtAll K H xs ds := by
  cases h with
  | tup h1 h2 => exact ⟨_, _, rfl, h1, h2⟩
theorem dt_str {s : Str} (h : Dt K H v (.str s)) : v = .str s := by cases h; rfl
theorem dt_int {i : Int} (h : Dt K H v (.int i)) : v = .int i := by cases h; rfl
theorem dt_none (h : Dt K H v .none) : v = .non := by cases h; rfl
theorem dta_nil (h : DtAll K H xs []) : xs = [] := by cases h; rfl
theorem dta_cons (h : DtAll K H xs (d :: ds)) : ∃ v vs, xs = v :: vs ∧ Dt K H v d ∧ DtAll K H vs ds := by
  cases h with
  | cons h1 h2 => exact ⟨_, _, rfl, h1, h2⟩
theorem dta_strs : ∀ {ys : List Str} {xs : List V}, DtAll K H xs (ys.map PyData.str) → xs = ys.map V.str
  | [], xs, h => dta_nil h
  | y :: r, xs, h => by
    obtain ⟨v, vs, rfl, h1, h2⟩ := dta_cons h
    rw [dt_str h1, dta_strs h2]
    rfl
theorem dta_of_strs : ∀ ys : List Str, DtAll K H (ys.map V.str) (ys.map PyData.str)
  | [] => .nil
  | y :: r => .cons (.str y) (dta_of_strs r)
theorem dta_len : ∀ {ds : List PyData} {xs : List V}, DtAll K H xs ds → xs.length = ds.length
  | [], xs, h => by rw [dta_nil h]; rfl
  | d :: r, xs, h => by
    obtain ⟨v, vs, rfl, h1, h2⟩ := dta_cons h
    rw [List.length_cons, List.length_cons, dta_len h2]
theorem dta_app {ys : List V} {es : List PyData} : ∀ {xs : List V} {ds : List PyData}, DtAll K H xs ds → DtAll K H ys es → DtAll K H (xs ++ ys) (ds ++ es)
  | [], ds, h, g => by cases h; exact g
  | x :: r, ds, h, g => by
    cases h with
    | cons h1 h2 => exact .cons h1 (dta_app h2 g)
theorem dta_snoc {xs : List V} {ds : List PyData} (h : DtAll K H xs ds) (g : Dt K H v d) : DtAll K H (xs ++ [v]) (ds ++ [d]) := dta_app h (.cons g .nil)
theorem dta_get : ∀ {xs : List V} {ds : List PyData} {i : Nat} {d : PyData}, DtAll K H xs ds → ds[i]? = some d → ∃ v, xs[i]? = some v ∧ Dt K H v d
  | [], ds, i, d, h, g => by cases h; simp at g
  | x :: r, ds, i, d, h, g => by
    cases h with
    | cons h1 h2 =>
      cases i with
      | zero => simp at g; subst g; exact ⟨x, rfl, h1⟩
      | succ i =>
        have q := dta_get (xs := r) (i := i) h2 g
        exact q
theorem dta_take {xs : List V} {ds : List PyData} (n : Nat) (h : DtAll K H xs ds) : DtAll K H (xs.take n) (ds.take n) := by
  induction n generalizing xs ds with
  | zero => exact .nil
  | succ n ih =>
    cases h with
    | nil => exact .nil
    | cons h1 h2 => exact .cons h1 (ih h2)
theorem dta_drop {xs : List V} {ds : List PyData} (n : Nat) (h : DtAll K H xs ds) : DtAll K H (xs.drop n) (ds.drop n) := by
  induction n generalizing xs ds with
  | zero => exact h
  | succ n ih =>
    cases h with
    | nil => exact .nil
    | cons h1 h2 => exact ih h2
theorem dta_cut {xs : List V} {ds : List PyData} (lo hi : Option Int) (h : DtAll K H xs ds) : DtAll K H (cutL xs lo hi) (cutL ds lo hi) := by
  unfold cutL
  rw [dta_len h]
  exact dta_take _ (dta_drop _ h)
/-- rows of texts as data -/
def strsD (ys : List Str) : PyData := .tuple (ys.map PyData.str)
theorem dt_strs {ys : List Str} (h : SqT K H a (ys.map V.str)) : Dt K H (.ref a) (strsD ys) := .tup h (dta_of_strs ys)
theorem strsD_of {ys : List Str} (h : Dt K H v (strsD ys)) : ∃ a, v = .ref a ∧ SqT K H a (ys.map V.str) := by
  obtain ⟨a, xs, rfl, h1, h2⟩ := dt_tup h
  rw [dta_strs h2] at h1
  exact ⟨a, rfl, h1⟩
theorem strsD_at {ys : List Str} (h : Dt K H (.ref a) (strsD ys)) : SqT K H a (ys.map V.str) := by
  obtain ⟨b, e, h1⟩ := strsD_of h
  injection e with e
  subst e
  exact h1
end
/-! ## texts sorted -/
def sortS (ys : List Str) : List Str := (sortF (ys.map fun y => (y, ()))).map Prod.fst
theorem map_fst (ys : List Str) : (ys.map fun y => (y, ())).map Prod.fst = ys := by rw [List.map_map]; exact List.map_id ys
theorem sortS_perm (ys : List Str) : (sortS ys).Perm ys := by
  have := (sortF_perm (ys.map fun y => (y, ()))).map Prod.fst
  rw [map_fst] at this
  exact this
theorem sortS_asc (ys : List Str) : (sortS ys).Pairwise leS := sortF_asc _
theorem sortS_of {ys zs : List Str} (h : ys.Perm zs) (hs : PyProof.Rows.sortedS ys = true) : ys = sortS zs := sorted_eq (h.trans (sortS_perm zs).symm) (sorted_pair hs) (sortS_asc zs)
theorem sortS_congr {ys zs : List Str} (h : ys.Perm zs) : sortS ys = sortS zs := sorted_eq ((sortS_perm ys).trans (h.trans (sortS_perm zs).symm)) (sortS_asc ys) (sortS_asc zs)
theorem sortS_id {ys : List Str} (h : ys.Pairwise leS) : sortS ys = ys := sorted_eq (sortS_perm ys) (sortS_asc ys) h
theorem sortS_len (ys : List Str) : (sortS ys).length = ys.length := (sortS_perm ys).length_eq
theorem c_sortedS {K : PySem.W.Frag} {H : Hp} {Q : VK} {a : Addr} {xs : List Str} (h : SqL K H a (xs.map V.str)) (hl : xs.length < 64) (q : ∀ p H', New H p (.lst ((sortS xs).map V.str)) H' → Q (.ref p) H') : rSortedS K [.ref a] H Q :=
  ⟨a, xs, rfl, h, hl, fun ys p hp hs hf => by rw [sortS_of hp hs]; exact q p _ ⟨hf, rfl⟩⟩
/-! ## comprehensions that make data -/
section
variable {K : PySem.W.Frag} {σ : St} {H : Hp} {g : TG} {tt : TT} {te : TE} {n : Nat} {Q : VK} {vs : List Nat} {J : It} {ok : Hp → Prop} {Y : Nat → V → Hp → Hp → Prop}
theorem range_filter_succ (p : Nat → Bool) (i : Nat) : (List.range (i + 1)).filter p = (List.range i).filter p ++ (if p i = true then [i] else []) := by
  rw [List.range_succ, List.filter_append]
  congr 1
  by_cases h : p i = true <;> simp [h]
theorem lcQ_dt (I : Itn J n ok Y) (f : Nat → PyData) (p : Nat → Bool) (hz : n ≤ 16777216) (hok : ∀ H', Kp [] H H' → ok H')
    (hs : ∀ i x H' H'' R S, i < n → Kp [] H H' → Y i x H' H'' → (p i = true → ∀ v H4, Kp [] H'' H4 → Dt K H4 v (f i) → R v H4) → (p i = false → ∀ H4, Kp [] H'' H4 → S H4) → LcM g tt te vs σ R S x H'')
    (hd : ∀ Dl ws H', H Dl = none → Kp [] H H' → H' Dl = some (.lst ws) → DtAll K H' ws (((List.range n).filter p).map f) → Q (.ref Dl) H') : LcJ J g tt te vs σ H Q := by
  refine lcQ I (fun Dl i acc H' => Kp [] H H' ∧ DtAll K H' acc (((List.range i).filter p).map f)) (fun Dl hD => ⟨Kp.new hD, .nil⟩) (fun Dl i acc H' hD e => hok H' e.1) ?_ ?_
  · rintro Dl i x acc H' H'' hD hi hacc hl ⟨e, hds⟩ y
    have k := I.kp i x H' H'' y
    refine hs i x H' H'' _ _ hi e y (fun hp v H4 e4 hv => ?_) (fun hp H4 e4 => ?_)
    · have ha4 := e4.at0 (k.at0 hacc)
      have kt : Kt H4 (upd H4 Dl (.lst (acc ++ [v]))) := Kt.upd1 (NoT.lst ha4)
      refine lc_push ha4 hl (by omega) ⟨((e.trans k).trans e4).fresh_mut hD, ?_⟩
      rw [range_filter_succ, if_pos hp, List.map_append]
      exact dta_snoc (DtAll.kt ((k.kt.trans e4.kt).trans kt) hds) (Dt.kt kt hv)
    · have ha4 := e4.at0 (k.at0 hacc)
      refine lc_skip ha4 hl ⟨(e.trans k).trans e4, ?_⟩
      rw [range_filter_succ, hp, if_neg Bool.false_ne_true, List.append_nil]
      exact DtAll.kt (k.kt.trans e4.kt) hds
  · rintro Dl acc H' hD hacc hl ⟨e, hds⟩
    exact hd Dl acc H' hD e hacc hds
theorem lcQ_fil (I : Itn J n ok Y) (f : Nat → V) (p : Nat → Bool) (hz : n ≤ 16777216) (hok : ∀ H', Kp [] H H' → ok H')
    (hs : ∀ i x H' H'' R S, i < n → Kp [] H H' → Y i x H' H'' → (p i = true → ∀ H4, Kp [] H'' H4 → R (f i) H4) → (p i = false → ∀ H4, Kp [] H'' H4 → S H4) → LcM g tt te vs σ R S x H'')
    (hd : ∀ Dl H', H Dl = none → Kp [] H H' → H' Dl = some (.lst (((List.range n).filter p).map f)) → Q (.ref Dl) H') : LcJ J g tt te vs σ H Q := by
  refine lcQ I (fun Dl i acc H' => Kp [] H H' ∧ acc = ((List.range i).filter p).map f) (fun Dl hD => ⟨Kp.new hD, rfl⟩) (fun Dl i acc H' hD e => hok H' e.1) ?_ ?_
  · rintro Dl i x acc H' H'' hD hi hacc hl ⟨e, rfl⟩ y
    have k := I.kp i x H' H'' y
    refine hs i x H' H'' _ _ hi e y (fun hp H4 e4 => ?_) (fun hp H4 e4 => ?_)
    · refine lc_push (e4.at0 (k.at0 hacc)) hl (by omega) ⟨((e.trans k).trans e4).fresh_mut hD, ?_⟩
      rw [range_filter_succ, if_pos hp, List.map_append]
      rfl
    · refine lc_skip (e4.at0 (k.at0 hacc)) hl ⟨(e.trans k).trans e4, ?_⟩
      rw [range_filter_succ, hp, if_neg Bool.false_ne_true, List.append_nil]
  · rintro Dl acc H' hD hacc hl ⟨e, rfl⟩
    exact hd Dl H' hD e hacc
end
/-! ## a text parted -/
section
variable {X : Cx} {H : Hp} {Q : VK} {s z : Str} {to te : TE} {o e : Expr}
def rPartU : V → List V → Hp → VK → Prop := fun x xs H Q => ∃ a b, x = .str a ∧ xs = [.str b] ∧ (b.length == 0) = false ∧ a.length ≤ sizeLine ∧
  ∀ p, H p = none → Q (.ref p) (upd H p (.tup [.str (Txt.partition a b).1, .str (Txt.partition a b).2.1, .str (Txt.partition a b).2.2]))
theorem pe_partitionU {apos pos : Pos} (ho : PE X o to) (he : PE X e te) (hs : starEach [e] X.env = [(false, eval e X.env)] := by rfl) (hbase : attributeBase o "partition" X.env (eval o X.env) = eval o X.env := by rfl) (hline : (apos.endLine == pos.line) = true := by rfl) :
    PE X (.Call (.Attribute o "partition" apos) [e] [] pos) (tM1 rPartU to te) := pe_partition ho he hs hbase hline
theorem c_parti (h0 : (z.length == 0) = false) (hl : s.length ≤ sizeLine) (q : ∀ p H', New H p (.tup [.str (Txt.partition s z).1, .str (Txt.partition s z).2.1, .str (Txt.partition s z).2.2]) H' → Q (.ref p) H') : rPartU (.str s) [.str z] H Q :=
  ⟨s, z, rfl, rfl, h0, hl, fun p hp => q p _ ⟨hp, rfl⟩⟩
theorem cutS_len (x : Str) (lo hi : Option Int) : (cutS x lo hi).length ≤ x.length := by
  rw [txt_of x, cutS_txt, txt_len, txt_len, List.length_take, List.length_drop]
  omega
end
end Sa

/-! Dicts: walks of keys, look-ups. -/
namespace Sa
open PySem L2
section
variable {K : PySem.W.Frag} {H H' H1 : Hp} {d a : Addr} {u : HO} {od : Obj} {kvs : List (Key × V)}
theorem lock_kp (h : H d = some u) (e : Kp [] (upd H d (.frz od u)) H') : Kp [] H (upd H' d u) := fun b o _ hb => by
  by_cases z : b = d
  · subst z; rw [upd_same, ← hb, h]
  · rw [upd_ne z]; exact e.at0 (by rw [upd_ne z]; exact hb)
theorem lock_kpm {b : Addr} (h : H d = some u) (n : d ≠ b) (e : Kp [b] (upd H d (.frz od u)) H') : Kp [b] H (upd H' d u) := fun c o hc hb => by
  by_cases z : c = d
  · subst z; rw [upd_same, ← hb, h]
  · rw [upd_ne z]; exact e c o hc (by rw [upd_ne z]; exact hb)
theorem lock_back : upd (upd H d (.frz od u)) d u = upd H d u := by rw [upd_upd]
theorem upd_self (h : H d = some u) : upd H d u = H := by
  funext b
  by_cases z : b = d
  · subst z; rw [upd_same, h]
  · rw [upd_ne z]
theorem itn_k {α : Type} {ys : List α} {f : α → Key} {g : α → V} : Itn (Itk d od (ys.map fun y => (f y, g y))) ys.length (fun H => H d = some (.frz od (.dK (ys.map fun y => (f y, g y))))) (Yq ys fun y => kV (f y)) where
  go := fun i H ok hi => ⟨ok, by rw [List.length_map]; exact hi⟩
  stop := fun i H ok hi => ⟨ok, by rw [List.length_map]; exact hi⟩
  yld := fun i H x H' ok hi y => by
    obtain ⟨e, k, v, h1, h2⟩ := y
    rw [List.getElem?_map] at h1
    obtain ⟨z, hz, e2⟩ := Option.map_eq_some_iff.mp h1
    injection e2 with e3 e4
    exact ⟨e, z, hz, by rw [h2, ← e3]⟩
  kp := fun i x H H' h => by rw [h.1]; exact Kp.refl
theorem Kt.lock {kvs : List (Key × V)} (h : H d = some (.dK kvs)) : Kt H (upd H d (.frz od (.dK kvs))) := Kt.upd1 (NoT.dK h)
theorem c_lockF {t : TS} {D : Ends} {σ : St} {kvs : List (Key × V)} (h : H d = some (.dK kvs)) (q : ∀ od, t ⟨fun σ' H' => H' d = some (.frz od (.dK kvs)) ∧ D.nx σ' (upd H' d (.dK kvs)), fun v H' => H' d = some (.frz od (.dK kvs)) ∧ D.rt v (upd H' d (.dK kvs)),
    fun σ' H' => H' d = some (.frz od (.dK kvs)) ∧ D.bk σ' (upd H' d (.dK kvs)), fun σ' H' => H' d = some (.frz od (.dK kvs)) ∧ D.ct σ' (upd H' d (.dK kvs))⟩ σ (upd H d (.frz od (.dK kvs)))) : tLock t D σ H := ⟨d, .dK kvs, h, trivial, q⟩
theorem c_lockE {t : TE} {Q : VK} {σ : St} {kvs : List (Key × V)} (h : H d = some (.dK kvs)) (q : ∀ od, t σ (upd H d (.frz od (.dK kvs))) fun v H' => H' d = some (.frz od (.dK kvs)) ∧ Q v (upd H' d (.dK kvs))) : tLockE t σ H Q := ⟨d, .dK kvs, h, trivial, q⟩
theorem c_iKeys {td : TE} {R : It → Hp → Prop} {σ : St} (h : td σ H fun x H1 => ∃ d o, x = .ref d ∧ ((∃ kvs, H1 d = some (.frz o (.dK kvs)) ∧ R (Itk d o kvs) H1) ∨ ∃ kvs, H1 d = some (.frz o (.dT kvs)) ∧ R (Itkt d o kvs) H1)) : iKeys td σ H R := h
theorem c_keysAt {g : TG} {tb : TS} {D : Ends} {σ : St} {od : Obj} {kvs : List (Key × V)} (h : H d = some (.frz od (.dK kvs))) (q : ForJ (Itk d od kvs) g tb D σ H) :
    ∃ d' o, V.ref d = .ref d' ∧ ((∃ kvs, H d' = some (.frz o (.dK kvs)) ∧ ForJ (Itk d' o kvs) g tb D σ H) ∨ ∃ kvs, H d' = some (.frz o (.dT kvs)) ∧ ForJ (Itkt d' o kvs) g tb D σ H) := ⟨d, od, rfl, .inl ⟨kvs, h, q⟩⟩
theorem c_keysAtC {g : TG} {tt : TT} {te : TE} {vs : List Nat} {Q : VK} {σ : St} {od : Obj} {kvs : List (Key × V)} (h : H d = some (.frz od (.dK kvs))) (q : LcJ (Itk d od kvs) g tt te vs σ H Q) :
    ∃ d' o, V.ref d = .ref d' ∧ ((∃ kvs, H d' = some (.frz o (.dK kvs)) ∧ LcJ (Itk d' o kvs) g tt te vs σ H Q) ∨ ∃ kvs, H d' = some (.frz o (.dT kvs)) ∧ LcJ (Itkt d' o kvs) g tt te vs σ H Q) := ⟨d, od, rfl, .inl ⟨kvs, h, q⟩⟩
/-! y in d -/
def DinK (neg : Bool) (x y : V) (H : Hp) (Q : VK) : Prop := ∃ a o, x = .ref a ∧ DGet H a y o ∧ Q (.bl (if neg then !o.isSome else o.isSome)) H
theorem c_din {ty td : TE} {σ : St} {Q : VK} (h : ty σ H fun y H1 => td σ H1 fun x H2 => DinK false x y H2 Q) : tDIn ty td σ H Q := h
theorem c_dnotin {ty td : TE} {σ : St} {Q : VK} (h : ty σ H fun y H1 => td σ H1 fun x H2 => DinK true x y H2 Q) : tDNotIn ty td σ H Q := h
def DGetK (x y : V) (H : Hp) (Q : VK) : Prop := ∃ a v, x = .ref a ∧ DGet H a y (some v) ∧ Q v H
theorem c_dgetK {H : Hp} {td ty : TE} {σ : St} {Q : VK} (h : td σ H fun x H1 => ty σ H1 fun y H2 => DGetK x y H2 Q) : tDGet td ty σ H Q := h
/-! d[y] = v -/
theorem c_dput {td ty tv : TE} {D : Ends} {σ : St} (h : tv σ H fun v H1 => td σ H1 fun x H2 => ty σ H2 fun y H3 => ∃ a H4, x = .ref a ∧ DPut H3 a y v H4 ∧ D.nx σ H4) : sDPut td ty tv D σ H := h
theorem c_dputAt {v : V} {k : Str} {kvs : List (Key × V)} {R : Hp → Prop} (h : H d = some (.dK kvs)) (hl : kvs.length < sizeLine) (q : R (upd H d (.dK (putK kvs (Sum.inr k) v)))) : ∃ a H4, V.ref d = .ref a ∧ DPut H a (.str k) v H4 ∧ R H4 := ⟨d, _, rfl, .inl ⟨kvs, Sum.inr k, h, rfl, hl, rfl⟩, q⟩
theorem c_dnew {Q : VK} {σ : St} (q : ∀ p H', New H p (.dK []) H' → Q (.ref p) H') : tDNewK σ H Q := fun p hp => q p _ ⟨hp, rfl⟩
theorem c_disp {trs : List (TE × TE)} {σ : St} {Q : VK} (h : ∀ p, H p = none → tPairs trs σ (upd H p (.dK [])) fun ps H2 => H2 p = some (.dK []) ∧ ∃ kvs : List (Key × V), ps = kvs.map (fun kv => (kV kv.1, kv.2)) ∧ kvs.length ≤ 15 ∧ Q (.ref p) (upd H2 p (.dK (mergeK [] kvs)))) : tDisp trs σ H Q := h
theorem c_pNil {σ : St} {Q : List (V × V) → Hp → Prop} (h : Q [] H) : tPairs [] σ H Q := h
theorem c_pCons {tk tv : TE} {r : List (TE × TE)} {σ : St} {Q : List (V × V) → Hp → Prop} (h : tk σ H fun x H1 => tv σ H1 fun y H2 => tPairs r σ H2 fun ps H3 => Q ((x, y) :: ps) H3) : tPairs ((tk, tv) :: r) σ H Q := h
/-! != of rows of texts -/
theorem c_neLS {K : PySem.W.Frag} {Q : VK} {a b : Addr} {ys zs : List Str} (ha : SqL K H a (ys.map V.str)) (hb : SqL K H b (zs.map V.str)) (h1 : ∀ y ∈ ys, okS y = true) (h2 : ∀ y ∈ zs, okS y = true) (q : Q (.bl (!decide (ys = zs))) H) : rNeU K (.ref a) (.ref b) H Q :=
  c_neD (dp_strs ha) (dp_strs hb) (shaped_strsL h1) (shaped_strsL h2) (by rw [PyData.eqv, eqvAll_strs]; exact q)
end
end Sa

/-! A new instance whose one argument is left to its default. -/
namespace Sa
open PySem L2
/-- how a method of two parameters binds where the second is left out -/
def BindD0 (m q : Str) (st : Stmt) (ps : List Str) : Prop := ∀ (T : Addr) (kV doc pm : Value) (an : Option Addr) (cdv ct : Value) (us its : List Value), us.length = 1 → its.length = 1 →
  ∃ k, bindArgs (PySem.W.fnOf m q (defArgs st) (defBody st) (defScope st) (.ref T) kV doc pm an cdv ct) ⟨us, []⟩ = seqItems? (.ref T) >>= k ∧ k (some its.toArray) = pure (ps.zip (us ++ its))
structure MethD (P : Program) (w : World) (K : PySem.W.Frag) (mg : Str → Option Value) (base : Heap) (CX : CXT) (C m : Str) (k : Nat) (ps : List Str) (sp : Sp) (dv : V) : Prop where
  me : Meth K (He.ga K C) m (He.ma K (He.ga K C) m)
  ok : ∃ fd u, FnOk P w K mg base CX k (He.ma K (He.ga K C) m) fd ps sp ∧ Binds K fd ps [u] ∧ RelV dv u
section
variable {P : Program} {w : World} {K : PySem.W.Frag} {mg : Str → Option Value} {base : Heap}
theorem Tx.cstA {fa : List He.Fa} {fn : List He.DefD} {fx : List Fx} (T : Tx fa fn fx K mg) (i : Nat) {p : PySem.W.Frag → Addr} {d : PyData} (h : fx[i]? = some (.cstA p d)) (H : Hp) : Dp K H (.ref (p K)) d := cst_ref (T.fx i h) H
theorem meth_ofXD0 {fa : List He.Fa} {fn : List He.DefD} {fx : List Fx} (T : Tx fa fn fx K mg) (i j : Nat) {C m q : Str} {st : Stmt} {N ps : List Str} {k : Nat} {sp : Sp} {d : He.Dv} (S : FnScope N ps (defScope st)) (B : BindD0 m q st ps) (h2 : ps.length = 2)
    (len : ∀ vs H Q E, sp vs H Q E → vs.length = ps.length) (body : BodyMX P w K mg base C m q st N k sp) (hd : fn[i]? = some (dOfMd C m q st [d]) := by rfl) (hg : fa[j]? = some (.meth C m) := by rfl) : MethD P w K mg base (L2.CX P w) C m (k + 1) ps sp (He.Dv.v K d) := by
  have me := He.meth_ok (T.fact j hg)
  obtain ⟨hp, X, G, c, _⟩ := T
  obtain ⟨fd, F⟩ := c.def_ i hd
  obtain ⟨vs, r, b⟩ := F.binds1 (ps := ps) 1 0 (List.cons_ne_nil _ _) (by show 1 + (1 - 0) = ps.length; rw [h2]) (fun T kV doc pm an cdv ct us its h1 h2 => by
    obtain ⟨k, e1, e2⟩ := B T kV doc pm an cdv ct us its h1 h2
    exact ⟨k, e1, e2⟩)
  have r' : Vals [He.Dv.v K d] vs := r
  cases r' with
  | cons r1 r2 =>
    cases r2
    exact ⟨me, fd, _, F.ok S len fun cdv A outer s H vs Q E hr h => body cdv A outer s H vs Q E h hr (takes_of rfl rfl rfl rfl), b, r1⟩
end
/-- C() where the default stands for its argument -/
def tNewD (K : PySem.W.Frag) (C : Str) (sp : Sp) (dv : V) (E : St → XK) : TE := fun σ H Q => NewK K C sp [dv] H Q (E σ)
theorem c_newD {K : PySem.W.Frag} {C : Str} {sp : Sp} {dv : V} {E : St → XK} {σ : St} {H : Hp} {Q : VK} (h : NewK K C sp [dv] H Q (E σ)) : tNewD K C sp dv E σ H Q := h
section
variable {X : Cx} {CX : CXT} {K : PySem.W.Frag} {C : Str} {k j : Nat} {ps : List Str} {sp : Sp} {dv : V} {E : St → XK} {p pos : Pos}
theorem pe_newD (M : MethD X.prog X.w X.K X.mg X.base CX C "__init__" j ps sp dv) (mk : Mk X.K (He.ga X.K C) (He.ma X.K (He.ga X.K C) "__init__")) (c : ClsAt X.K X.mg C) (hr : Room (k + 1) X.A) (hx : ∀ σ, PassesAt CX X σ (E σ))
    (hjk : j ≤ k := by decide) (hK : X.K = K := by rfl) (hg : Gl X C := by rfl)
    (hdb : (C == ("__debug__" : Str)) = false := by decide) :
    PE X (.Call (.Name C p) [] [] pos) (tNewD K C sp dv E) := by
  subst hK
  obtain ⟨fd, u0, F0, B, rd⟩ := M.ok
  have F := F0.mono hjk
  refine ⟨fun pins s σ H Q I q => ?_⟩
  refine wpAny_Call_Name_kw (ld_glob I hg c.gl ?_ hdb)
  refine PySem.W.callWith_K0 I.kIn mk.kp ?_
  have hq := q (s.heap.objs.size + 1) s.heap.objs.size (I.hok.fresh (Nat.le_succ _)) (I.hok.fresh (Nat.le_refl _)) (Nat.ne_of_lt (Nat.lt_succ_self _))
  have I2 := Inv.made (C := He.ga X.K C) I
  have r2 : Vals [V.ref (s.heap.objs.size + 1), dv] [Value.ref (s.heap.objs.size + 1), u0] := .cons rfl (.cons rd .nil)
  have hl : ([Value.ref (s.heap.objs.size + 1)] ++ [u0]).length = ps.length := by
    have := F.len _ _ _ _ hq
    rw [← this]
    rfl
  have b := B _ [Value.ref (s.heap.objs.size + 1)] I2.kIn hl
  refine wpAny_call (make_map (f := He.ma X.K (He.ga X.K C) "__init__") I.kIn mk.makes mk.init (beq_iff_eq.mp mk.fn) (codeAny_mono (F.run _ X.stack _ _ ⟨[Value.ref (s.heap.objs.size + 1)], []⟩ [Value.ref (s.heap.objs.size + 1), u0] _ _ (E σ)
    (hr.make (He.ga X.K C) [] []) (I2.env0.make (He.ga X.K C) [] []) b r2 hq) fun rr s' hq' => ?_))
  cases rr with
  | error er => exact hx σ pins _ _ er s' I2 hq'
  | ok fl =>
    cases fl with
    | ret u =>
      obtain ⟨v, H', I3, rv, ev, q3⟩ := I2.after hq'
      subst ev
      exact ⟨rv, ⟨V.ref (s.heap.objs.size + 1), H', I3, rfl, q3⟩⟩
    | next => exact False.elim hq'
    | brk => exact False.elim hq'
    | cont => exact False.elim hq'
end
end Sa

/-! Errors of classes without an __init__ of their own, made with one written text. -/
namespace Sa
open PySem L2
structure ExcO (K : PySem.W.Frag) (mg : Str → Option Value) (x : Str) : Prop where
  gl : mg x = some (.ref (He.ga K x))
  ex : PySem.W.excIn K (He.ga K x) He.veBase "ValueError.__new__" = true
  kp : PySem.W.keepIn K (.ref (He.ga K x)) = true
  sb : PySem.W.subIn K (.ref (He.ga K x)) (.type "BaseException") = some true
  ty : PySem.W.typeIn K (.ref (He.ga K x)) = some (.type "type")
theorem Tx.exo {fa : List He.Fa} {fn : List He.DefD} {fx : List Fx} {K : PySem.W.Frag} {mg : Str → Option Value} (T : Tx fa fn fx K mg) (i j : Nat) {x : Str} (h : fa[i]? = some (.glo x) := by rfl) (h2 : fa[j]? = some (.exc x) := by rfl) : ExcO K mg x := by
  obtain ⟨a, b, c, d⟩ := He.exc_ok (T.fact j h2)
  exact ⟨T.glo i h, a, b, c, d⟩
def tRaiseO (K : PySem.W.Frag) (x : Str) (W : WX) : TS := fun _ σ H => W (.ref (He.ga K x)) none σ H
theorem c_raiseO {K : PySem.W.Frag} {x : Str} {W : WX} {D : Ends} {σ : St} {H : Hp} (h : W (.ref (He.ga K x)) none σ H) : tRaiseO K x W D σ H := h
theorem ps_raiseO {X : Cx} {K : PySem.W.Frag} {x m : Str} {j : Nat} {W : WX} {p p2 pos pos2 : Pos} (F : ExcO X.K X.mg x) (tk : Takes X W) (hK : X.K = K := by rfl) (hg : Gl X x := by rfl) (hc : X.calm = true := by rfl) (hdb : (x == ("__debug__" : Str)) = false := by decide) :
    PS X (.Raise (some (.Call (.Name x p) [.Constant (.str m) j p2] [] pos)) none pos2) (tRaiseO K x W) := by
  subst hK
  exact ps_raise hc tk (pmk_own PySem.F.excBase_ValueError F.ex F.gl F.kp (raises_own F.sb F.ty) hg hdb)
/-! ## isinstance of a caught error -/
theorem exiB_ok {K : PySem.W.Frag} {D : Addr} (h : exiB K D = true) : ExcC K D := by
  unfold exiB at h
  simp only [Bool.and_eq_true, decide_eq_true_eq] at h
  obtain ⟨h1, h2, h3, h4, h5, h6, h7, h8⟩ := h
  exact ⟨h1, h2, h3, h4, h5, h6, h7, h8⟩
theorem Tx.exi {fa : List He.Fa} {fn : List He.DefD} {fx : List Fx} {K : PySem.W.Frag} {mg : Str → Option Value} (T : Tx fa fn fx K mg) (i : Nat) {x : Str} (h : fx[i]? = some (.exi x) := by rfl) : ExcC K (He.ga K x) := exiB_ok (T.fx i h)
theorem Tx.kit {fa : List He.Fa} {fn : List He.DefD} {fx : List Fx} {K : PySem.W.Frag} {mg : Str → Option Value} (T : Tx fa fn fx K mg) (i : Nat) {x y : Str} {b : Bool} (h : fx[i]? = some (.kit x y b) := by rfl) : PySem.W.kitOne K (.ref (He.ga K x)) (.ref (He.ga K y)) = some b := of_decide_eq_true (T.fx i h)
def rIsEU (K : PySem.W.Frag) (a : Addr) (cls : Value) (d : Option Addr) : List V → Hp → VK → Prop := fun xs H Q => ∃ D, cls = .ref D ∧ d = none ∧ ExcC K D ∧ rIsE K D a xs H Q
theorem cr_isE {X : Cx} {a : Addr} {oe : Obj} {cls : Value} {d : Option Addr} {pn : List (Addr × Obj)} {K : PySem.W.Frag} (hz : Zc cls d oe) (hf : ∃ vs, oe.data = .fields vs) (hK : X.K = K := by rfl) : CallR (X.suite a ((a, oe) :: pn)) (.builtin "isinstance") (rIsEU K a cls d) := by
  subst hK
  intro pins s σ H xs us Q I r h
  obtain ⟨D, rfl, rfl, C, h⟩ := h
  exact call_isE C hz hf pins s σ H xs us Q I r h
theorem c_isE {K : PySem.W.Frag} {a D C : Addr} {b : Bool} {H : Hp} {Q : VK} (hD : ExcC K D) (hk : PySem.W.kitOne K (.ref D) (.ref C) = some b) (q : Q (.bl b) H) : rIsEU K a (.ref D) none [.ref a, .ref C] H Q :=
  ⟨D, rfl, rfl, hD, .ref C, .ref C, b, rfl, fun u r => by cases r; rfl, hk, q⟩
end Sa

open PySem L2 Sa
/-! ## tactics -/
-- heap look-ups
local macro_rules | `(tactic| walk_at "ne") => `(tactic| first | assumption | (apply Ne.symm; assumption) | (refine ne_of2 ?_ ?_ <;> assumption) | (apply Ne.symm; refine ne_of2 ?_ ?_ <;> assumption))
local macro_rules | `(tactic| walk_at "lk") => `(tactic| first
  | assumption
  | exact upd_same
  | ((with_reducible refine upd_new ?_ ?_); (· assumption); walk_at "lk")
  | ((with_reducible refine upd_other ?_ ?_); (· walk_at "ne"); walk_at "lk")
  | (with_reducible exact New.at_ (by assumption))
  | ((with_reducible refine New.keep (by assumption) ?_); walk_at "lk")
  | ((with_reducible refine New.sqL (by assumption) ?_); walk_at "lk")
  | ((with_reducible refine New.sqT (by assumption) ?_); walk_at "lk")
  | ((with_reducible refine Kp.at0 (by assumption) ?_); walk_at "lk")
  | ((with_reducible apply SqL.of); walk_at "lk")
  | ((with_reducible apply SqT.of); walk_at "lk")
  | ((with_reducible refine SqL.new ?_ ?_); (· assumption); walk_at "lk")
  | ((with_reducible refine SqT.new ?_ ?_); (· assumption); walk_at "lk"))
-- arithmetic of lengths
local macro_rules | `(tactic| walk_at "sz") => `(tactic| first | assumption | decide | (exact Nat.zero_le _) | (simp only [sizeLine_eq, List.length_cons, List.length_nil, List.length_append, List.length_map, List.length_replicate] at *; omega))
-- one step of a reading
local macro_rules | `(tactic| walk_at "s1") => `(tactic| first
  | (with_reducible apply c_seq)
  | ((with_reducible apply c_var); (exact rfl))
  | (with_reducible apply c_c)
  | (with_reducible apply c_op)
  | (with_reducible apply c_addI) | (with_reducible apply c_subI) | (with_reducible apply c_bandI)
  | (with_reducible refine c_bl ?_) | (with_reducible refine c_int ?_)
  | (with_reducible apply c_asg) | (with_reducible apply c_gName) | (with_reducible apply c_ret) | (with_reducible apply c_retN) | (with_reducible apply c_ifs) | (with_reducible apply c_drop)
  | (with_reducible apply c_test) | (with_reducible apply c_tB) | (with_reducible apply c_not) | (with_reducible apply c_and) | (with_reducible apply c_or)
  | (with_reducible apply c_eqI) | (with_reducible apply c_neI) | (with_reducible apply c_ltI) | (with_reducible apply c_leI) | (with_reducible apply c_gtI) | (with_reducible apply c_geI)
  | (with_reducible apply c_nil) | (with_reducible apply c_cons) | (with_reducible apply c_call) | (with_reducible apply c_cb) | (with_reducible apply c_tup) | (with_reducible apply c_lst)
  | (with_reducible apply c_sl) | (with_reducible apply c_noPart) | (with_reducible apply c_part) | (with_reducible apply c_bm) | (with_reducible apply c_bm0) | (with_reducible apply c_m1) | (with_reducible apply c_isStr)
  | (with_reducible apply c_chain) | (with_reducible apply c_andV) | (with_reducible apply c_orV) | (with_reducible apply c_notV) | (with_reducible apply c_if)
  | (with_reducible apply c_intI) | (with_reducible apply c_ord) | (with_reducible apply c_max2) | (with_reducible apply c_min2)
  | ((with_reducible apply c_mulI); (first | (exact Or.inr ⟨by decide, by decide⟩) | (exact Or.inl ⟨by decide, by decide⟩)))
  | ((with_reducible apply c_divI); (exact ⟨by decide, by decide⟩))
  | ((with_reducible apply c_modI); (first | decide | assumption | omega))
  | (with_reducible apply c_eqS) | (with_reducible apply c_neS) | (with_reducible apply c_eqB) | (with_reducible apply c_neB) | (with_reducible apply c_isN) | (with_reducible apply c_notN)
  | (with_reducible apply c_inC) | (with_reducible apply c_notInC)
  | (with_reducible refine c_truB ?_)
  | (with_reducible apply c_gSub)
  | (with_reducible apply c_next)
  | (with_reducible apply c_for) | (with_reducible apply c_lc) | (with_reducible apply c_rng1) | (with_reducible apply c_rng2) | (with_reducible apply c_iList) | (with_reducible apply c_iTup) | (with_reducible apply c_iStr)
  | ((with_reducible refine c_r1F ?_ ?_); (· first | decide | omega)) | ((with_reducible refine c_r2F ?_ ?_); (· first | decide | omega))
  | ((with_reducible apply c_itLF); (· walk_at "lk")) | ((with_reducible apply c_itTF); (· walk_at "lk")) | (with_reducible apply c_itSF)
  | ((with_reducible refine c_r1C ?_ ?_); (· first | decide | omega)) | ((with_reducible refine c_r2C ?_ ?_); (· first | decide | omega))
  | ((with_reducible apply c_itLC); (· walk_at "lk")) | ((with_reducible apply c_itTC); (· walk_at "lk")) | (with_reducible apply c_itSC)
  | ((with_reducible apply c_append); (· walk_at "lk"); (· walk_at "sz"))
  | (with_reducible apply c_yes)
  | (with_reducible apply c_newD) | (with_reducible apply c_dgetK) | (with_reducible apply c_din) | (with_reducible apply c_dnotin) | (with_reducible apply c_dput) | (with_reducible apply c_iKeys) | (with_reducible apply c_pNil) | (with_reducible apply c_pCons) | (with_reducible apply c_enumT) | (with_reducible apply c_iSeq) | (with_reducible apply c_lenSet) | (with_reducible apply c_dc) | (with_reducible apply c_fld) | (with_reducible apply c_setF) | (with_reducible apply c_meth) | (with_reducible apply c_newA) | (with_reducible apply c_dget1) | (with_reducible apply c_dget)
  | (with_reducible apply c_raiseE) | (with_reducible apply c_rng3) | (with_reducible apply c_enum) | (with_reducible apply c_callX) | (with_reducible apply c_xf)
  | (with_reducible apply c_it1) | (with_reducible apply c_it2) | (with_reducible apply c_it3) | (with_reducible apply c_it4)
  | (with_reducible apply c_gCons) | (with_reducible apply c_gNil)
  | ((with_reducible apply c_unL); (· walk_at "lk"); (· exact rfl)) | ((with_reducible apply c_unT); (· walk_at "lk"); (· exact rfl))
  | ((with_reducible apply c_lenS); (· walk_at "sz"))
  | ((with_reducible apply c_lenL); (· walk_at "lk"))
  | ((with_reducible apply c_lenT); (· walk_at "lk"))
  | ((with_reducible apply c_ixL); (· walk_at "lk"); (· exact rfl))
  | ((with_reducible apply c_ixT); (· walk_at "lk"); (· exact rfl))
  | ((with_reducible apply c_setL); (· walk_at "lk"); (· exact rfl))
  | ((with_reducible apply c_tyA); (· walk_at "lk")))
local macro_rules | `(tactic| walk_at "nw") => `(tactic| ((with_reducible refine c_nw ?_ ?_); (· walk_at "sz")))
local macro_rules | `(tactic| walk_at "st") => `(tactic| repeat (walk_at "s1"))
-- steps and ways, as far as they go
local macro_rules | `(tactic| walk_at "go") => `(tactic| repeat' (first | walk_at "s1" | ((with_reducible refine c_iteT ?_ ?_); (· exact rfl)) | ((with_reducible refine c_iteF ?_ ?_); (· exact rfl)) | ((with_reducible refine c_ite ?_ ?_) <;> intro hcnd) | ((with_reducible refine c_iteN ?_ ?_) <;> intro hcnd) | ((with_reducible refine c_iteNB ?_ ?_) <;> intro hcnd) | ((with_reducible refine c_iteB ?_ ?_) <;> intro hcnd) | fail))
-- ways that are settled by what is written
local macro_rules | `(tactic| walk_at "dc") => `(tactic| repeat' (first | walk_at "s1" | ((with_reducible refine c_iteF ?_ ?_); (· decide +kernel)) | ((with_reducible refine c_iteT ?_ ?_); (· decide +kernel)) | ((with_reducible refine c_iteF ?_ ?_); (· exact rfl)) | ((with_reducible refine c_iteT ?_ ?_); (· exact rfl)) | fail))
local macro_rules | `(tactic| walk_at "len") => `(tactic| first | (intro vs H Q E h; obtain ⟨_, e, _⟩ := h; subst e; rfl) | (intro vs H Q E h; obtain ⟨_, _, e, _⟩ := h; subst e; rfl) | (intro vs H Q E h; obtain ⟨_, _, _, e, _⟩ := h; subst e; rfl) | (intro vs H Q E h; obtain ⟨_, _, _, _, e, _⟩ := h; subst e; rfl) | (intro vs H Q E h; obtain ⟨_, _, _, _, _, e, _⟩ := h; subst e; rfl) | (intro vs H Q E h; obtain ⟨_, _, _, _, _, _, e, _⟩ := h; subst e; rfl) | (intro vs H Q E h; obtain ⟨_, _, _, _, _, _, _, e, _⟩ := h; subst e; rfl) | (intro vs H Q E h; obtain ⟨_, _, _, _, _, _, _, _, e, _⟩ := h; subst e; rfl) | (intro vs H Q E h; obtain ⟨_, _, _, _, _, _, _, _, _, e, _⟩ := h; subst e; rfl) | (intro vs H Q E h; obtain ⟨_, _, _, _, _, _, _, _, _, _, e, _⟩ := h; subst e; rfl) | (intro vs H Q E h; obtain ⟨_, _, _, _, _, _, _, _, _, _, _, e, _⟩ := h; subst e; rfl) | (intro vs H Q E h; obtain ⟨_, _, _, _, _, _, _, _, _, _, _, _, e, _⟩ := h; subst e; rfl))

namespace K42
open PySem L2 Sa
def top (i : Nat) : Stmt := PySem.Challenge.pw_sameanswers_k42_cut_on_schedule.main.body.getD i (.Pass ⟨0, 0, 0, 0⟩)
abbrev s__is_block : Stmt := top 10
abbrev s__check_torn : Stmt := top 11
abbrev s__law_cell : Stmt := top 14
abbrev s__law_digits : Stmt := top 15
abbrev s__law_draw : Stmt := top 16
abbrev s__law_torn : Stmt := top 17
abbrev s__law_schedule : Stmt := top 18
abbrev s__law_do_raw : Stmt := top 19
abbrev s__law_do : Stmt := top 20
abbrev s_law : Stmt := top 21
abbrev s_OutOfRange___init__ : Stmt := subAt (top 3) 0
abbrev s_Disk___init__ : Stmt := subAt (top 12) 0
abbrev s_Disk__check_at : Stmt := subAt (top 12) 2
abbrev s_Disk_read : Stmt := subAt (top 12) 3
abbrev s_Disk__cut : Stmt := subAt (top 12) 4
abbrev s_Disk__spend : Stmt := subAt (top 12) 5
abbrev s_Disk_write : Stmt := subAt (top 12) 6
abbrev s_Disk_flush : Stmt := subAt (top 12) 7
abbrev s_Disk_pending_count : Stmt := subAt (top 12) 8
abbrev s_Disk_cut_count : Stmt := subAt (top 12) 9
abbrev s_Disk_cut_power : Stmt := subAt (top 12) 10
abbrev s_Disk_schedule_cut : Stmt := subAt (top 12) 11
def fa : List He.Fa := [.free "len", .int "BLOCK" 32, .glo "_is_block", .glo "OutOfRange", .glo "_check_torn", .glo "_law_cell", .free "range", .free "int", .glo "_law_digits", .glo "_law_draw", .glo "_law_torn", .glo "_law_schedule", .glo "_law_do_raw", .glo "PowerCut", .free "isinstance", .glo "TrunkError", .glo "_law_do", .free "list", .free "min", .glo "Disk", .glo "law", .meth "OutOfRange" "__init__", .int "BLOCKS_LEAST" 8, .int "BLOCKS_MOST" 400, .meth "Disk" "__init__", .meth "Disk" "_check_at", .meth "Disk" "read", .free "enumerate", .meth "Disk" "_cut", .exc "PowerCut", .meth "Disk" "_spend", .meth "Disk" "write", .meth "Disk" "flush", .meth "Disk" "pending_count", .meth "Disk" "cut_count", .meth "Disk" "cut_power", .int "COUNT_MOST" 100000, .meth "Disk" "schedule_cut", .noat "OutOfRange" "name", .cls "Disk", .mkr "Disk", .noat "Disk" "_blocks", .noat "Disk" "_pending", .noat "Disk" "_cuts", .noat "Disk" "_left", .noat "Disk" "_torn", .exm "OutOfRange" "OutOfRange" true, .exm "OutOfRange" "PowerCut" false, .exm "PowerCut" "PowerCut" true]
def fn : List He.DefD := [dOf "_is_block" s__is_block, dOf "_check_torn" s__check_torn, dOf "_law_cell" s__law_cell, dOf "_law_digits" s__law_digits, dOf "_law_draw" s__law_draw, dOf "_law_torn" s__law_torn, dOf "_law_schedule" s__law_schedule, dOf "_law_do_raw" s__law_do_raw, dOf "_law_do" s__law_do, dOf "law" s_law, dOfM "OutOfRange" "__init__" "OutOfRange.__init__" s_OutOfRange___init__, dOfM "Disk" "__init__" "Disk.__init__" s_Disk___init__, dOfM "Disk" "_check_at" "Disk._check_at" s_Disk__check_at, dOfM "Disk" "read" "Disk.read" s_Disk_read, dOfM "Disk" "_cut" "Disk._cut" s_Disk__cut, dOfM "Disk" "_spend" "Disk._spend" s_Disk__spend, dOfM "Disk" "write" "Disk.write" s_Disk_write, dOfM "Disk" "flush" "Disk.flush" s_Disk_flush, dOfM "Disk" "pending_count" "Disk.pending_count" s_Disk_pending_count, dOfM "Disk" "cut_count" "Disk.cut_count" s_Disk_cut_count, dOfM "Disk" "cut_power" "Disk.cut_power" s_Disk_cut_power, dOfM "Disk" "schedule_cut" "Disk.schedule_cut" s_Disk_schedule_cut]
def fx : List Fx := [.oex "OutOfRange", .xf "OutOfRange", .exi "PowerCut", .kit "PowerCut" "TrunkError" true, .kit "PowerCut" "OutOfRange" false]
abbrev TX (K : PySem.W.Frag) (mg : Str → Option Value) : Prop := Tx fa fn fx K mg
end K42

namespace K42
open PySem L2 Sa
section
variable {P : Program} {w : World} {K : PySem.W.Frag} {mg : Str → Option Value} {base : Heap}
theorem sc__law_draw : FnScope ["_law_box", "_law_many", "_law_at"] ["_law_box", "_law_many"] (defScope s__law_draw) := ⟨rfl, rfl, rfl, by decide +kernel, rfl, by decide +kernel, by decide +kernel⟩
theorem bn__law_draw : BindN "_law_draw" s__law_draw ["_law_box", "_law_many"] := fun _ _ _ _ _ _ us hl => match us, hl with | [_, _], _ => rfl
def spDraw : Sp := fun vs H Q _ => ∃ (b d : Addr) (many : Int), vs = [.ref b, .int many] ∧ Bx H b d ∧ 0 < many ∧ ∀ (i : Int) (H' : Hp), 0 ≤ i → i < many → Kp [b] H H' → Bx H' b d → Q (.int i) H'
theorem b__law_draw (T : TX K mg) : Body P w K mg base "_law_draw" s__law_draw ["_law_box", "_law_many", "_law_at"] 1 spDraw := by
  intro cdv A outer s H vs Q E h X hr
  obtain ⟨b, d, many, rfl, B, hm, k⟩ := h
  obtain ⟨at_, ds, h1, h2, h3⟩ := B.ex
  refine ⟨_, (pss_cons (ps_set (i := 2) sc__law_draw.nd rfl (Or.inl rfl) (pe_ix (ix_U (K := K)) (pv 0) pe_int (fun _ _ => rfl))) (pss_cons (ps_asg (pe_op (op_addU (K := K)) (pv 2) pe_int) (pg_sub (pv 0) pe_int set_list)) (pss_cons (ps_if (pt_cmpR op_ltU (pv 2) (pe_callB (cr_len (K := K)) rfl (T.free 0) PySem.boot_len (pa_cons (pe_ix (ix_U (K := K)) (pv 0) pe_int (fun _ _ => rfl)) pa_nil)) (nomark _)) (pss_one (ps_ret (pe_op op_modU (pe_callTy cr_int rfl (T.free 7) (by decide +kernel) (pa_cons (pe_ix (ix_U (K := K)) (pe_ix (ix_U (K := K)) (pv 0) pe_int (fun _ _ => rfl)) (pv 2) (fun _ _ => rfl)) pa_nil)) (pv 1)))) pss_nil) (pss_one (ps_ret (pe_op op_modU (pe_callTy cr_int rfl (T.free 7) (by decide +kernel) (pa_cons (pe_op (op_addU (K := K)) (pe_op (op_mulU (K := K)) (pv 2) pe_int) pe_int) pa_nil)) (pv 1))))))), ?_⟩
  have hne := B.ne
  walk_at "st"
  have fin : ∀ z : Int, Q (.int (z % many)) (upd H b (.lst [.ref d, .int (at_ + 1)])) := fun z => by
    refine k _ _ (Int.emod_nonneg _ (by omega)) (Int.emod_lt_of_pos _ hm) (Kp.mut (by simp)) ⟨at_ + 1, ds, upd_same, upd_other hne h2, by omega⟩
  refine c_ite (fun hlt => ?_) (fun hlt => ?_)
  · walk_at "st"
    rw [List.length_map] at hlt
    refine c_ixL (by walk_at "lk") (atI_ints h3 hlt) ?_
    walk_at "st"
    exact fin _
  · walk_at "st"
    exact fin _
theorem D__law_draw (T : TX K mg) : DefAt P w K mg base CX0 "_law_draw" 2 ["_law_box", "_law_many"] spDraw :=
  def_of T 4 9 sc__law_draw bn__law_draw (fun vs H Q E h => by obtain ⟨b, d, many, rfl, _⟩ := h; rfl) (b__law_draw T)

theorem sc__law_cell : FnScope ["_law_script", "_law_k"] ["_law_script", "_law_k"] (defScope s__law_cell) := ⟨rfl, rfl, rfl, by decide +kernel, rfl, by decide +kernel, by decide +kernel⟩
theorem bn__law_cell : BindN "_law_cell" s__law_cell ["_law_script", "_law_k"] := fun _ _ _ _ _ _ us hl => match us, hl with | [_, _], _ => rfl
def spCell (K : PySem.W.Frag) : Sp := fun vs H Q _ => ∃ (a : Addr) (ns : List Int) (k : Int), vs = [.ref a, .int k] ∧ SqL K H a (ns.map V.int) ∧ 0 ≤ k ∧ ∀ n : Int, Q (.int n) H
theorem b__law_cell (T : TX K mg) : Body P w K mg base "_law_cell" s__law_cell ["_law_script", "_law_k"] 1 (spCell K) := by
  intro cdv A outer s H vs Q E h X hr
  obtain ⟨a, ns, k, rfl, hs, h0, q⟩ := h
  refine ⟨_, (pss_cons (ps_if (pt_cmpR op_ltU (pv 1) (pe_callB (cr_len (K := K)) rfl (T.free 0) PySem.boot_len (pa_cons (pv 0) pa_nil)) (nomark _)) (pss_one (ps_ret (pe_ix (ix_U (K := K)) (pv 0) (pv 1) (fun _ _ => rfl)))) pss_nil) (pss_one (ps_ret pe_int))), ?_⟩
  walk_at "st"
  refine c_ite (fun hlt => ?_) (fun hlt => ?_)
  · walk_at "st"
    rw [List.length_map] at hlt
    refine c_ixL hs (atI_ints h0 hlt) ?_
    exact q _
  · walk_at "st"
    exact q _
theorem D__law_cell (T : TX K mg) : DefAt P w K mg base CX0 "_law_cell" 2 ["_law_script", "_law_k"] (spCell K) :=
  def_of T 2 5 sc__law_cell bn__law_cell (fun vs H Q E h => by obtain ⟨b, d, many, rfl, _⟩ := h; rfl) (b__law_cell T)
theorem sc__law_digits : FnScope ["_law_script", "_law_first", "_law_last", "_law_digits_here", "_law_k", "_law_cell_here", "_law_turn", "_law_seed"] ["_law_script", "_law_first", "_law_last"] (defScope s__law_digits) := ⟨rfl, rfl, rfl, by decide +kernel, rfl, by decide +kernel, by decide +kernel⟩
theorem bn__law_digits : BindN "_law_digits" s__law_digits ["_law_script", "_law_first", "_law_last"] := fun _ _ _ _ _ _ us hl => match us, hl with | [_, _, _], _ => rfl
def spDigits (K : PySem.W.Frag) : Sp := fun vs H Q _ => ∃ (a : Addr) (ns : List Int), vs = [.ref a, .int 0, .int 63] ∧ SqL K H a (ns.map V.int) ∧ ∀ (p : Addr) (ds : List Int), H p = none → Q (.ref p) (upd H p (.lst (ds.map V.int)))
theorem b__law_digits (T : TX K mg) : Body P w K mg base "_law_digits" s__law_digits ["_law_script", "_law_first", "_law_last", "_law_digits_here", "_law_k", "_law_cell_here", "_law_turn", "_law_seed"] 2 (spDigits K) := by
  intro cdv A outer s H vs Q E h X hr
  obtain ⟨a, ns, rfl, hs, q⟩ := h
  have D__law_cell : DefAt P w K mg base CX0 "_law_cell" 2 ["_law_script", "_law_k"] (spCell K) := D__law_cell T
  refine ⟨_, (pss_cons (ps_set (i := 3) sc__law_digits.nd rfl (Or.inl rfl) (pe_lst pa_nil)) (pss_cons (ps_for PassesOwn.never rfl (pi_range2 rfl (T.free 6) (pa_cons (pv 1) (pa_cons (pv 2) pa_nil))) (pg_name (i := 4) sc__law_digits.nd rfl (Or.inl rfl)) (pss_cons (ps_set (i := 5) sc__law_digits.nd rfl (Or.inl rfl) (pe_callA D__law_cell hr pass0 (pa_cons (pv 0) (pa_cons (pv 4) pa_nil)))) (Evl.pss_cut (ps_if (pt_cmpR op_ltU (pv 5) pe_int (nomark _)) (pss_one (ps_set (i := 5) sc__law_digits.nd rfl (Or.inl rfl) (pe_op op_subU pe_int (pe_op (op_mulU (K := K)) pe_int (pv 5))))) pss_nil) (pss_one (ps_if (pt_cmpR op_geU (pv 5) pe_int (nomark _)) (pss_one (ps_for PassesOwn.never rfl (pi_range1 rfl (T.free 6) (pa_cons pe_int pa_nil)) (pg_name (i := 6) sc__law_digits.nd rfl (Or.inl rfl)) (pss_one (ps_if (pt_cmpR op_gtU (pv 5) pe_int (nomark _)) (pss_cons (ps_expr (pe_appendU (K := K) (pv 3) (pe_op op_modU (pe_callTy cr_int rfl (T.free 7) (by decide +kernel) (pa_cons (pv 5) pa_nil)) pe_int))) (pss_one (ps_set (i := 5) sc__law_digits.nd rfl (Or.inl rfl) (pe_op op_divU (pv 5) pe_int)))) pss_nil)))) (pss_cons (ps_set (i := 7) sc__law_digits.nd rfl (Or.inl rfl) (pe_op op_modU (pe_callTy cr_int rfl (T.free 7) (by decide +kernel) (pa_cons (pe_op (op_addU (K := K)) (pe_op (op_addU (K := K)) (pe_op (op_mulU (K := K)) (pv 5) pe_int) (pe_op (op_mulU (K := K)) (pv 4) pe_int)) pe_int) pa_nil)) pe_int)) (pss_one (ps_for PassesOwn.never rfl (pi_range1 rfl (T.free 6) (pa_cons pe_int pa_nil)) (pg_name (i := 6) sc__law_digits.nd rfl (Or.inl rfl)) (pss_cons (ps_set (i := 7) sc__law_digits.nd rfl (Or.inl rfl) (pe_op op_modU (pe_callTy cr_int rfl (T.free 7) (by decide +kernel) (pa_cons (pe_op (op_addU (K := K)) (pe_op (op_addU (K := K)) (pe_op (op_mulU (K := K)) (pv 7) pe_int) (pe_op (op_mulU (K := K)) pe_int (pv 6))) pe_int) pa_nil)) pe_int)) (pss_one (ps_expr (pe_appendU (K := K) (pv 3) (pe_op op_modU (pe_callTy cr_int rfl (T.free 7) (by decide +kernel) (pa_cons (pe_op op_divU (pv 7) pe_int) pa_nil)) pe_int))))))))))))) (pss_one (ps_ret (pv 3))))), ?_⟩
  walk_at "st"
  walk_at "nw"
  rintro p _ ⟨hp, rfl⟩
  walk_at "st"
  refine forR (fun i σ H' => ∃ (ds : List Int) (v4 v5 v6 v7 : Option V), σ = [some (.ref a), some (.int 0), some (.int 63), some (.ref p), v4, v5, v6, v7] ∧ H' = upd H p (.lst (ds.map V.int)) ∧ ds.length ≤ 60 * i)
    ⟨[], _, _, _, _, rfl, rfl, Nat.le_refl _⟩ ?_ ?_
  · rintro i σ _ hi ⟨ds, v4, v5, v6, v7, rfl, rfl, hl⟩
    have hi : i < 63 := hi
    walk_at "st"
    refine ⟨a, ns, _, rfl, by walk_at "lk", by omega, fun n => ?_⟩
    walk_at "st"
    refine c_cut (fun σ' H' => ∃ m : Int, σ' = [some (.ref a), some (.int 0), some (.int 63), some (.ref p), some (.int (0 + (i : Int))), some (.int m), v6, v7] ∧ H' = upd H p (.lst (ds.map V.int))) ?_ ?_
    · walk_at "st"
      refine c_ite (fun hlt => ?_) (fun hlt => ?_)
      · walk_at "st"
        exact ⟨_, rfl, rfl⟩
      · walk_at "st"
        exact ⟨_, rfl, rfl⟩
    · rintro _ _ ⟨m, rfl, rfl⟩
      walk_at "st"
      refine c_ite (fun hlt => ?_) (fun hlt => ?_)
      · walk_at "st"
        refine forR (fun j σ H' => ∃ (ds' : List Int) (v6 : Option V) (m : Int), σ = [some (.ref a), some (.int 0), some (.int 63), some (.ref p), some (.int (0 + (i : Int))), some (.int m), v6, v7] ∧ H' = upd H p (.lst (ds'.map V.int)) ∧ ds'.length ≤ ds.length + j)
          ⟨ds, _, _, rfl, rfl, Nat.le_refl _⟩ ?_ ?_
        · rintro j σ _ hj ⟨ds', v6, m, rfl, rfl, hl'⟩
          have hj : j < 60 := hj
          walk_at "st"
          refine c_ite (fun hlt => ?_) (fun hlt => ?_)
          · walk_at "st"
            refine ⟨ds' ++ [m % 1000], _, _, rfl, by rw [upd_upd, map_snocI], by rw [List.length_append, List.length_singleton]; omega⟩
          · walk_at "st"
            exact ⟨ds', _, _, rfl, rfl, by omega⟩
        · rintro σ _ ⟨ds', v6, m, rfl, rfl, hl'⟩
          have hl' : ds'.length ≤ ds.length + 60 := hl'
          walk_at "st"
          exact ⟨ds', _, _, _, _, rfl, rfl, by omega⟩
      · walk_at "st"
        refine forR (fun j σ H' => ∃ (ds' : List Int) (v6 : Option V) (m z : Int), σ = [some (.ref a), some (.int 0), some (.int 63), some (.ref p), some (.int (0 + (i : Int))), some (.int m), v6, some (.int z)] ∧ H' = upd H p (.lst (ds'.map V.int)) ∧ ds'.length ≤ ds.length + j)
          ⟨ds, _, _, _, rfl, rfl, Nat.le_refl _⟩ ?_ ?_
        · rintro j σ _ hj ⟨ds', v6, m, z, rfl, rfl, hl'⟩
          have hj : j < 12 := hj
          walk_at "st"
          refine ⟨ds' ++ [_], _, _, _, rfl, by rw [upd_upd, map_snocI], by rw [List.length_append, List.length_singleton]; omega⟩
        · rintro σ _ ⟨ds', v6, m, z, rfl, rfl, hl'⟩
          have hl' : ds'.length ≤ ds.length + 12 := hl'
          walk_at "st"
          exact ⟨ds', _, _, _, _, rfl, rfl, by omega⟩
  · rintro σ _ ⟨ds, v4, v5, v6, v7, rfl, rfl, hl⟩
    walk_at "st"
    exact q p ds hp
theorem D__law_digits (T : TX K mg) : DefAt P w K mg base CX0 "_law_digits" 3 ["_law_script", "_law_first", "_law_last"] (spDigits K) :=
  def_of T 3 8 sc__law_digits bn__law_digits (fun vs H Q E h => by obtain ⟨b, d, rfl, _⟩ := h; rfl) (b__law_digits T)
end
end K42



namespace K42
open PySem L2 Sa
section
variable {P : Program} {w : World} {K : PySem.W.Frag} {mg : Str → Option Value} {base : Heap}
theorem sc_OutOfRange___init__ : FnScope ["self", "name"] ["self", "name"] (defScope s_OutOfRange___init__) := ⟨rfl, rfl, rfl, by decide +kernel, rfl, by decide +kernel, by decide +kernel⟩
theorem bn_OutOfRange___init__ : BindM "__init__" "OutOfRange.__init__" s_OutOfRange___init__ ["self", "name"] := fun _ _ _ _ _ _ us hl => match us, hl with | [_, _], _ => rfl
theorem b_oor (T : TX K mg) : BodyM P w K mg base "OutOfRange" "__init__" "OutOfRange.__init__" s_OutOfRange___init__ ["self", "name"] 1 (spInit K (He.ga K "OutOfRange") "name") := by
  intro cdv A outer s H vs Q E h X hr
  obtain ⟨a, v, rfl, ha, q⟩ := h
  refine ⟨_, (pss_one (ps_ost (pv 0) (pv 1))), ?_⟩
  have hc := T.oex 0
  walk_at "st"
  refine c_ost ?_
  walk_at "st"
  refine ⟨a, He.ga K "OutOfRange", rfl, hc, He.noat_ok (T.fact 38), .inl ⟨ha, fun dx h1 h2 => ?_⟩⟩
  exact q dx h1 h2
theorem E_OutOfRange (T : TX K mg) : ErrC P w K mg base "OutOfRange" "name" :=
  ⟨T.glo 3, T.oex 0, T.xfc 1, He.noat_ok (T.fact 38), _,
    meth_of T 10 21 sc_OutOfRange___init__ bn_OutOfRange___init__ (fun vs H Q E h => by obtain ⟨b, d, rfl, _⟩ := h; rfl) (b_oor T)⟩
end
end K42



namespace K42
open PySem L2 Sa
/-- the error of a bad part -/
def RaisesE (K : PySem.W.Frag) (H : Hp) (E : XK) (nm : Str) : Prop := ∀ d H', Kp [] H H' → H' d = some (.xd [("name", .str nm)]) → E (.ref (He.ga K "OutOfRange")) (some d) H'
theorem RaisesE.kp {K : PySem.W.Frag} {H H1 : Hp} {E : XK} {nm : Str} (h : RaisesE K H E nm) (e : Kp [] H H1) : RaisesE K H1 E nm := fun d H' e' hd => h d H' (e.trans e') hd
end K42



namespace K42
open PySem L2 Sa
/-! ## what may change and what stays -/
theorem ixN_rng {n : Nat} {i : Int} (h0 : 0 ≤ i) (h1 : i < n) : ixN n i = some i.toNat := by
  unfold ixN
  rw [if_pos h0, if_pos h1]
def Ki (H H' : Hp) : Prop := ∀ a i r, H a = some (.lst (V.int i :: r)) → H' a = some (.lst (V.int i :: r))
structure Mu (H : Hp) (a : Addr) : Prop where
  noI : ∀ i r, H a ≠ some (.lst (V.int i :: r))
  noT : NoT H a
structure Km (H H' : Hp) : Prop where
  ki : Ki H H'
  kt : Kt H H'
theorem Km.refl {H : Hp} : Km H H := ⟨fun _ _ _ h => h, Kt.refl⟩
theorem Km.trans {H H1 H2 : Hp} (e : Km H H1) (f : Km H1 H2) : Km H H2 := ⟨fun a i r h => f.ki a i r (e.ki a i r h), e.kt.trans f.kt⟩
theorem Km.of {ms : List Addr} {H H' : Hp} (e : Kp ms H H') (h : ∀ a ∈ ms, Mu H a) : Km H H' := by
  refine ⟨fun a i r ha => e a _ (fun hm => (h a hm).noI i r ha) ha, fun a xs hr => ?_⟩
  by_cases hm : a ∈ ms
  · exact absurd hr ((h a hm).noT xs)
  · exact rd_at (fun o ho => e a o hm ho) hr
theorem Km.kp {H H' : Hp} (e : Kp [] H H') : Km H H' := Km.of e (by simp)
theorem Mu.refs {H : Hp} {a : Addr} {ps : List Addr} (h : H a = some (.lst (ps.map V.ref))) : Mu H a := by
  refine ⟨fun i r e => ?_, NoT.lst h⟩
  rw [h] at e
  cases ps with
  | nil => cases e
  | cons p r2 => simp at e
theorem Mu.ins {H : Hp} {a C dx : Addr} {fs : List (Str × V)} (h : H a = some (.ins C dx fs)) : Mu H a := ⟨fun i r e => (by rw [h] at e; cases e), NoT.ins h⟩
theorem Mu.box {H : Hp} {b d : Addr} (B : Bx H b d) : Mu H b := by
  obtain ⟨at_, ds, h1, _⟩ := B.ex
  exact ⟨fun i r e => (by rw [h1] at e; cases e), B.noT⟩
theorem Mu.fresh {H : Hp} {a : Addr} (h : H a = none) : Mu H a := ⟨fun i r e => (by rw [h] at e; cases e), NoT.none h⟩
theorem Mu.kp {ms : List Addr} {H H' : Hp} {a : Addr} {o : HO} (h : Mu H a) (ha : H a = some o) (e : Kp ms H H') (n : a ∉ ms) : Mu H' a := by
  have h2 := e a o n ha
  refine ⟨fun i r q => ?_, fun xs r => ?_⟩
  · rw [h2] at q; rw [q] at ha; exact h.noI i r ha
  · refine h.noT xs ?_
    rcases r with r | ⟨u, r⟩
    · rw [h2] at r; rw [r] at ha; exact .inl ha
    · rw [h2] at r; rw [r] at ha; exact .inr ⟨u, ha⟩
abbrev Blk := List Int
def Ints (H : Hp) (p : Addr) (b : Blk) : Prop := H p = some (.lst (b.map V.int))
theorem Ints.km {H H' : Hp} {p : Addr} {b : Blk} (h : Ints H p b) (hl : b.length = 32) (e : Km H H') : Ints H' p b := by
  cases b with
  | nil => simp at hl
  | cons i r => exact e.ki p i (r.map V.int) h
structure BlksAt (H : Hp) (B : Addr) (bs : List Blk) : Prop where
  ex : ∃ ps : List Addr, H B = some (.lst (ps.map V.ref)) ∧ ps.length = bs.length ∧ ∀ (i : Nat) (b : Blk), bs[i]? = some b → ∃ p, ps[i]? = some p ∧ Ints H p b
  len : ∀ b ∈ bs, b.length = 32
theorem BlksAt.mu {H : Hp} {B : Addr} {bs : List Blk} (h : BlksAt H B bs) : Mu H B := by
  obtain ⟨ps, h1, _⟩ := h.ex
  exact Mu.refs h1
theorem BlksAt.km {H H' : Hp} {B : Addr} {bs : List Blk} (h : BlksAt H B bs) (e : Km H H') (hB : ∀ o, H B = some o → H' B = some o) : BlksAt H' B bs := by
  obtain ⟨ps, h1, h2, h3⟩ := h.ex
  exact ⟨⟨ps, hB _ h1, h2, fun i b hb => by obtain ⟨p, g1, g2⟩ := h3 i b hb; exact ⟨p, g1, g2.km (h.len b (List.mem_of_getElem? hb)) e⟩⟩, h.len⟩
theorem BlksAt.kp {ms : List Addr} {H H' : Hp} {B : Addr} {bs : List Blk} (h : BlksAt H B bs) (e : Kp ms H H') (hm : ∀ a ∈ ms, Mu H a) (n : B ∉ ms) : BlksAt H' B bs := h.km (Km.of e hm) fun o ho => e B o n ho
theorem BlksAt.kp0 {H H' : Hp} {B : Addr} {bs : List Blk} (h : BlksAt H B bs) (e : Kp [] H H') : BlksAt H' B bs := h.kp e (by simp) (by simp)
/-- a block is stored in a list of blocks -/
theorem BlksAt.put {H : Hp} {B p : Addr} {bs : List Blk} {ps : List Addr} {i : Nat} {b : Blk} (h : BlksAt H B bs) (hB : H B = some (.lst (ps.map V.ref))) (hp : Ints H p b) (hl : b.length = 32) : BlksAt (upd H B (.lst ((ps.map V.ref).set i (.ref p)))) B (bs.set i b) := by
  obtain ⟨ps', h1, h2, h3⟩ := h.ex
  have e : ps' = ps := by
    rw [hB] at h1
    injection h1 with h1
    injection h1 with h1
    exact (List.map_inj_right (f := V.ref) (fun a b e => by injection e)).mp h1.symm
  subst e
  have km : Km H (upd H B (.lst ((ps'.map V.ref).set i (.ref p)))) := Km.of (Kp.mut (ms := [B]) (by simp)) (fun a ha => by rw [List.mem_singleton.mp ha]; exact h.mu)
  refine ⟨⟨ps'.set i p, by rw [upd_same, List.map_set], by rw [List.length_set, List.length_set, h2], fun j c hc => ?_⟩, fun c hc => ?_⟩
  · rw [List.getElem?_set] at hc ⊢
    by_cases hij : i = j
    · subst hij
      rw [if_pos rfl] at hc ⊢
      by_cases hi : i < bs.length
      · rw [if_pos hi] at hc
        rw [if_pos (by omega)]
        obtain rfl := Option.some.inj hc
        exact ⟨p, rfl, hp.km hl km⟩
      · rw [if_neg hi] at hc; cases hc
    · rw [if_neg hij] at hc ⊢
      obtain ⟨q, g1, g2⟩ := h3 j c hc
      exact ⟨q, g1, g2.km (h.len c (List.mem_of_getElem? hc)) km⟩
  · rcases List.mem_or_eq_of_mem_set hc with hc | rfl
    · exact h.len c hc
    · exact hl
abbrev Pnd := Nat × Blk
structure PendAt (K : PySem.W.Frag) (H : Hp) (Pd : Addr) (pd : List Pnd) : Prop where
  ex : ∃ qs : List Addr, H Pd = some (.lst (qs.map V.ref)) ∧ qs.length = pd.length ∧ ∀ (i : Nat) (e : Pnd), pd[i]? = some e → ∃ q p, qs[i]? = some q ∧ SqT K H q [.int e.1, .ref p] ∧ Ints H p e.2
  len : ∀ e ∈ pd, e.2.length = 32
theorem PendAt.mu {K : PySem.W.Frag} {H : Hp} {B : Addr} {bs : List Pnd} (h : PendAt K H B bs) : Mu H B := by
  obtain ⟨ps, h1, _⟩ := h.ex
  exact Mu.refs h1
theorem PendAt.km {K : PySem.W.Frag} {H H' : Hp} {B : Addr} {bs : List Pnd} (h : PendAt K H B bs) (e : Km H H') (hB : ∀ o, H B = some o → H' B = some o) : PendAt K H' B bs := by
  obtain ⟨ps, h1, h2, h3⟩ := h.ex
  exact ⟨⟨ps, hB _ h1, h2, fun i b hb => by obtain ⟨q, p, g1, g2, g3⟩ := h3 i b hb; exact ⟨q, p, g1, SqT.kt e.kt g2, g3.km (h.len b (List.mem_of_getElem? hb)) e⟩⟩, h.len⟩
theorem PendAt.kp {K : PySem.W.Frag} {ms : List Addr} {H H' : Hp} {B : Addr} {bs : List Pnd} (h : PendAt K H B bs) (e : Kp ms H H') (hm : ∀ a ∈ ms, Mu H a) (n : B ∉ ms) : PendAt K H' B bs := h.km (Km.of e hm) fun o ho => e B o n ho
theorem PendAt.nil {K : PySem.W.Frag} {H : Hp} {Pd : Addr} (h : H Pd = some (.lst [])) : PendAt K H Pd [] := ⟨⟨[], h, rfl, by simp⟩, by simp⟩
theorem PendAt.put {K : PySem.W.Frag} {H : Hp} {Pd q p : Addr} {pd : List Pnd} {qs : List Addr} {e : Pnd} (h : PendAt K H Pd pd) (hB : H Pd = some (.lst (qs.map V.ref))) (hq : SqT K H q [.int e.1, .ref p]) (hp : Ints H p e.2) (hl : e.2.length = 32) : PendAt K (upd H Pd (.lst (qs.map V.ref ++ [.ref q]))) Pd (pd ++ [e]) := by
  obtain ⟨ps', h1, h2, h3⟩ := h.ex
  have ee : ps' = qs := by
    rw [hB] at h1
    injection h1 with h1
    injection h1 with h1
    exact (List.map_inj_right (f := V.ref) (fun a b e => by injection e)).mp h1.symm
  subst ee
  have km : Km H (upd H Pd (.lst (ps'.map V.ref ++ [.ref q]))) := Km.of (Kp.mut (ms := [Pd]) (by simp)) (fun a ha => by rw [List.mem_singleton.mp ha]; exact h.mu)
  refine ⟨⟨ps' ++ [q], by rw [upd_same, List.map_append]; rfl, by rw [List.length_append, List.length_append, h2]; rfl, fun j c hc => ?_⟩, fun c hc => ?_⟩
  · by_cases hj : j < pd.length
    · rw [List.getElem?_append_left hj] at hc
      rw [List.getElem?_append_left (by omega)]
      obtain ⟨q', p', g1, g2, g3⟩ := h3 j c hc
      exact ⟨q', p', g1, SqT.kt km.kt g2, g3.km (h.len c (List.mem_of_getElem? hc)) km⟩
    · rw [List.getElem?_append_right (by omega)] at hc
      rw [List.getElem?_append_right (by omega)]
      have hj0 : j - pd.length = 0 := by
        cases hz : j - pd.length with
        | zero => rfl
        | succ n => rw [hz] at hc; simp at hc
      rw [hj0] at hc
      have : j - ps'.length = 0 := by omega
      rw [this]
      simp only [List.getElem?_cons_zero, Option.some.injEq] at hc
      subst hc
      exact ⟨q, p, rfl, SqT.kt km.kt hq, hp.km hl km⟩
  · rcases List.mem_append.mp hc with hc | hc
    · exact h.len c hc
    · rw [List.mem_singleton.mp hc]; exact hl
/-! ## the plain model -/
def isBlk (b : Blk) : Bool := decide (b.length = 32) && b.all fun i => decide (0 ≤ i) && decide (i ≤ 255)
def okT (tn : List Int) : Bool := tn.all fun i => decide (0 ≤ i) && decide (i ≤ 32)
def optI : Option Int → V
  | none => .non
  | some i => .int i
structure DiskS where
  blocks : List Blk
  pend : List Pnd
  cuts : Int
  left : Option Int
  torn : List Int
def tornOf (tn : List Int) (i : Nat) : Nat := (tn.getD i 0).toNat
def tear (tn : List Int) (bs : List Blk) (pd : List Pnd) : Nat → List Blk
  | 0 => bs
  | i + 1 => match pd[i]? with
    | none => tear tn bs pd i
    | some e => (tear tn bs pd i).set e.1 (e.2.take (tornOf tn i) ++ ((tear tn bs pd i).getD e.1 []).drop (tornOf tn i))
theorem tear_len (tn : List Int) (bs : List Blk) (pd : List Pnd) : ∀ i, (tear tn bs pd i).length = bs.length
  | 0 => rfl
  | i + 1 => by
    unfold tear
    split
    · exact tear_len tn bs pd i
    · rw [List.length_set]; exact tear_len tn bs pd i
def flush (bs : List Blk) (pd : List Pnd) : Nat → List Blk
  | 0 => bs
  | i + 1 => match pd[i]? with
    | none => flush bs pd i
    | some e => (flush bs pd i).set e.1 e.2
theorem flush_len (bs : List Blk) (pd : List Pnd) : ∀ i, (flush bs pd i).length = bs.length
  | 0 => rfl
  | i + 1 => by
    unfold flush
    split
    · exact flush_len bs pd i
    · rw [List.length_set]; exact flush_len bs pd i
def readP (at_ : Nat) (b : Blk) (pd : List Pnd) : Nat → Blk
  | 0 => b
  | i + 1 => match pd[i]? with
    | none => readP at_ b pd i
    | some e => if e.1 = at_ then e.2 else readP at_ b pd i
def cutS (s : DiskS) (tn : List Int) : DiskS := ⟨tear tn s.blocks s.pend s.pend.length, [], s.cuts + 1, none, []⟩
def flushS (s : DiskS) : DiskS := { s with blocks := flush s.blocks s.pend s.pend.length, pend := [] }
def readS (s : DiskS) (at_ : Nat) : Blk := readP at_ (s.blocks.getD at_ []) s.pend s.pend.length
structure OkS (s : DiskS) : Prop where
  big : 8 ≤ s.blocks.length
  most : s.blocks.length ≤ 400
  len : ∀ b ∈ s.blocks, b.length = 32
  pnd : ∀ e ∈ s.pend, e.1 < s.blocks.length ∧ e.2.length = 32
  trn : okT s.torn = true
  few : s.pend.length ≤ 1000000
/-! ## a disk in the heap -/
def diskF (B Pd c l T : V) : List (Str × V) := [("_blocks", B), ("_pending", Pd), ("_cuts", c), ("_left", l), ("_torn", T)]
theorem get1 {a b c d e : V} : (diskF a b c d e).lookup ("_blocks" : Str) = some a := by kernel_rfl
theorem get2 {a b c d e : V} : (diskF a b c d e).lookup ("_pending" : Str) = some b := by kernel_rfl
theorem get3 {a b c d e : V} : (diskF a b c d e).lookup ("_cuts" : Str) = some c := by kernel_rfl
theorem get4 {a b c d e : V} : (diskF a b c d e).lookup ("_left" : Str) = some d := by kernel_rfl
theorem get5 {a b c d e : V} : (diskF a b c d e).lookup ("_torn" : Str) = some e := by kernel_rfl
theorem put2 {a b c d e x : V} : putF "_pending" x (diskF a b c d e) = diskF a x c d e := by kernel_rfl
theorem put3 {a b c d e x : V} : putF "_cuts" x (diskF a b c d e) = diskF a b x d e := by kernel_rfl
theorem put4 {a b c d e x : V} : putF "_left" x (diskF a b c d e) = diskF a b c x e := by kernel_rfl
theorem put5 {a b c d e x : V} : putF "_torn" x (diskF a b c d e) = diskF a b c d x := by kernel_rfl
theorem putAll {a b c d e : V} : putF "_torn" e (putF "_left" d (putF "_cuts" c (putF "_pending" b (putF "_blocks" a [])))) = diskF a b c d e := by kernel_rfl
theorem ln2 {a b : V} : (putF "_pending" b (putF "_blocks" a [])).length = 2 := by kernel_rfl
theorem ln3 {a b c : V} : (putF "_cuts" c (putF "_pending" b (putF "_blocks" a []))).length = 3 := by kernel_rfl
theorem ln4 {a b c d : V} : (putF "_left" d (putF "_cuts" c (putF "_pending" b (putF "_blocks" a [])))).length = 4 := by kernel_rfl
structure DiskAt (K : PySem.W.Frag) (H : Hp) (dk B Pd T : Addr) (s : DiskS) : Prop where
  ins : ∃ dx, H dk = some (.ins (He.ga K "Disk") dx (diskF (.ref B) (.ref Pd) (.int s.cuts) (optI s.left) (.ref T)))
  blk : BlksAt H B s.blocks
  pnd : PendAt K H Pd s.pend
  trn : H T = some (.lst (s.torn.map V.int))
  nBP : B ≠ Pd
  nBT : B ≠ T
  nPT : Pd ≠ T
  ok : OkS s
theorem DiskAt.km {K : PySem.W.Frag} {H H' : Hp} {dk B Pd T : Addr} {s : DiskS} (h : DiskAt K H dk B Pd T s) (e : Km H H') (n : ∀ a ∈ [dk, B, Pd, T], ∀ o, H a = some o → H' a = some o) : DiskAt K H' dk B Pd T s := by
  obtain ⟨dx, hi⟩ := h.ins
  exact ⟨⟨dx, n dk (by simp) _ hi⟩, h.blk.km e (n B (by simp)), h.pnd.km e (n Pd (by simp)), n T (by simp) _ h.trn, h.nBP, h.nBT, h.nPT, h.ok⟩
theorem DiskAt.kp {K : PySem.W.Frag} {ms : List Addr} {H H' : Hp} {dk B Pd T : Addr} {s : DiskS} (h : DiskAt K H dk B Pd T s) (e : Kp ms H H') (hm : ∀ a ∈ ms, Mu H a) (n : ∀ a ∈ [dk, B, Pd, T], a ∉ ms) : DiskAt K H' dk B Pd T s := h.km (Km.of e hm) fun a ha o ho => e a o (n a ha) ho
theorem DiskAt.kp0 {K : PySem.W.Frag} {H H' : Hp} {dk B Pd T : Addr} {s : DiskS} (h : DiskAt K H dk B Pd T s) (e : Kp [] H H') : DiskAt K H' dk B Pd T s := h.kp e (by simp) (by simp)
/-- what a call has done -/
structure Did (K : PySem.W.Frag) (H H' : Hp) (dk B Pd T Pd' T' : Addr) (s' : DiskS) : Prop where
  kp : Kp [dk, B, Pd] H H'
  at_ : DiskAt K H' dk B Pd' T' s'
  fp : Pd' = Pd ∨ H Pd' = none
  ft : T' = T ∨ H T' = none
theorem DiskAt.mus {K : PySem.W.Frag} {H : Hp} {dk B Pd T : Addr} {s : DiskS} (h : DiskAt K H dk B Pd T s) : ∀ a ∈ [dk, B, Pd], Mu H a := by
  obtain ⟨dx, hi⟩ := h.ins
  intro a ha
  simp only [List.mem_cons, List.not_mem_nil, or_false] at ha
  rcases ha with rfl | rfl | rfl
  · exact Mu.ins hi
  · exact h.blk.mu
  · exact h.pnd.mu
theorem Did.km {K : PySem.W.Frag} {H H' : Hp} {dk B Pd T Pd' T' : Addr} {s s' : DiskS} (h : Did K H H' dk B Pd T Pd' T' s') (D : DiskAt K H dk B Pd T s) : Km H H' := Km.of h.kp D.mus
theorem Did.of {K : PySem.W.Frag} {H H0 H' : Hp} {dk B Pd T Pd' T' : Addr} {s' : DiskS} (h : Did K H0 H' dk B Pd T Pd' T' s') (e : Kp [] H H0) : Did K H H' dk B Pd T Pd' T' s' :=
  ⟨e.mono.trans h.kp, h.at_, h.fp.imp id (free0 e), h.ft.imp id (free0 e)⟩
theorem Did.after {K : PySem.W.Frag} {H H0 H' : Hp} {dk B Pd T Pd' T' : Addr} {s' : DiskS} (h : Did K H H0 dk B Pd T Pd' T' s') (e : Kp [] H0 H') : Did K H H' dk B Pd T Pd' T' s' :=
  ⟨h.kp.trans e.mono, h.at_.kp0 e, h.fp, h.ft⟩
end K42


namespace K42
open PySem L2 Sa
section
variable {P : Program} {w : World} {K : PySem.W.Frag} {mg : Str → Option Value} {base : Heap}
theorem C_Disk (T : TX K mg) : ClsAt K mg "Disk" := ⟨T.glo 19, He.cls_ok (T.fact 39)⟩
theorem Mk_Disk (T : TX K mg) : Mk K (He.ga K "Disk") (He.ma K (He.ga K "Disk") "__init__") := He.mkr_ok (T.fact 40)
theorem F1 (T : TX K mg) : NoAttr K (He.ga K "Disk") "_blocks" := He.noat_ok (T.fact 41)
theorem F2 (T : TX K mg) : NoAttr K (He.ga K "Disk") "_pending" := He.noat_ok (T.fact 42)
theorem F3 (T : TX K mg) : NoAttr K (He.ga K "Disk") "_cuts" := He.noat_ok (T.fact 43)
theorem F4 (T : TX K mg) : NoAttr K (He.ga K "Disk") "_left" := He.noat_ok (T.fact 44)
theorem F5 (T : TX K mg) : NoAttr K (He.ga K "Disk") "_torn" := He.noat_ok (T.fact 45)
section
variable {H : Hp} {Q : VK} {dk dx : Addr} {a b c d e x : V} {R : Hp → Prop}
theorem g1 (T : TX K mg) (h : H dk = some (.ins (He.ga K "Disk") dx (diskF a b c d e))) (q : Q a H) : FldK K "_blocks" (.ref dk) H Q := c_fldAt h (C_Disk T).cls (F1 T) get1 q
theorem g2 (T : TX K mg) (h : H dk = some (.ins (He.ga K "Disk") dx (diskF a b c d e))) (q : Q b H) : FldK K "_pending" (.ref dk) H Q := c_fldAt h (C_Disk T).cls (F2 T) get2 q
theorem g3 (T : TX K mg) (h : H dk = some (.ins (He.ga K "Disk") dx (diskF a b c d e))) (q : Q c H) : FldK K "_cuts" (.ref dk) H Q := c_fldAt h (C_Disk T).cls (F3 T) get3 q
theorem g4 (T : TX K mg) (h : H dk = some (.ins (He.ga K "Disk") dx (diskF a b c d e))) (q : Q d H) : FldK K "_left" (.ref dk) H Q := c_fldAt h (C_Disk T).cls (F4 T) get4 q
theorem g5 (T : TX K mg) (h : H dk = some (.ins (He.ga K "Disk") dx (diskF a b c d e))) (q : Q e H) : FldK K "_torn" (.ref dk) H Q := c_fldAt h (C_Disk T).cls (F5 T) get5 q
theorem p2 (T : TX K mg) (h : H dk = some (.ins (He.ga K "Disk") dx (diskF a b c d e))) (q : R (upd H dk (.ins (He.ga K "Disk") dx (diskF a x c d e)))) : SetFldK K "_pending" (.ref dk) x H R := c_setFAt h (C_Disk T).cls (F2 T) (by show 5 < 1000; decide) (by rw [put2]; exact q)
theorem p3 (T : TX K mg) (h : H dk = some (.ins (He.ga K "Disk") dx (diskF a b c d e))) (q : R (upd H dk (.ins (He.ga K "Disk") dx (diskF a b x d e)))) : SetFldK K "_cuts" (.ref dk) x H R := c_setFAt h (C_Disk T).cls (F3 T) (by show 5 < 1000; decide) (by rw [put3]; exact q)
theorem p4 (T : TX K mg) (h : H dk = some (.ins (He.ga K "Disk") dx (diskF a b c d e))) (q : R (upd H dk (.ins (He.ga K "Disk") dx (diskF a b c x e)))) : SetFldK K "_left" (.ref dk) x H R := c_setFAt h (C_Disk T).cls (F4 T) (by show 5 < 1000; decide) (by rw [put4]; exact q)
theorem p5 (T : TX K mg) (h : H dk = some (.ins (He.ga K "Disk") dx (diskF a b c d e))) (q : R (upd H dk (.ins (He.ga K "Disk") dx (diskF a b c d x)))) : SetFldK K "_torn" (.ref dk) x H R := c_setFAt h (C_Disk T).cls (F5 T) (by show 5 < 1000; decide) (by rw [put5]; exact q)
theorem r0 {m : Str} {xs : List V} (h : H dk = some (.ins (He.ga K "Disk") dx (diskF a b c d e))) (l : (diskF a b c d e).lookup m = none) (q : R H) : RecvK K "Disk" m (.ref dk) H R := c_recv h l q
end
def spIsBlock (K : PySem.W.Frag) : Sp := fun vs H Q _ => ∃ (p : Addr) (b : Blk), vs = [.ref p] ∧ SqL K H p (b.map V.int) ∧ Q (.bl (isBlk b)) H
theorem sc__is_block : FnScope ["block", "byte"] ["block"] (defScope s__is_block) := ⟨rfl, rfl, rfl, by decide +kernel, rfl, by decide +kernel, by decide +kernel⟩
theorem bn__is_block : BindN "_is_block" s__is_block ["block"] := fun _ _ _ _ _ _ us hl => match us, hl with | [_], _ => rfl
theorem b__is_block (T : TX K mg) : Body P w K mg base "_is_block" s__is_block ["block", "byte"] 1 (spIsBlock K) := by
  intro cdv A outer s H vs Q E h X hr
  obtain ⟨p, b, rfl, hb, q⟩ := h
  refine ⟨_, (pss_cons (ps_if (pt_cmpR (op_neU (K := K) hr.units) (pe_callB (cr_len (K := K)) rfl (T.free 0) PySem.boot_len (pa_cons (pv 0) pa_nil)) (pe_gInt (T.int 1)) (nomark _)) (pss_one (ps_ret pe_bl)) pss_nil) (pss_cons (ps_for PassesOwn.never rfl (pi_listU (K := K) (pv 0)) (pg_name (i := 1) sc__is_block.nd rfl (Or.inl rfl)) (pss_one (ps_if (pt_not (pt_chain op_leU op_leU pe_int (pv 1) pe_int)) (pss_one (ps_ret pe_bl)) pss_nil))) (pss_one (ps_ret pe_bl)))), ?_⟩
  walk_at "st"
  rw [List.length_map]
  refine c_iteN (fun g => ?_) (fun g => ?_)
  · walk_at "st"
    unfold isBlk at q
    rw [decide_eq_false (fun z => g (by omega)), Bool.false_and] at q
    exact q
  have hl : b.length = 32 := by omega
  have q' : Q (.bl (b.all fun i => decide (0 ≤ i) && decide (i ≤ 255))) H := by
    unfold isBlk at q
    rw [decide_eq_true hl, Bool.true_and] at q
    exact q
  walk_at "st"
  refine forQ (itn_l (ys := b) (u := V.int)) (fun i σ H' => ∃ v, σ = [some (.ref p), v] ∧ H' = H ∧ ((b.take i).all fun i => decide (0 ≤ i) && decide (i ≤ 255)) = true) ⟨_, rfl, rfl, rfl⟩ (by rintro i σ H' ⟨_, _, e, _⟩; rw [e]; exact hb) ?_ ?_
  · rintro i y σ H1 H2 hi ⟨v, rfl, rfl, ha⟩ ⟨rfl, z, hz, rfl⟩
    have e1 : b.take (i + 1) = b.take i ++ [z] := take_succ' hz
    have no : (decide (0 ≤ z) && decide (z ≤ 255)) = false → Q (.bl false) H2 := fun h => by
      have : (b.all fun i => decide (0 ≤ i) && decide (i ≤ 255)) = false := by
        rw [List.all_eq_false]
        exact ⟨z, List.mem_of_getElem? hz, by rw [h]; exact Bool.false_ne_true⟩
      rw [this] at q'
      exact q'
    walk_at "st"
    refine c_ite (fun ga => ?_) (fun ga => ?_)
    · walk_at "st"
      refine c_iteN (fun gb => ?_) (fun gb => ?_)
      · walk_at "st"
        exact no (by simp [ga, gb])
      · walk_at "st"
        exact ⟨_, rfl, rfl, by rw [e1, List.all_append, ha]; simp [ga, gb]⟩
    · walk_at "st"
      exact no (by simp [ga])
  · rintro σ _ ⟨v, rfl, rfl, ha⟩
    rw [List.take_length] at ha
    walk_at "st"
    rw [ha] at q'
    exact q'
theorem D__is_block (T : TX K mg) : DefAt P w K mg base CX0 "_is_block" 2 ["block"] (spIsBlock K) :=
  def_of T 0 2 sc__is_block bn__is_block (by walk_at "len") (b__is_block T)
def spCheckTorn (K : PySem.W.Frag) : Sp := fun vs H Q E => ∃ (p : Addr) (tn : List Int), vs = [.ref p] ∧ SqL K H p (tn.map V.int) ∧ (okT tn = true → Q .non H) ∧ (okT tn = false → RaisesE K H E "torn")
theorem sc__check_torn : FnScope ["torn", "count"] ["torn"] (defScope s__check_torn) := ⟨rfl, rfl, rfl, by decide +kernel, rfl, by decide +kernel, by decide +kernel⟩
theorem bn__check_torn : BindN "_check_torn" s__check_torn ["torn"] := fun _ _ _ _ _ _ us hl => match us, hl with | [_], _ => rfl
theorem b__check_torn (T : TX K mg) : BodyX P w K mg base "_check_torn" s__check_torn ["torn", "count"] 3 (spCheckTorn K) := by
  intro cdv A outer s H vs Q E h X hr tk
  obtain ⟨p, tn, rfl, hb, q1, q2⟩ := h
  have E_OutOfRange := E_OutOfRange (P := P) (w := w) (base := base) T
  refine ⟨_, (pss_one (ps_for (passes_of rfl) rfl (pi_listU (K := K) (pv 0)) (pg_name (i := 1) sc__check_torn.nd rfl (Or.inl rfl)) (pss_one (ps_if (pt_not (pt_chain op_leU op_leU pe_int (pv 1) (pe_gInt (T.int 1)))) (pss_one (ps_raiseE (K := K) E_OutOfRange hr tk (pa_cons pe_str pa_nil))) pss_nil)))), ?_⟩
  walk_at "st"
  refine forQ (itn_l (ys := tn) (u := V.int)) (fun i σ H' => ∃ v, σ = [some (.ref p), v] ∧ H' = H ∧ okT (tn.take i) = true) ⟨_, rfl, rfl, rfl⟩ (by rintro i σ H' ⟨_, _, e, _⟩; rw [e]; exact hb) ?_ ?_
  · rintro i y σ H1 H2 hi ⟨v, rfl, rfl, ha⟩ ⟨rfl, z, hz, rfl⟩
    have e1 : tn.take (i + 1) = tn.take i ++ [z] := take_succ' hz
    have no : (decide (0 ≤ z) && decide (z ≤ 32)) = false → RaisesE K H2 E "torn" := fun h => by
      refine q2 ?_
      unfold okT
      rw [List.all_eq_false]
      exact ⟨z, List.mem_of_getElem? hz, by rw [h]; exact Bool.false_ne_true⟩
    walk_at "st"
    refine c_ite (fun ga => ?_) (fun ga => ?_)
    · walk_at "st"
      refine c_iteN (fun gb => ?_) (fun gb => ?_)
      · walk_at "st"
        exact c_err fun d H3 N => no (by simp [ga, gb]) d H3 N.kp N.at_
      · walk_at "st"
        refine ⟨_, rfl, rfl, ?_⟩
        unfold okT at ha ⊢
        rw [e1, List.all_append, ha]
        simp [ga, gb]
    · walk_at "st"
      exact c_err fun d H3 N => no (by simp [ga]) d H3 N.kp N.at_
  · rintro σ _ ⟨v, rfl, rfl, ha⟩
    rw [List.take_length] at ha
    walk_at "st"
    exact q1 ha
theorem D__check_torn (T : TX K mg) : DefAt P w K mg base (L2.CX P w) "_check_torn" 4 ["torn"] (spCheckTorn K) :=
  def_ofX T 1 4 sc__check_torn bn__check_torn (by walk_at "len") (b__check_torn T)
def newS (n : Nat) : DiskS := ⟨List.replicate n (List.replicate 32 0), [], 0, none, []⟩
def spDInit (K : PySem.W.Frag) : Sp := fun vs H Q E => ∃ (x dx : Addr) (n : Int), vs = [.ref x, .int n] ∧ H x = some (.ins (He.ga K "Disk") dx []) ∧
  (8 ≤ n ∧ n ≤ 400 → ∀ B Pd T H', Kp [x] H H' → DiskAt K H' x B Pd T (newS n.toNat) → H B = none → H Pd = none → H T = none → Q .non H') ∧ (¬ (8 ≤ n ∧ n ≤ 400) → RaisesE K H E "blocks")
theorem range_lt {n i : Nat} (h : i < n) : (List.replicate n (List.replicate 32 (0 : Int)))[i]? = some (List.replicate 32 0) := by rw [List.getElem?_replicate, if_pos h]
theorem sc_Disk___init__ : FnScope ["self", "blocks", "_"] ["self", "blocks"] (defScope s_Disk___init__) := ⟨rfl, rfl, rfl, by decide +kernel, rfl, by decide +kernel, by decide +kernel⟩
theorem bn_Disk___init__ : BindM "__init__" "Disk.__init__" s_Disk___init__ ["self", "blocks"] := fun _ _ _ _ _ _ us hl => match us, hl with | [_, _], _ => rfl
theorem b_Disk___init__ (T : TX K mg) : BodyMX P w K mg base "Disk" "__init__" "Disk.__init__" s_Disk___init__ ["self", "blocks", "_"] 3 (spDInit K) := by
  intro cdv A outer s H vs Q E h X hr tk
  obtain ⟨x, dx, n, rfl, hx, q1, q2⟩ := h
  have E_OutOfRange := E_OutOfRange (P := P) (w := w) (base := base) T
  refine ⟨_, (pss_cons (ps_if (pt_not (pt_chain op_leU op_leU (pe_gInt (T.int 22)) (pv 1) (pe_gInt (T.int 23)))) (pss_one (ps_raiseE (K := K) E_OutOfRange hr tk (pa_cons pe_str pa_nil))) pss_nil) (pss_cons (ps_fldU (K := K) (pv 0) (pe_lc (own := [("_", 2)]) rfl sc_Disk___init__.nd (pi_range1 rfl (T.free 6) (pa_cons (pv 1) pa_nil)) (blkOk_by (N := ["self", "blocks", "_"]) (sc := defScope s_Disk___init__) (by decide +kernel)) (fun _ _ _ _ _ => (pg_name (i := 2) sc_Disk___init__.nd rfl (Or.inl rfl))) (fun _ _ _ _ _ => pts_nil) (fun _ _ _ _ _ => (pe_op (op_mulU (K := K)) (pe_lst (pa_cons pe_int pa_nil)) (pe_gInt (T.int 1)))))) (pss_cons (ps_fldU (K := K) (pv 0) (pe_lst pa_nil)) (pss_cons (ps_fldU (K := K) (pv 0) pe_int) (pss_cons (ps_fldU (K := K) (pv 0) pe_non) (pss_one (ps_fldU (K := K) (pv 0) (pe_lst pa_nil)))))))), ?_⟩
  walk_at "st"
  have no : ¬ (8 ≤ n ∧ n ≤ 400) → ∀ {W : WX} {σ : St}, (∀ cls d H', E cls d H' → W cls d σ H') → RaiseK K "OutOfRange" "name" [.str "blocks"] H fun cls d H' => W cls d σ H' := fun hn W σ k => c_err fun d H2 N => k _ _ _ (q2 hn d H2 N.kp N.at_)
  refine c_ite (fun ga => ?_) (fun ga => ?_)
  rotate_left
  · walk_at "st"
    exact c_err fun d H2 N => q2 (by omega) d H2 N.kp N.at_
  walk_at "st"
  refine c_iteN (fun gb => ?_) (fun gb => ?_)
  · walk_at "st"
    exact c_err fun d H2 N => q2 (by omega) d H2 N.kp N.at_
  walk_at "st"
  obtain ⟨m, rfl⟩ := Int.eq_ofNat_of_zero_le (show 0 ≤ n by omega)
  refine lcQ_new (itn_r (lo := 0) (n := m)) (fun _ => .lst ((List.replicate 32 (0 : Int)).map V.int)) (by omega) (fun _ _ => trivial) (fun i y H' H'' R S hi e z k => ?_) (fun B qs H2 hB e2 hacc hql hqs => ?_)
  · obtain ⟨rfl, rfl⟩ := z
    walk_at "st"
    refine ⟨rfl, ?_⟩
    walk_at "st"
    walk_at "nw"
    intro p3 H3 N3
    walk_at "st"
    refine c_mulL N3.at_ (by omega) (by omega) (by rw [sizeLine_eq]; simp) fun p4 H4 N4 => ?_
    refine k p4 H4 (N3.free N4.fr) (N3.kp.trans N4.kp) ?_
    rw [N4.at_]
    rfl
  walk_at "st"
  have hx2 := e2.at0 hx
  have nBx : B ≠ x := fun z => by rw [z, hx2] at hacc; cases hacc
  refine c_setFAt hx2 (C_Disk T).cls (F1 T) (by simp) ?_
  walk_at "st"
  walk_at "nw"
  intro Pd H3 N3
  walk_at "st"
  have nPx : Pd ≠ x := (ne_of_none (show upd H2 x (.ins (He.ga K "Disk") dx (putF "_blocks" (.ref B) [])) x = some _ from upd_same) N3.fr).symm
  have hx3 := N3.keep (show upd H2 x (.ins (He.ga K "Disk") dx (putF "_blocks" (.ref B) [])) x = some _ from upd_same)
  refine c_setFAt hx3 (C_Disk T).cls (F2 T) (by show 1 < 1000; decide) ?_
  walk_at "st"
  refine c_setFAt upd_same (C_Disk T).cls (F3 T) (by rw [ln2]; decide) ?_
  walk_at "st"
  refine c_setFAt upd_same (C_Disk T).cls (F4 T) (by rw [ln3]; decide) ?_
  rw [upd_upd, upd_upd]
  walk_at "st"
  walk_at "nw"
  intro To H4 N4
  walk_at "st"
  generalize hU : upd H3 x (HO.ins (He.ga K "Disk") dx (putF "_left" V.non (putF "_cuts" (.int 0) (putF "_pending" (.ref Pd) (putF "_blocks" (.ref B) []))))) = U at N4
  have hxU : U x = some (HO.ins (He.ga K "Disk") dx (putF "_left" V.non (putF "_cuts" (.int 0) (putF "_pending" (.ref Pd) (putF "_blocks" (.ref B) []))))) := by rw [← hU]; exact upd_same
  refine c_setFAt (N4.keep hxU) (C_Disk T).cls (F5 T) (by rw [ln4]; decide) ?_
  rw [putAll]
  have nTx : To ≠ x := (ne_of_none hxU N4.fr).symm
  have k23 : Kp [x] H2 H3 := (Kp.mut (by simp)).trans N3.kp.mono
  have k3U : Kp [x] H3 U := by rw [← hU]; exact Kp.mut (by simp)
  have kU : Kp [x] H U := (e2.mono.trans k23).trans k3U
  have kF : Kp [x] H (upd H4 x (HO.ins (He.ga K "Disk") dx (diskF (.ref B) (.ref Pd) (.int 0) .non (.ref To)))) := (kU.trans N4.kp.mono).trans (Kp.mut (by simp))
  have hB3 : H3 B = some (.lst (qs.map V.ref)) := k23 B _ (by simpa using nBx) hacc
  have hB4 : H4 B = some (.lst (qs.map V.ref)) := N4.keep (k3U B _ (by simpa using nBx) hB3)
  have hP4 : H4 Pd = some (.lst []) := N4.keep (k3U Pd _ (by simpa using nPx) N3.at_)
  have frP : H Pd = none := free0 e2 (by
    have z := N3.fr
    rw [upd_ne nPx] at z
    exact z)
  have frT : H To = none := by
    cases hz : H To with
    | none => rfl
    | some o => have z := kU To o (by simpa using nTx) hz; rw [N4.fr] at z; cases z
  refine q1 ⟨by omega, by omega⟩ B Pd To _ kF ⟨⟨dx, upd_same⟩, ⟨⟨qs, by rw [upd_ne nBx]; exact hB4, ?_, ?_⟩, ?_⟩, PendAt.nil (by rw [upd_ne nPx]; exact hP4), by rw [upd_ne nTx]; exact N4.at_, ?_, ?_, ?_, ?_⟩ hB frP frT
  · show qs.length = (List.replicate (Int.ofNat m).toNat (List.replicate 32 (0 : Int))).length
    rw [List.length_replicate, hql]; rfl
  · intro i b hb
    have hb : (List.replicate m (List.replicate 32 (0 : Int)))[i]? = some b := hb
    rw [List.getElem?_replicate] at hb
    split at hb
    · rename_i hi
      obtain rfl := Option.some.inj hb
      obtain ⟨q, hq⟩ : ∃ q, qs[i]? = some q := ⟨_, List.getElem?_eq_getElem (by omega)⟩
      obtain ⟨h1, h2⟩ := hqs i q hq
      have nqx : q ≠ x := fun z => by rw [z, hx2] at h2; cases h2
      refine ⟨q, hq, ?_⟩
      show upd _ _ _ _ = _
      rw [upd_ne nqx]
      exact N4.keep (k3U q _ (by simpa using nqx) (k23 q _ (by simpa using nqx) h2))
    · cases hb
  · intro b hb
    have hb : b ∈ List.replicate m (List.replicate 32 (0 : Int)) := hb
    rw [(List.mem_replicate.mp hb).2]; rfl
  · exact fun z => by rw [z, hP4] at hB4; injection hB4 with hB4; injection hB4 with hB4; cases qs with | nil => rw [List.length_nil] at hql; omega | cons a b => simp at hB4
  · exact ne_of_none (k3U B _ (by simpa using nBx) hB3) N4.fr
  · exact ne_of_none (k3U Pd _ (by simpa using nPx) N3.at_) N4.fr
  · have hm : (newS m).blocks.length = m := List.length_replicate
    refine ⟨?_, ?_, fun b hb => ?_, fun e he => ?_, rfl, Nat.zero_le _⟩
    · show 8 ≤ (newS m).blocks.length
      omega
    · show (newS m).blocks.length ≤ 400
      omega
    · have hb : b ∈ List.replicate m (List.replicate 32 (0 : Int)) := hb
      rw [(List.mem_replicate.mp hb).2]; rfl
    · cases he
theorem M_Disk___init__ (T : TX K mg) : MethAt P w K mg base (L2.CX P w) "Disk" "__init__" 4 ["self", "blocks"] (spDInit K) :=
  meth_ofX T 11 24 sc_Disk___init__ bn_Disk___init__ (by walk_at "len") (b_Disk___init__ T)
end
end K42



namespace K42
open PySem L2 Sa
section
variable {P : Program} {w : World} {K : PySem.W.Frag} {mg : Str → Option Value} {base : Heap}
theorem noM {m : Str} {a b c d e : V} (h : m ∉ (["_blocks", "_pending", "_cuts", "_left", "_torn"] : List Str)) : (diskF a b c d e).lookup m = none := by
  unfold diskF
  have n : ∀ z ∈ (["_blocks", "_pending", "_cuts", "_left", "_torn"] : List Str), (m == z) = false := fun z hz => by
    rw [beq_eq_false_iff_ne]
    exact fun e => h (e ▸ hz)
  simp only [List.lookup, n "_blocks" (by simp), n "_pending" (by simp), n "_cuts" (by simp), n "_left" (by simp), n "_torn" (by simp)]
theorem rD {m : Str} {H : Hp} {dk B Pd To : Addr} {s : DiskS} {R : Hp → Prop} (D : DiskAt K H dk B Pd To s) (h : m ∉ (["_blocks", "_pending", "_cuts", "_left", "_torn"] : List Str)) (q : R H) : RecvK K "Disk" m (.ref dk) H R := by
  obtain ⟨dx, hi⟩ := D.ins
  exact c_recv hi (noM h) q
def spSize (K : PySem.W.Frag) : Sp := fun vs H Q _ => ∃ (dk B Pd T : Addr) (s : DiskS), vs = [.ref dk] ∧ DiskAt K H dk B Pd T s ∧ Q (.int s.blocks.length) H
def spPCount (K : PySem.W.Frag) : Sp := fun vs H Q _ => ∃ (dk B Pd T : Addr) (s : DiskS), vs = [.ref dk] ∧ DiskAt K H dk B Pd T s ∧ Q (.int s.pend.length) H
theorem sc_Disk_pending_count : FnScope ["self"] ["self"] (defScope s_Disk_pending_count) := ⟨rfl, rfl, rfl, by decide +kernel, rfl, by decide +kernel, by decide +kernel⟩
theorem bn_Disk_pending_count : BindM "pending_count" "Disk.pending_count" s_Disk_pending_count ["self"] := fun _ _ _ _ _ _ us hl => match us, hl with | [_], _ => rfl
theorem b_Disk_pending_count (T : TX K mg) : BodyM P w K mg base "Disk" "pending_count" "Disk.pending_count" s_Disk_pending_count ["self"] 1 (spPCount K) := by
  intro cdv A outer s H vs Q E h X hr
  obtain ⟨dk, B, Pd, To, s, rfl, D, q⟩ := h
  refine ⟨_, (pss_one (ps_ret (pe_callB (cr_len (K := K)) rfl (T.free 0) PySem.boot_len (pa_cons (pe_fldU (K := K) (pv 0)) pa_nil)))), ?_⟩
  obtain ⟨dx, hi⟩ := D.ins
  obtain ⟨ps, h1, h2, _⟩ := D.pnd.ex
  walk_at "st"
  refine g2 T hi ?_
  walk_at "st"
  rw [List.length_map, h2]
  exact q
theorem M_Disk_pending_count (T : TX K mg) : MethAt P w K mg base CX0 "Disk" "pending_count" 2 ["self"] (spPCount K) :=
  meth_of T 18 33 sc_Disk_pending_count bn_Disk_pending_count (by walk_at "len") (b_Disk_pending_count T)
def spCCount (K : PySem.W.Frag) : Sp := fun vs H Q _ => ∃ (dk B Pd T : Addr) (s : DiskS), vs = [.ref dk] ∧ DiskAt K H dk B Pd T s ∧ Q (.int s.cuts) H
theorem sc_Disk_cut_count : FnScope ["self"] ["self"] (defScope s_Disk_cut_count) := ⟨rfl, rfl, rfl, by decide +kernel, rfl, by decide +kernel, by decide +kernel⟩
theorem bn_Disk_cut_count : BindM "cut_count" "Disk.cut_count" s_Disk_cut_count ["self"] := fun _ _ _ _ _ _ us hl => match us, hl with | [_], _ => rfl
theorem b_Disk_cut_count (T : TX K mg) : BodyM P w K mg base "Disk" "cut_count" "Disk.cut_count" s_Disk_cut_count ["self"] 1 (spCCount K) := by
  intro cdv A outer s H vs Q E h X hr
  obtain ⟨dk, B, Pd, To, s, rfl, D, q⟩ := h
  refine ⟨_, (pss_one (ps_ret (pe_fldU (K := K) (pv 0)))), ?_⟩
  obtain ⟨dx, hi⟩ := D.ins
  walk_at "st"
  refine g3 T hi ?_
  exact q
theorem M_Disk_cut_count (T : TX K mg) : MethAt P w K mg base CX0 "Disk" "cut_count" 2 ["self"] (spCCount K) :=
  meth_of T 19 34 sc_Disk_cut_count bn_Disk_cut_count (by walk_at "len") (b_Disk_cut_count T)
def inAt (s : DiskS) (i : Int) : Bool := decide (0 ≤ i) && decide (i < s.blocks.length)
def spCheckAt (K : PySem.W.Frag) : Sp := fun vs H Q E => ∃ (dk B Pd T : Addr) (s : DiskS) (i : Int), vs = [.ref dk, .int i] ∧ DiskAt K H dk B Pd T s ∧ (inAt s i = true → Q .non H) ∧ (inAt s i = false → RaisesE K H E "at")
theorem sc_Disk__check_at : FnScope ["self", "at"] ["self", "at"] (defScope s_Disk__check_at) := ⟨rfl, rfl, rfl, by decide +kernel, rfl, by decide +kernel, by decide +kernel⟩
theorem bn_Disk__check_at : BindM "_check_at" "Disk._check_at" s_Disk__check_at ["self", "at"] := fun _ _ _ _ _ _ us hl => match us, hl with | [_, _], _ => rfl
theorem b_Disk__check_at (T : TX K mg) : BodyMX P w K mg base "Disk" "_check_at" "Disk._check_at" s_Disk__check_at ["self", "at"] 3 (spCheckAt K) := by
  intro cdv A outer s H vs Q E h X hr tk
  obtain ⟨dk, B, Pd, To, s, i, rfl, D, q1, q2⟩ := h
  have E_OutOfRange := E_OutOfRange (P := P) (w := w) (base := base) T
  refine ⟨_, (pss_one (ps_if (pt_not (pt_chain op_leU op_ltU pe_int (pv 1) (pe_callB (cr_len (K := K)) rfl (T.free 0) PySem.boot_len (pa_cons (pe_fldU (K := K) (pv 0)) pa_nil)))) (pss_one (ps_raiseE (K := K) E_OutOfRange hr tk (pa_cons pe_str pa_nil))) pss_nil)), ?_⟩
  obtain ⟨dx, hi⟩ := D.ins
  obtain ⟨ps, h1, h2, _⟩ := D.blk.ex
  walk_at "st"
  refine c_ite (fun ga => ?_) (fun ga => ?_)
  · walk_at "st"
    refine g1 T hi ?_
    walk_at "st"
    rw [List.length_map, h2]
    refine c_iteN (fun gb => ?_) (fun gb => ?_)
    · walk_at "st"
      exact c_err fun d H2 N => q2 (by simp only [inAt, ga, decide_true, Bool.true_and]; exact decide_eq_false gb) d H2 N.kp N.at_
    · walk_at "st"
      exact q1 (by simp only [inAt, ga, decide_true, Bool.true_and]; exact decide_eq_true gb)
  · walk_at "st"
    exact c_err fun d H2 N => q2 (by simp only [inAt, decide_eq_false ga, Bool.false_and]) d H2 N.kp N.at_
theorem M_Disk__check_at (T : TX K mg) : MethAt P w K mg base (L2.CX P w) "Disk" "_check_at" 4 ["self", "at"] (spCheckAt K) :=
  meth_ofX T 12 25 sc_Disk__check_at bn_Disk__check_at (by walk_at "len") (b_Disk__check_at T)
def spDRead (K : PySem.W.Frag) : Sp := fun vs H Q E => ∃ (dk B Pd T : Addr) (s : DiskS) (i : Int), vs = [.ref dk, .int i] ∧ DiskAt K H dk B Pd T s ∧ (inAt s i = true → ∀ p H', New H p (.lst ((readS s i.toNat).map V.int)) H' → Q (.ref p) H') ∧ (inAt s i = false → RaisesE K H E "at")
theorem inAt_of {s : DiskS} {i : Int} (h : inAt s i = true) : 0 ≤ i ∧ i < s.blocks.length := by
  unfold inAt at h
  simpa using h
theorem readP_len {a : Nat} {b : Blk} {pd : List Pnd} (hb : b.length = 32) (hp : ∀ e ∈ pd, e.2.length = 32) : ∀ i, (readP a b pd i).length = 32
  | 0 => hb
  | i + 1 => by
    unfold readP
    split
    · exact readP_len hb hp i
    · rename_i e he
      split
      · exact hp e (List.mem_of_getElem? he)
      · exact readP_len hb hp i
theorem getD_blk {bs : List Blk} {i : Nat} (h : i < bs.length) : bs[i]? = some (bs.getD i []) := by
  rw [List.getD_eq_getElem?_getD, List.getElem?_eq_getElem h]
  rfl
theorem sc_Disk_read : FnScope ["self", "at", "found", "place", "block"] ["self", "at"] (defScope s_Disk_read) := ⟨rfl, rfl, rfl, by decide +kernel, rfl, by decide +kernel, by decide +kernel⟩
theorem bn_Disk_read : BindM "read" "Disk.read" s_Disk_read ["self", "at"] := fun _ _ _ _ _ _ us hl => match us, hl with | [_, _], _ => rfl
theorem b_Disk_read (T : TX K mg) : BodyMX P w K mg base "Disk" "read" "Disk.read" s_Disk_read ["self", "at", "found", "place", "block"] 4 (spDRead K) := by
  intro cdv A outer s H vs Q E h X hr tk
  obtain ⟨dk, B, Pd, To, s, i, rfl, D, q1, q2⟩ := h
  have C_Disk := C_Disk T; have M_Disk__check_at := M_Disk__check_at (P := P) (w := w) (base := base) T
  refine ⟨_, (pss_cons (ps_expr (pe_methS1 M_Disk__check_at C_Disk hr (atW tk) (pv 0) (pa_cons (pv 1) pa_nil))) (pss_cons (ps_set (i := 2) sc_Disk_read.nd rfl (Or.inl rfl) (pe_ix (ix_U (K := K)) (pe_fldU (K := K) (pv 0)) (pv 1) (fun _ _ => rfl))) (pss_cons (ps_for (passes_of rfl) rfl (pi_listU (K := K) (pe_fldU (K := K) (pv 0))) (pg_tupU (K := K) (n := 2) rfl (pgs_cons (pg_name (i := 3) sc_Disk_read.nd rfl (Or.inl rfl)) (pgs_cons (pg_name (i := 4) sc_Disk_read.nd rfl (Or.inl rfl)) pgs_nil))) (pss_one (ps_if (pt_cmpR (op_eqU (K := K) hr.units) (pv 3) (pv 1) (nomark _)) (pss_one (ps_set (i := 2) sc_Disk_read.nd rfl (Or.inl rfl) (pv 4))) pss_nil))) (pss_one (ps_ret (pe_callTy (cr_list (K := K)) rfl (T.free 17) (by decide +kernel) (pa_cons (pv 2) pa_nil))))))), ?_⟩
  obtain ⟨dx, hi⟩ := D.ins
  walk_at "st"
  refine rD D (by decide +kernel) ?_
  walk_at "st"
  refine ⟨dk, B, Pd, To, s, i, rfl, D, fun g => ?_, q2⟩
  obtain ⟨i0, i1⟩ := inAt_of g
  obtain ⟨j, rfl⟩ := Int.eq_ofNat_of_zero_le i0
  have hj : j < s.blocks.length := by omega
  obtain ⟨ps, h1, h2, h3⟩ := D.blk.ex
  obtain ⟨qs, k1, k2, k3⟩ := D.pnd.ex
  obtain ⟨p0, e1, e2⟩ := h3 j _ (getD_blk hj)
  walk_at "st"
  refine g1 T hi ?_
  walk_at "st"
  refine c_ixL (SqL.of h1) (atI_nat (j := j) (by rw [List.getElem?_map, e1]; rfl)) ?_
  walk_at "st"
  refine g2 T hi ?_
  have kq : SqL K H Pd (qs.map V.ref) := SqL.of k1
  refine ⟨Pd, rfl, ⟨_, kq⟩, ?_⟩
  refine forQ (itn_l (ys := qs) (u := V.ref)) (fun n σ H' => ∃ p v3 v4, σ = [some (.ref dk), some (.int (j : Int)), some (.ref p), v3, v4] ∧ H' = H ∧ Ints H p (readP j (s.blocks.getD j []) s.pend n)) ⟨p0, _, _, rfl, rfl, e2⟩ (by rintro i σ H' ⟨_, _, _, _, e, _⟩; rw [e]; exact kq) ?_ ?_
  · rintro n y σ H1 H2 hn ⟨p, v3, v4, rfl, rfl, hp⟩ ⟨rfl, z, hz, rfl⟩
    obtain ⟨e, he⟩ : ∃ e, s.pend[n]? = some e := ⟨_, List.getElem?_eq_getElem (by omega)⟩
    obtain ⟨q, pb, f1, f2, f3⟩ := k3 n e he
    rw [hz] at f1
    obtain rfl := Option.some.inj f1
    have er : readP j (s.blocks.getD j []) s.pend (n + 1) = if e.1 = j then e.2 else readP j (s.blocks.getD j []) s.pend n := by
      conv => lhs; unfold readP
      rw [he]
    walk_at "st"
    refine c_ite (fun ga => ?_) (fun ga => ?_)
    · walk_at "st"
      exact ⟨pb, _, _, rfl, rfl, by rw [er, if_pos (by omega)]; exact f3⟩
    · walk_at "st"
      exact ⟨p, _, _, rfl, rfl, by rw [er, if_neg (by omega)]; exact hp⟩
  · rintro σ H1 ⟨p, v3, v4, rfl, rfl, hp⟩
    walk_at "st"
    refine c_listL (SqL.of hp) fun l H2 N => ?_
    rw [k2] at N
    exact q1 g l H2 N
theorem M_Disk_read (T : TX K mg) : MethAt P w K mg base (L2.CX P w) "Disk" "read" 5 ["self", "at"] (spDRead K) :=
  meth_ofX T 13 26 sc_Disk_read bn_Disk_read (by walk_at "len") (b_Disk_read T)
end
end K42



namespace K42
open PySem L2 Sa
theorem c_ifX {c : Prop} [Decidable c] {ta tb : TE} {σ : St} {H : Hp} {Q : VK} (R : V → Prop) (h1 : c → ∀ Q' : VK, (∀ v, R v → Q' v H) → ta σ H Q') (h2 : ¬ c → ∀ Q' : VK, (∀ v, R v → Q' v H) → tb σ H Q') (k : ∀ v, R v → Q v H) : if decide c = true then ta σ H Q else tb σ H Q :=
  c_ite (fun h => h1 h Q k) (fun h => h2 h Q k)
theorem okT_at {tn : List Int} (h : okT tn = true) {i : Nat} {z : Int} (hz : tn[i]? = some z) : 0 ≤ z ∧ z ≤ 32 := by
  unfold okT at h
  have := List.all_eq_true.mp h z (List.mem_of_getElem? hz)
  simpa using this
theorem tear_blk {tn : List Int} {bs : List Blk} {pd : List Pnd} (hb : ∀ b ∈ bs, b.length = 32) (hp : ∀ e ∈ pd, e.2.length = 32) (ht : okT tn = true) (hi : ∀ e ∈ pd, e.1 < bs.length) : ∀ i, ∀ b ∈ tear tn bs pd i, b.length = 32
  | 0 => hb
  | i + 1 => by
    unfold tear
    split
    · exact tear_blk hb hp ht hi i
    · rename_i e he
      have hm := List.mem_of_getElem? he
      intro b hbm
      rcases List.mem_or_eq_of_mem_set hbm with hbm | rfl
      · exact tear_blk hb hp ht hi i b hbm
      · have h1 := tear_blk hb hp ht hi i ((tear tn bs pd i).getD e.1 []) (List.mem_of_getElem? (getD_blk (by rw [tear_len]; exact hi e hm)))
        have h2 := hp e hm
        rw [List.length_append, List.length_take, List.length_drop, h1, h2]
        have h3 : tornOf tn i ≤ 32 := by
          unfold tornOf
          cases hz : tn[i]? with
          | none => rw [List.getD_eq_getElem?_getD, hz]; decide
          | some z => have := okT_at ht hz; rw [List.getD_eq_getElem?_getD, hz]; show z.toNat ≤ 32; omega
        omega
section
variable {P : Program} {w : World} {K : PySem.W.Frag} {mg : Str → Option Value} {base : Heap}
def spDCut (K : PySem.W.Frag) : Sp := fun vs H Q _ => ∃ (dk B Pd T t : Addr) (s : DiskS) (tn : List Int), vs = [.ref dk, .ref t] ∧ DiskAt K H dk B Pd T s ∧ H t = some (.lst (tn.map V.int)) ∧ okT tn = true ∧ ∀ H' Pd' T', Did K H H' dk B Pd T Pd' T' (cutS s tn) → Q .non H'
theorem sc_Disk__cut : FnScope ["self", "torn", "number", "at", "block", "count"] ["self", "torn"] (defScope s_Disk__cut) := ⟨rfl, rfl, rfl, by decide +kernel, rfl, by decide +kernel, by decide +kernel⟩
theorem bn_Disk__cut : BindM "_cut" "Disk._cut" s_Disk__cut ["self", "torn"] := fun _ _ _ _ _ _ us hl => match us, hl with | [_, _], _ => rfl
theorem b_Disk__cut (T : TX K mg) : BodyM P w K mg base "Disk" "_cut" "Disk._cut" s_Disk__cut ["self", "torn", "number", "at", "block", "count"] 1 (spDCut K) := by
  intro cdv A outer s H vs Q E h X hr
  obtain ⟨dk, B, Pd, To, t, s, tn, rfl, D, ht, hok, q⟩ := h
  refine ⟨_, (pss_cons (ps_for PassesOwn.never rfl (pi_enumU (K := K) rfl (T.free 27) (pa_cons (pe_fldU (K := K) (pv 0)) pa_nil)) (pg_tupU (K := K) (n := 2) rfl (pgs_cons (pg_name (i := 2) sc_Disk__cut.nd rfl (Or.inl rfl)) (pgs_cons (pg_tupU (K := K) (n := 2) rfl (pgs_cons (pg_name (i := 3) sc_Disk__cut.nd rfl (Or.inl rfl)) (pgs_cons (pg_name (i := 4) sc_Disk__cut.nd rfl (Or.inl rfl)) pgs_nil))) pgs_nil))) (pss_cons (ps_set (i := 5) sc_Disk__cut.nd rfl (Or.inl rfl) (pe_ifExp (pt_cmpR op_ltU (pv 2) (pe_callB (cr_len (K := K)) rfl (T.free 0) PySem.boot_len (pa_cons (pv 1) pa_nil)) (nomark _)) (pe_ix (ix_U (K := K)) (pv 1) (pv 2) (fun _ _ => rfl)) pe_int)) (pss_one (ps_asg (pe_op (op_addU (K := K)) (pe_slice (sl_U (K := K)) (pv 4) po_none (po_some (pv 5))) (pe_slice (sl_U (K := K)) (pe_ix (ix_U (K := K)) (pe_fldU (K := K) (pv 0)) (pv 3) (fun _ _ => rfl)) (po_some (pv 5)) po_none)) (pg_sub (pe_fldU (K := K) (pv 0)) (pv 3) set_list))))) (pss_cons (ps_fldU (K := K) (pv 0) (pe_lst pa_nil)) (pss_cons (ps_fldU (K := K) (pv 0) (pe_op (op_addU (K := K)) (pe_fldU (K := K) (pv 0)) pe_int)) (pss_cons (ps_fldU (K := K) (pv 0) pe_non) (pss_one (ps_fldU (K := K) (pv 0) (pe_lst pa_nil))))))), ?_⟩
  obtain ⟨dx, hi⟩ := D.ins
  obtain ⟨qs, k1, k2, k3⟩ := D.pnd.ex
  have big := D.ok.big
  have nBd : B ≠ dk := fun z => by
    obtain ⟨ps, h1, _⟩ := D.blk.ex
    rw [z, hi] at h1; cases h1
  have nPd : Pd ≠ dk := fun z => by rw [z, hi] at k1; cases k1
  have ntB : t ≠ B := fun z => by
    obtain ⟨ps, h1, h2, _⟩ := D.blk.ex
    rw [← z, ht] at h1
    injection h1 with h1
    injection h1 with h1
    cases ps with
    | nil => rw [List.length_nil] at h2; omega
    | cons a r => cases tn with
      | nil => cases h1
      | cons b r2 => simp at h1
  walk_at "st"
  refine g2 T hi ?_
  walk_at "st"
  have kq : SqL K H Pd (qs.map V.ref) := SqL.of k1
  refine ⟨Pd, _, rfl, kq, ?_⟩
  refine forQ (itn_e (ys := qs) (u := V.ref)) (fun n σ H' => ∃ v2 v3 v4 v5, σ = [some (.ref dk), some (.ref t), v2, v3, v4, v5] ∧ Kp [B] H H' ∧ BlksAt H' B (tear tn s.blocks s.pend n)) ⟨_, _, _, _, rfl, Kp.refl, D.blk⟩ (by rintro i σ H' ⟨_, _, _, _, _, e, _⟩; exact SqL.kp1 e D.nBP.symm kq) ?_ ?_
  · rintro n y σ H1 H2 hn ⟨v2, v3, v4, v5, rfl, e1, hB1⟩ ⟨T1, z, rfl, N1, hz⟩
    obtain ⟨e, he⟩ : ∃ e, s.pend[n]? = some e := ⟨_, List.getElem?_eq_getElem (by omega)⟩
    obtain ⟨q0, pb, f1, f2, f3⟩ := k3 n e he
    rw [hz] at f1
    obtain rfl := Option.some.inj f1
    obtain ⟨ein, el⟩ := D.ok.pnd e (List.mem_of_getElem? he)
    have km1 : Km H H1 := Km.of e1 (fun a ha => by rw [List.mem_singleton.mp ha]; exact D.blk.mu)
    have km2 : Km H H2 := km1.trans (Km.kp N1.kp)
    have f2' := SqT.kt km2.kt f2
    have f3' := f3.km el km2
    have ht2 := N1.keep (e1.at1 ntB ht)
    have hi2 := N1.keep (e1.at1 nBd.symm hi)
    have N1' := N1.at_
    have hB2 := hB1.kp0 N1.kp
    obtain ⟨ps, b1, b2, b3⟩ := hB2.ex
    have tl := tear_len tn s.blocks s.pend n
    obtain ⟨po, o1, o2⟩ := b3 e.1 _ (getD_blk (show e.1 < (tear tn s.blocks s.pend n).length by omega))
    have ol : ((tear tn s.blocks s.pend n).getD e.1 []).length = 32 := hB2.len _ (List.mem_of_getElem? (getD_blk (show e.1 < (tear tn s.blocks s.pend n).length by omega)))
    have et : tear tn s.blocks s.pend (n + 1) = (tear tn s.blocks s.pend n).set e.1 (e.2.take (tornOf tn n) ++ ((tear tn s.blocks s.pend n).getD e.1 []).drop (tornOf tn n)) := by
      conv => lhs; unfold tear
      rw [he]
    walk_at "st"
    refine c_ifX (fun v => ∃ c : Int, v = .int c ∧ 0 ≤ c ∧ c ≤ 32 ∧ c.toNat = tornOf tn n) (fun g Q' k => ?_) (fun g Q' k => ?_) ?_
    · rw [List.length_map] at g
      obtain ⟨c, hc⟩ : ∃ c, tn[n]? = some c := ⟨_, List.getElem?_eq_getElem (by omega)⟩
      walk_at "st"
      refine c_ixL (SqL.of ht2) (atI_nat (j := n) (by rw [List.getElem?_map, hc]; rfl)) ?_
      obtain ⟨c0, c1⟩ := okT_at hok hc
      exact k _ ⟨c, rfl, c0, c1, by unfold tornOf; rw [List.getD_eq_getElem?_getD, hc]; rfl⟩
    · rw [List.length_map] at g
      walk_at "st"
      exact k _ ⟨0, rfl, by omega, by omega, by unfold tornOf; rw [List.getD_eq_getElem?_getD, List.getElem?_eq_none (by omega)]; rfl⟩
    rintro _ ⟨c, rfl, c0, c1, cn⟩
    walk_at "st"
    refine c_slL (SqL.of f3') fun p3 H3 N3 => ?_
    rw [cutV_ints, cutL_to c0 (by omega), cn] at N3
    walk_at "st"
    refine g1 T (N3.keep hi2) ?_
    walk_at "st"
    refine c_ixL (SqL.of (N3.keep b1)) (atI_nat (j := e.1) (by rw [List.getElem?_map, o1]; rfl)) ?_
    walk_at "st"
    refine c_slL (SqL.of (N3.keep o2)) fun p4 H4 N4 => ?_
    rw [cutV_ints, cutL_from c0 (by omega), cn] at N4
    walk_at "st"
    refine c_addL (N4.keep N3.at_) N4.at_ (by rw [List.length_map, List.length_map, List.length_take, List.length_drop, sizeLine_eq]; omega) fun p5 H5 N5 => ?_
    rw [← List.map_append] at N5
    have k25 : Kp [] H2 H5 := (N3.kp.trans N4.kp).trans N5.kp
    walk_at "st"
    refine g1 T (k25.at0 hi2) ?_
    walk_at "st"
    refine c_setL (k25.at0 b1) (ixN_rng (by omega) (by rw [List.length_map, b2]; omega)) ?_
    rw [Int.toNat_natCast]
    walk_at "st"
    refine ⟨_, _, _, _, rfl, ((e1.trans N1.kp).trans k25.mono).trans (Kp.mut (by simp)), ?_⟩
    rw [et]
    refine (hB2.kp0 k25).put (k25.at0 b1) N5.at_ ?_
    rw [List.length_append, List.length_take, List.length_drop, ol, el]
    have : tornOf tn n ≤ 32 := by omega
    omega
  · rintro σ H1 ⟨v2, v3, v4, v5, rfl, e1, hB1⟩
    have hi1 := e1.at1 nBd.symm hi
    rw [k2] at hB1
    walk_at "st"
    walk_at "nw"
    intro Pn H2 N2
    walk_at "st"
    refine p2 T (N2.keep hi1) ?_
    walk_at "st"
    refine g3 T upd_same ?_
    walk_at "st"
    refine p3 T upd_same ?_
    rw [upd_upd]
    walk_at "st"
    refine p4 T upd_same ?_
    rw [upd_upd]
    walk_at "st"
    walk_at "nw"
    intro Tn H3 N3
    walk_at "st"
    refine p5 T (N3.keep upd_same) ?_
    walk_at "st"
    have nPn : Pn ≠ dk := (ne_of_none hi1 N2.fr).symm
    have nTn : Tn ≠ dk := (ne_of_none (show upd H2 dk _ dk = some _ from upd_same) N3.fr).symm
    have m1 : Kp [dk] H1 H2 := N2.kp
    have m2 : Kp [dk] H1 _ := (m1.trans (Kp.mut (ms := [dk]) (H := H2) (p := dk) (by simp))).trans (N3.kp (ms := [dk]))
    have m3 := m2.trans (Kp.mut (ms := [dk]) (p := dk) (o := .ins (He.ga K "Disk") dx (diskF (.ref B) (.ref Pn) (.int (s.cuts + 1)) .non (.ref Tn))) (by simp))
    have mu1 : ∀ a ∈ [dk], Mu H1 a := fun a ha => by rw [List.mem_singleton.mp ha]; exact Mu.ins hi1
    have hPn : H3 Pn = some (.lst []) := N3.keep (upd_other nPn N2.at_)
    have hBa : ∃ ps : List Addr, H1 B = some (.lst (ps.map V.ref)) ∧ ps.length = s.blocks.length := by
      obtain ⟨ps, h1, h2, _⟩ := hB1.ex
      exact ⟨ps, h1, by rw [h2, tear_len]⟩
    obtain ⟨ps, hb1, hb2⟩ := hBa
    have hB3 : H3 B = some (.lst (ps.map V.ref)) := m2 B _ (by simpa using nBd) hb1
    refine q _ Pn Tn ⟨?_, ⟨⟨dx, upd_same⟩, hB1.kp m3 mu1 (by simpa using nBd), PendAt.nil (by rw [upd_ne nPn]; exact hPn), by rw [upd_ne nTn]; exact N3.at_, ?_, ?_, ?_, ?_⟩, .inr ?_, .inr ?_⟩
    · refine Kp.trans (H1 := H1) (fun a o ha ho => e1 a o (by simp at ha ⊢; exact ha.2.1) ho) (fun a o ha ho => m3 a o (by simp at ha ⊢; exact ha.1) ho)
    · exact ne_of_none hb1 N2.fr
    · exact ne_of_none (upd_other nBd (N2.keep hb1)) N3.fr
    · exact ne_of_none (upd_other nPn N2.at_) N3.fr
    · refine ⟨(by show 8 ≤ (tear _ _ _ _).length; rw [tear_len]; exact big), (by show (tear _ _ _ _).length ≤ 400; rw [tear_len]; exact D.ok.most), tear_blk D.ok.len (fun e he => (D.ok.pnd e he).2) hok (fun e he => (D.ok.pnd e he).1) _, fun e he => (by cases he), rfl, Nat.zero_le _⟩
    · exact free1 e1 (fun z => by rw [z] at N2; exact absurd N2.fr (by rw [hb1]; simp)) N2.fr
    · have z := N3.fr
      rw [upd_ne nTn] at z
      have z2 := N2.free z
      exact free1 e1 (fun w => by rw [w, hb1] at z2; cases z2) z2
theorem M_Disk__cut (T : TX K mg) : MethAt P w K mg base CX0 "Disk" "_cut" 2 ["self", "torn"] (spDCut K) :=
  meth_of T 14 28 sc_Disk__cut bn_Disk__cut (by walk_at "len") (b_Disk__cut T)
end
end K42



namespace K42
open PySem L2 Sa
local macro_rules | `(tactic| walk_at "s1") => `(tactic| first | (with_reducible apply c_dgetK))
local macro_rules | `(tactic| walk_at "s1") => `(tactic| (with_reducible apply c_raiseO))
section
variable {P : Program} {w : World} {K : PySem.W.Frag} {mg : Str → Option Value} {base : Heap}
theorem DiskAt.nb {H : Hp} {dk B Pd To : Addr} {s : DiskS} (D : DiskAt K H dk B Pd To s) : B ≠ dk ∧ Pd ≠ dk ∧ To ≠ dk := by
  obtain ⟨dx, hi⟩ := D.ins
  refine ⟨fun z => ?_, fun z => ?_, fun z => ?_⟩
  · obtain ⟨ps, h1, _⟩ := D.blk.ex
    rw [z, hi] at h1; cases h1
  · obtain ⟨ps, h1, _⟩ := D.pnd.ex
    rw [z, hi] at h1; cases h1
  · have h1 := D.trn
    rw [z, hi] at h1; cases h1
/-- a write or a flush that counts -/
def spendS (s : DiskS) : DiskS := { s with left := s.left.map (· - 1) }
/-- the power is cut now -/
def CutE (K : PySem.W.Frag) (H : Hp) (E : XK) (dk B Pd T : Addr) (s : DiskS) : Prop := ∀ H' Pd' T', Did K H H' dk B Pd T Pd' T' (cutS s s.torn) → E (.ref (He.ga K "PowerCut")) none H'
theorem CutE.kp {H H1 : Hp} {E : XK} {dk B Pd T : Addr} {s : DiskS} (h : CutE K H E dk B Pd T s) (e : Kp [] H H1) : CutE K H1 E dk B Pd T s := fun H' Pd' T' d => h H' Pd' T' (d.of e)
def spSpend (K : PySem.W.Frag) : Sp := fun vs H Q E => ∃ (dk B Pd T : Addr) (s : DiskS), vs = [.ref dk] ∧ DiskAt K H dk B Pd T s ∧ (s.left = some 0 → CutE K H E dk B Pd T s) ∧
  (s.left ≠ some 0 → ∀ H', Kp [dk] H H' → DiskAt K H' dk B Pd T (spendS s) → Q .non H')
theorem sc_Disk__spend : FnScope ["self"] ["self"] (defScope s_Disk__spend) := ⟨rfl, rfl, rfl, by decide +kernel, rfl, by decide +kernel, by decide +kernel⟩
theorem bn_Disk__spend : BindM "_spend" "Disk._spend" s_Disk__spend ["self"] := fun _ _ _ _ _ _ us hl => match us, hl with | [_], _ => rfl
theorem b_Disk__spend (T : TX K mg) : BodyMX P w K mg base "Disk" "_spend" "Disk._spend" s_Disk__spend ["self"] 2 (spSpend K) := by
  intro cdv A outer s H vs Q E h X hr tk
  obtain ⟨dk, B, Pd, To, s, rfl, D, q1, q2⟩ := h
  have C_Disk := C_Disk T; have M_Disk__cut := M_Disk__cut (P := P) (w := w) (base := base) T
  refine ⟨_, (pss_cons (ps_if (pt_cmpR op_isU (pe_fldU (K := K) (pv 0)) pe_non (nomark _)) (pss_one ps_retN) pss_nil) (pss_cons (ps_if (pt_cmpR (op_eqU (K := K) hr.units) (pe_fldU (K := K) (pv 0)) pe_int (nomark _)) (pss_cons (ps_expr (pe_methS1 M_Disk__cut C_Disk hr at0 (pv 0) (pa_cons (pe_fldU (K := K) (pv 0)) pa_nil))) (pss_one (ps_raiseO (K := K) (T.exo 13 29) tk))) pss_nil) (pss_one (ps_fldU (K := K) (pv 0) (pe_op op_subU (pe_fldU (K := K) (pv 0)) pe_int))))), ?_⟩
  obtain ⟨dx, hi⟩ := D.ins
  walk_at "st"
  refine g4 T hi ?_
  walk_at "st"
  cases hl : s.left with
  | none =>
    walk_at "dc"
    refine q2 (by rw [hl]; simp) H Kp.refl ?_
    have : spendS s = s := by unfold spendS; rw [hl, Option.map_none, ← hl]
    rw [this]
    exact D
  | some l =>
    rw [hl] at hi
    change H dk = some (.ins (He.ga K "Disk") dx (diskF (.ref B) (.ref Pd) (.int s.cuts) (.int l) (.ref To))) at hi
    walk_at "dc"
    refine g4 T hi ?_
    walk_at "st"
    refine c_ite (fun g => ?_) (fun g => ?_)
    · subst g
      walk_at "st"
      refine rD D (by decide +kernel) ?_
      walk_at "st"
      refine g5 T hi ?_
      walk_at "st"
      refine ⟨dk, B, Pd, To, To, s, s.torn, rfl, D, D.trn, D.ok.trn, fun H1 Pn Tn d => ?_⟩
      walk_at "st"
      exact q1 hl H1 Pn Tn d
    · walk_at "st"
      refine g4 T hi ?_
      walk_at "st"
      refine p4 T hi ?_
      walk_at "st"
      refine q2 (by rw [hl]; simpa using g) _ (Kp.mut (by simp)) ?_
      obtain ⟨n1, n2, n3⟩ := D.nb
      have mu : ∀ a ∈ [dk], Mu H a := fun a ha => by rw [List.mem_singleton.mp ha]; exact Mu.ins hi
      have e : Kp [dk] H (upd H dk (.ins (He.ga K "Disk") dx (diskF (.ref B) (.ref Pd) (.int s.cuts) (.int (l - 1)) (.ref To)))) := Kp.mut (by simp)
      refine ⟨⟨dx, ?_⟩, D.blk.kp e mu (by simpa using n1), D.pnd.kp e mu (by simpa using n2), e To _ (by simpa using n3) D.trn, D.nBP, D.nBT, D.nPT, ⟨D.ok.big, D.ok.most, D.ok.len, D.ok.pnd, D.ok.trn, D.ok.few⟩⟩
      unfold spendS
      rw [hl]
      exact upd_same
theorem M_Disk__spend (T : TX K mg) : MethAt P w K mg base (L2.CX P w) "Disk" "_spend" 3 ["self"] (spSpend K) :=
  meth_ofX T 15 30 sc_Disk__spend bn_Disk__spend (by walk_at "len") (b_Disk__spend T)
/-- the disk does not hang on what lies at p -/
def Sep (K : PySem.W.Frag) (H : Hp) (p dk B Pd T : Addr) (s : DiskS) : Prop := ∀ ob, DiskAt K (upd H p ob) dk B Pd T s
theorem upd_kp {ms : List Addr} {H H' : Hp} {p : Addr} {ob : HO} (e : Kp ms H H') : Kp ms (upd H p ob) (upd H' p ob) := fun a o ha ho => by
  by_cases h : a = p
  · rw [h, upd_same] at ho ⊢; exact ho
  · rw [upd_ne h] at ho ⊢; exact e a o ha ho
theorem upd_swap {H : Hp} {p q : Addr} {u v : HO} (n : p ≠ q) : upd (upd H p u) q v = upd (upd H q v) p u := by
  funext a
  by_cases h1 : a = q
  · rw [h1, upd_same, upd_ne n.symm, upd_same]
  · by_cases h2 : a = p
    · rw [h2, upd_ne n, upd_same, upd_same]
    · rw [upd_ne h1, upd_ne h2, upd_ne h2, upd_ne h1]
def writeS (s : DiskS) (i : Nat) (b : Blk) : DiskS := { spendS s with pend := s.pend ++ [(i, b)] }
def spDWrite (K : PySem.W.Frag) : Sp := fun vs H Q E => ∃ (dk B Pd T p : Addr) (s : DiskS) (i : Int) (b : Blk), vs = [.ref dk, .int i, .ref p] ∧ DiskAt K H dk B Pd T s ∧ H p = some (.lst (b.map V.int)) ∧ p ≠ Pd ∧ s.pend.length < 1000000 ∧
  (inAt s i = false → RaisesE K H E "at") ∧ (inAt s i = true → isBlk b = false → RaisesE K H E "block") ∧
  (inAt s i = true → isBlk b = true → s.left = some 0 → CutE K H E dk B Pd T s) ∧
  (inAt s i = true → isBlk b = true → s.left ≠ some 0 → ∀ H', Kp [dk, Pd] H H' → DiskAt K H' dk B Pd T (writeS s i.toNat b) → (Sep K H p dk B Pd T s → Sep K H' p dk B Pd T (writeS s i.toNat b)) → Q .non H')
theorem sc_Disk_write : FnScope ["self", "at", "block"] ["self", "at", "block"] (defScope s_Disk_write) := ⟨rfl, rfl, rfl, by decide +kernel, rfl, by decide +kernel, by decide +kernel⟩
theorem bn_Disk_write : BindM "write" "Disk.write" s_Disk_write ["self", "at", "block"] := fun _ _ _ _ _ _ us hl => match us, hl with | [_, _, _], _ => rfl
theorem b_Disk_write (T : TX K mg) : BodyMX P w K mg base "Disk" "write" "Disk.write" s_Disk_write ["self", "at", "block"] 4 (spDWrite K) := by
  intro cdv A outer s H vs Q E h X hr tk
  obtain ⟨dk, B, Pd, To, p, s, i, b, rfl, D, hp, npd, few, q1, q2, q3, q4⟩ := h
  have C_Disk := C_Disk T; have D__is_block := D__is_block (P := P) (w := w) (base := base) T; have E_OutOfRange := E_OutOfRange (P := P) (w := w) (base := base) T; have M_Disk__check_at := M_Disk__check_at (P := P) (w := w) (base := base) T; have M_Disk__spend := M_Disk__spend (P := P) (w := w) (base := base) T
  refine ⟨_, (pss_cons (ps_expr (pe_methS1 M_Disk__check_at C_Disk hr (atW tk) (pv 0) (pa_cons (pv 1) pa_nil))) (pss_cons (ps_if (pt_not (pt_tru (K := K) (pe_callA D__is_block hr pass0 (pa_cons (pv 2) pa_nil)))) (pss_one (ps_raiseE (K := K) E_OutOfRange hr tk (pa_cons pe_str pa_nil))) pss_nil) (pss_cons (ps_expr (pe_methS0 M_Disk__spend C_Disk hr (atW tk) (pv 0))) (pss_one (ps_expr (pe_appendU (K := K) (pe_fldU (K := K) (pv 0)) (pe_tup (pa_cons (pv 1) (pa_cons (pe_callTy (cr_list (K := K)) rfl (T.free 17) (by decide +kernel) (pa_cons (pv 2) pa_nil)) pa_nil))))))))), ?_⟩
  walk_at "st"
  refine rD D (by decide +kernel) ?_
  walk_at "st"
  refine ⟨dk, B, Pd, To, s, i, rfl, D, fun ga => ?_, q1⟩
  walk_at "st"
  refine ⟨p, b, rfl, SqL.of hp, ?_⟩
  walk_at "st"
  refine c_iteNB (fun gb => ?_) (fun gb => ?_)
  · walk_at "st"
    exact c_err fun d H2 N => q2 ga gb d H2 N.kp N.at_
  walk_at "st"
  refine rD D (by decide +kernel) ?_
  walk_at "st"
  refine ⟨dk, B, Pd, To, s, rfl, D, fun g => q3 ga gb g, fun g H1 e1 D1 => ?_⟩
  obtain ⟨dx, hi⟩ := D.ins
  obtain ⟨dx1, hi1⟩ := D1.ins
  have bl : b.length = 32 := by unfold isBlk at gb; simp only [Bool.and_eq_true, decide_eq_true_eq] at gb; exact gb.1
  obtain ⟨i0, i1⟩ := inAt_of ga
  have npk : p ≠ dk := fun z => by rw [z, hi] at hp; cases hp
  have hp1 := e1.at1 npk hp
  walk_at "st"
  refine g2 T hi1 ?_
  obtain ⟨qs, k1, k2, k3⟩ := D1.pnd.ex
  have hpl : qs.length < 1000000 := by rw [k2]; exact few
  refine ⟨Or.inl ⟨rfl, _, SqL.of k1⟩, ?_⟩
  walk_at "st"
  refine c_listL (SqL.of hp1) fun pc H2 N2 => ?_
  walk_at "st"
  walk_at "nw"
  intro pt H3 N3
  refine ⟨Pd, _, _, rfl, rfl, N3.keep (N2.keep k1), by rw [List.length_map, sizeLine_eq]; omega, ?_⟩
  walk_at "st"
  have k13 : Kp [] H1 H3 := N2.kp.trans N3.kp
  obtain ⟨n1, n2, n3⟩ := D.nb
  have D3 := D1.kp0 k13
  have mu : ∀ a ∈ [Pd], Mu H3 a := fun a ha => by rw [List.mem_singleton.mp ha]; exact D3.pnd.mu
  have e3 : Kp [Pd] H3 (upd H3 Pd (.lst (qs.map V.ref ++ [.ref pt]))) := Kp.mut (by simp)
  have okw : OkS (writeS s i.toNat b) := by
    refine ⟨D.ok.big, D.ok.most, D.ok.len, fun e he => ?_, D.ok.trn, ?_⟩
    · rcases List.mem_append.mp he with he | he
      · exact D.ok.pnd e he
      · rw [List.mem_singleton.mp he]
        refine ⟨?_, bl⟩
        show i.toNat < s.blocks.length
        omega
    · show (s.pend ++ [(i.toNat, b)]).length ≤ 1000000
      rw [List.length_append, List.length_singleton]
      omega
  refine q4 ga gb g _ ?_ ⟨⟨dx1, e3 dk _ (by simpa using n2.symm) (k13.at0 hi1)⟩, D3.blk.kp e3 mu (by simpa using D.nBP), ?_, e3 To _ (by simpa using D.nPT.symm) D3.trn, D.nBP, D.nBT, D.nPT, okw⟩ (fun sep ob => ?_)
  · refine Kp.trans (H1 := H1) (fun a o ha ho => e1 a o (by simp at ha ⊢; exact ha.1) ho) ((k13.mono).trans (Kp.mut (by simp)))
  · have := D3.pnd.put (q := pt) (p := pc) (e := (i.toNat, b)) (k13.at0 k1) (SqT.of (by rw [Int.toNat_of_nonneg i0]; exact N3.at_)) (N3.keep N2.at_) bl
    exact this
  · have D0 := sep ob
    have k03 : Kp [dk] H H3 := e1.trans k13.mono
    have kg : Kp [dk] (upd H p ob) (upd H3 p ob) := upd_kp k03
    have mug : ∀ a ∈ [dk], Mu (upd H p ob) a := fun a ha => by
      obtain ⟨dx0, hi0⟩ := D0.ins
      rw [List.mem_singleton.mp ha]; exact Mu.ins hi0
    have npc : pc ≠ p := (ne_of_none hp1 N2.fr).symm
    have npt : pt ≠ p := (ne_of_none (N2.keep hp1) N3.fr).symm
    have pg := D0.pnd.kp kg mug (by simpa using n2)
    have bg := D0.blk.kp kg mug (by simpa using n1)
    have hB3 : upd H3 p ob Pd = some (.lst (qs.map V.ref)) := by rw [upd_ne npd.symm]; exact k13.at0 k1
    have put := pg.put (q := pt) (p := pc) (e := (i.toNat, b)) hB3 (SqT.of (by rw [upd_ne npt, Int.toNat_of_nonneg i0]; exact N3.at_)) (show upd H3 p ob pc = _ by rw [upd_ne npc]; exact N3.keep N2.at_) bl
    have mu3 : ∀ a ∈ [Pd], Mu (upd H3 p ob) a := fun a ha => by rw [List.mem_singleton.mp ha]; exact pg.mu
    have e4 : Kp [Pd] (upd H3 p ob) (upd (upd H3 p ob) Pd (.lst (qs.map V.ref ++ [.ref pt]))) := Kp.mut (by simp)
    rw [← upd_swap npd]
    have hT3 : upd H3 p ob To = some (.lst (s.torn.map V.int)) := kg To _ (by simpa using n3) D0.trn
    refine ⟨⟨dx1, e4 dk _ (by simpa using n2.symm) (by rw [upd_ne npk.symm]; exact k13.at0 hi1)⟩, bg.kp e4 mu3 (by simpa using D.nBP), put, e4 To _ (by simpa using D.nPT.symm) hT3, D.nBP, D.nBT, D.nPT, okw⟩
theorem M_Disk_write (T : TX K mg) : MethAt P w K mg base (L2.CX P w) "Disk" "write" 5 ["self", "at", "block"] (spDWrite K) :=
  meth_ofX T 16 31 sc_Disk_write bn_Disk_write (by walk_at "len") (b_Disk_write T)
theorem flush_blk {bs : List Blk} {pd : List Pnd} (hb : ∀ b ∈ bs, b.length = 32) (hp : ∀ e ∈ pd, e.2.length = 32) : ∀ i, ∀ b ∈ flush bs pd i, b.length = 32
  | 0 => hb
  | i + 1 => by
    unfold flush
    split
    · exact flush_blk hb hp i
    · rename_i e he
      intro b hbm
      rcases List.mem_or_eq_of_mem_set hbm with hbm | rfl
      · exact flush_blk hb hp i b hbm
      · exact hp e (List.mem_of_getElem? he)
def spDFlush (K : PySem.W.Frag) : Sp := fun vs H Q E => ∃ (dk B Pd T : Addr) (s : DiskS), vs = [.ref dk] ∧ DiskAt K H dk B Pd T s ∧ (s.left = some 0 → CutE K H E dk B Pd T s) ∧
  (s.left ≠ some 0 → ∀ H' Pd', Did K H H' dk B Pd T Pd' T (flushS (spendS s)) → Q .non H')
theorem sc_Disk_flush : FnScope ["self", "at", "block"] ["self"] (defScope s_Disk_flush) := ⟨rfl, rfl, rfl, by decide +kernel, rfl, by decide +kernel, by decide +kernel⟩
theorem bn_Disk_flush : BindM "flush" "Disk.flush" s_Disk_flush ["self"] := fun _ _ _ _ _ _ us hl => match us, hl with | [_], _ => rfl
theorem b_Disk_flush (T : TX K mg) : BodyMX P w K mg base "Disk" "flush" "Disk.flush" s_Disk_flush ["self", "at", "block"] 3 (spDFlush K) := by
  intro cdv A outer s H vs Q E h X hr tk
  obtain ⟨dk, B, Pd, To, s0, rfl, D0, q1, q2⟩ := h
  have C_Disk := C_Disk T; have M_Disk__spend := M_Disk__spend (P := P) (w := w) (base := base) T
  refine ⟨_, (pss_cons (ps_expr (pe_methS0 M_Disk__spend C_Disk hr (atW tk) (pv 0))) (pss_cons (ps_for (passes_of rfl) rfl (pi_listU (K := K) (pe_fldU (K := K) (pv 0))) (pg_tupU (K := K) (n := 2) rfl (pgs_cons (pg_name (i := 1) sc_Disk_flush.nd rfl (Or.inl rfl)) (pgs_cons (pg_name (i := 2) sc_Disk_flush.nd rfl (Or.inl rfl)) pgs_nil))) (pss_one (ps_asg (pv 2) (pg_sub (pe_fldU (K := K) (pv 0)) (pv 1) set_list)))) (pss_one (ps_fldU (K := K) (pv 0) (pe_lst pa_nil))))), ?_⟩
  walk_at "st"
  refine rD D0 (by decide +kernel) ?_
  walk_at "st"
  refine ⟨dk, B, Pd, To, s0, rfl, D0, q1, fun g H0 e0 D => ?_⟩
  generalize hs : spendS s0 = s at D
  have D0' := D0
  obtain ⟨dx, hi⟩ := D.ins
  obtain ⟨qs, k1, k2, k3⟩ := D.pnd.ex
  obtain ⟨nBd, nPd, nTd⟩ := D.nb
  walk_at "st"
  refine g2 T hi ?_
  have kq : SqL K H0 Pd (qs.map V.ref) := SqL.of k1
  refine ⟨Pd, rfl, ⟨_, kq⟩, ?_⟩
  refine forQ (itn_l (ys := qs) (u := V.ref)) (fun n σ H' => ∃ v1 v2, σ = [some (.ref dk), v1, v2] ∧ Kp [B] H0 H' ∧ BlksAt H' B (flush s.blocks s.pend n)) ⟨_, _, rfl, Kp.refl, D.blk⟩ (by rintro i σ H' ⟨_, _, _, e, _⟩; exact SqL.kp1 e D.nBP.symm kq) ?_ ?_
  · rintro n y σ H1 H2 hn ⟨v1, v2, rfl, e1, hB1⟩ ⟨rfl, z, hz, rfl⟩
    obtain ⟨e, he⟩ : ∃ e, s.pend[n]? = some e := ⟨_, List.getElem?_eq_getElem (by omega)⟩
    obtain ⟨q0, pb, f1, f2, f3⟩ := k3 n e he
    rw [hz] at f1
    obtain rfl := Option.some.inj f1
    obtain ⟨ein, el⟩ := D.ok.pnd e (List.mem_of_getElem? he)
    have km1 : Km H0 H2 := Km.of e1 (fun a ha => by rw [List.mem_singleton.mp ha]; exact D.blk.mu)
    have f2' := SqT.kt km1.kt f2
    have f3' := f3.km el km1
    have hi2 := e1.at1 nBd.symm hi
    obtain ⟨ps, b1, b2, b3⟩ := hB1.ex
    have tl := flush_len s.blocks s.pend n
    have et : flush s.blocks s.pend (n + 1) = (flush s.blocks s.pend n).set e.1 e.2 := by
      conv => lhs; unfold flush
      rw [he]
    walk_at "st"
    refine g1 T hi2 ?_
    walk_at "st"
    refine c_setL b1 (ixN_rng (by omega) (by rw [List.length_map, b2]; omega)) ?_
    rw [Int.toNat_natCast]
    walk_at "st"
    refine ⟨_, _, rfl, e1.trans (Kp.mut (by simp)), ?_⟩
    rw [et]
    exact hB1.put b1 f3' el
  · rintro σ H1 ⟨v1, v2, rfl, e1, hB1⟩
    have hi1 := e1.at1 nBd.symm hi
    rw [k2] at hB1
    walk_at "st"
    walk_at "nw"
    intro Pn H2 N2
    walk_at "st"
    refine p2 T (N2.keep hi1) ?_
    walk_at "st"
    have nPn : Pn ≠ dk := (ne_of_none hi1 N2.fr).symm
    have m3 : Kp [dk] H1 (upd H2 dk (.ins (He.ga K "Disk") dx (diskF (.ref B) (.ref Pn) (.int s.cuts) (optI s.left) (.ref To)))) := (N2.kp (ms := [dk])).trans (Kp.mut (by simp))
    have mu1 : ∀ a ∈ [dk], Mu H1 a := fun a ha => by rw [List.mem_singleton.mp ha]; exact Mu.ins hi1
    have hTo1 : H1 To = some (.lst (s.torn.map V.int)) := e1.at1 D.nBT.symm D.trn
    obtain ⟨ps, hb1, _⟩ := hB1.ex
    rw [hs] at q2
    refine q2 g _ Pn ⟨?_, ⟨⟨dx, upd_same⟩, hB1.kp m3 mu1 (by simpa using nBd), PendAt.nil (by rw [upd_ne nPn]; exact N2.at_), m3 To _ (by simpa using nTd) hTo1, ?_, D.nBT, ?_, ?_⟩, .inr ?_, .inl rfl⟩
    · refine Kp.trans (H1 := H0) (fun a o ha ho => e0 a o (by simp at ha ⊢; exact ha.1) ho) (Kp.trans (H1 := H1) (fun a o ha ho => e1 a o (by simp at ha ⊢; exact ha.2.1) ho) (fun a o ha ho => m3 a o (by simp at ha ⊢; exact ha.1) ho))
    · exact ne_of_none hb1 N2.fr
    · exact (ne_of_none hTo1 N2.fr).symm
    · exact ⟨(by show 8 ≤ (flush _ _ _).length; rw [flush_len]; exact D.ok.big), (by show (flush _ _ _).length ≤ 400; rw [flush_len]; exact D.ok.most), flush_blk D.ok.len (fun e he => (D.ok.pnd e he).2) _, fun e he => (by cases he), D.ok.trn, Nat.zero_le _⟩
    · have z := free1 e1 (fun w => by rw [w] at N2; exact absurd N2.fr (by rw [hb1]; simp)) N2.fr
      exact free1 e0 nPn z
theorem M_Disk_flush (T : TX K mg) : MethAt P w K mg base (L2.CX P w) "Disk" "flush" 4 ["self"] (spDFlush K) :=
  meth_ofX T 17 32 sc_Disk_flush bn_Disk_flush (by walk_at "len") (b_Disk_flush T)
def spDCutP (K : PySem.W.Frag) : Sp := fun vs H Q E => ∃ (dk B Pd T t : Addr) (s : DiskS) (tn : List Int), vs = [.ref dk, .ref t] ∧ DiskAt K H dk B Pd T s ∧ H t = some (.lst (tn.map V.int)) ∧ (okT tn = false → RaisesE K H E "torn") ∧ (okT tn = true → ∀ H' Pd' T', Did K H H' dk B Pd T Pd' T' (cutS s tn) → Q .non H')
theorem sc_Disk_cut_power : FnScope ["self", "torn"] ["self", "torn"] (defScope s_Disk_cut_power) := ⟨rfl, rfl, rfl, by decide +kernel, rfl, by decide +kernel, by decide +kernel⟩
theorem bn_Disk_cut_power : BindM "cut_power" "Disk.cut_power" s_Disk_cut_power ["self", "torn"] := fun _ _ _ _ _ _ us hl => match us, hl with | [_, _], _ => rfl
theorem b_Disk_cut_power (T : TX K mg) : BodyMX P w K mg base "Disk" "cut_power" "Disk.cut_power" s_Disk_cut_power ["self", "torn"] 4 (spDCutP K) := by
  intro cdv A outer s H vs Q E h X hr tk
  obtain ⟨dk, B, Pd, To, t, s, tn, rfl, D, ht, q1, q2⟩ := h
  have C_Disk := C_Disk T; have D__check_torn := D__check_torn (P := P) (w := w) (base := base) T; have M_Disk__cut := M_Disk__cut (P := P) (w := w) (base := base) T
  refine ⟨_, (pss_cons (ps_expr (pe_callX D__check_torn hr tk (pa_cons (pv 1) pa_nil))) (pss_one (ps_expr (pe_methS1 M_Disk__cut C_Disk hr at0 (pv 0) (pa_cons (pe_callTy (cr_list (K := K)) rfl (T.free 17) (by decide +kernel) (pa_cons (pv 1) pa_nil)) pa_nil))))), ?_⟩
  walk_at "st"
  refine ⟨t, tn, rfl, SqL.of ht, fun g => ?_, q1⟩
  walk_at "st"
  refine rD D (by decide +kernel) ?_
  walk_at "st"
  refine c_listL (SqL.of ht) fun pc H2 N2 => ?_
  walk_at "st"
  refine ⟨dk, B, Pd, To, pc, s, tn, rfl, D.kp0 N2.kp, N2.at_, g, fun H3 Pn Tn d => ?_⟩
  walk_at "st"
  exact q2 g H3 Pn Tn (d.of N2.kp)
theorem M_Disk_cut_power (T : TX K mg) : MethAt P w K mg base (L2.CX P w) "Disk" "cut_power" 5 ["self", "torn"] (spDCutP K) :=
  meth_ofX T 20 35 sc_Disk_cut_power bn_Disk_cut_power (by walk_at "len") (b_Disk_cut_power T)
end
end K42



namespace K42
open PySem L2 Sa
section
variable {P : Program} {w : World} {K : PySem.W.Frag} {mg : Str → Option Value} {base : Heap}
def schedS (s : DiskS) (many : Int) (tn : List Int) : DiskS := { s with left := some many, torn := tn }
def spSched (K : PySem.W.Frag) : Sp := fun vs H Q E => ∃ (dk B Pd T t : Addr) (s : DiskS) (many : Int) (tn : List Int), vs = [.ref dk, .int many, .ref t] ∧ DiskAt K H dk B Pd T s ∧ H t = some (.lst (tn.map V.int)) ∧
  (¬ (0 ≤ many ∧ many ≤ 100000) → RaisesE K H E "many") ∧ (0 ≤ many ∧ many ≤ 100000 → okT tn = false → RaisesE K H E "torn") ∧ (0 ≤ many ∧ many ≤ 100000 → okT tn = true → ∀ H' T', Kp [dk] H H' → DiskAt K H' dk B Pd T' (schedS s many tn) → H T' = none → Q .non H')
theorem sc_Disk_schedule_cut : FnScope ["self", "many", "torn"] ["self", "many", "torn"] (defScope s_Disk_schedule_cut) := ⟨rfl, rfl, rfl, by decide +kernel, rfl, by decide +kernel, by decide +kernel⟩
theorem bn_Disk_schedule_cut : BindM "schedule_cut" "Disk.schedule_cut" s_Disk_schedule_cut ["self", "many", "torn"] := fun _ _ _ _ _ _ us hl => match us, hl with | [_, _, _], _ => rfl
theorem b_Disk_schedule_cut (T : TX K mg) : BodyMX P w K mg base "Disk" "schedule_cut" "Disk.schedule_cut" s_Disk_schedule_cut ["self", "many", "torn"] 4 (spSched K) := by
  intro cdv A outer s H vs Q E h X hr tk
  obtain ⟨dk, B, Pd, To, t, s, many, tn, rfl, D, ht, q1, q2, q3⟩ := h
  have D__check_torn := D__check_torn (P := P) (w := w) (base := base) T; have E_OutOfRange := E_OutOfRange (P := P) (w := w) (base := base) T
  refine ⟨_, (pss_cons (ps_if (pt_not (pt_chain op_leU op_leU pe_int (pv 1) (pe_gInt (T.int 36)))) (pss_one (ps_raiseE (K := K) E_OutOfRange hr tk (pa_cons pe_str pa_nil))) pss_nil) (pss_cons (ps_expr (pe_callX D__check_torn hr tk (pa_cons (pv 2) pa_nil))) (pss_cons (ps_fldU (K := K) (pv 0) (pv 1)) (pss_one (ps_fldU (K := K) (pv 0) (pe_callTy (cr_list (K := K)) rfl (T.free 17) (by decide +kernel) (pa_cons (pv 2) pa_nil))))))), ?_⟩
  walk_at "st"
  refine c_ite (fun ga => ?_) (fun ga => ?_)
  rotate_left
  · walk_at "st"
    exact c_err fun d H2 N => q1 (by omega) d H2 N.kp N.at_
  walk_at "st"
  refine c_iteN (fun gb => ?_) (fun gb => ?_)
  · walk_at "st"
    exact c_err fun d H2 N => q1 (by omega) d H2 N.kp N.at_
  walk_at "st"
  refine ⟨t, tn, rfl, SqL.of ht, fun g => ?_, q2 ⟨ga, gb⟩⟩
  obtain ⟨dx, hi⟩ := D.ins
  walk_at "st"
  refine p4 T hi ?_
  walk_at "st"
  have ntk : t ≠ dk := fun z => by rw [z, hi] at ht; cases ht
  refine c_listL (SqL.of (upd_other ntk ht)) fun Tn H2 N2 => ?_
  walk_at "st"
  refine p5 T (N2.keep upd_same) ?_
  walk_at "st"
  have nTn : Tn ≠ dk := (ne_of_none (show upd H dk _ dk = some _ from upd_same) N2.fr).symm
  have e : Kp [dk] H (upd H2 dk (.ins (He.ga K "Disk") dx (diskF (.ref B) (.ref Pd) (.int s.cuts) (.int many) (.ref Tn)))) := ((Kp.mut (ms := [dk]) (by simp)).trans (N2.kp (ms := [dk]))).trans (Kp.mut (by simp))
  have mu : ∀ a ∈ [dk], Mu H a := fun a ha => by rw [List.mem_singleton.mp ha]; exact Mu.ins hi
  obtain ⟨n1, n2, n3⟩ := D.nb
  have frT : H Tn = none := by
    have z := N2.fr
    rw [upd_ne nTn] at z
    exact z
  obtain ⟨ps, hb1, _⟩ := D.blk.ex
  obtain ⟨qs, hq1, _⟩ := D.pnd.ex
  exact q3 ⟨ga, gb⟩ g _ Tn e ⟨⟨dx, upd_same⟩, D.blk.kp e mu (by simpa using n1), D.pnd.kp e mu (by simpa using n2), by rw [upd_ne nTn]; exact N2.at_, D.nBP, ne_of_none hb1 frT, ne_of_none hq1 frT, ⟨D.ok.big, D.ok.most, D.ok.len, D.ok.pnd, g, D.ok.few⟩⟩ frT
theorem M_Disk_schedule_cut (T : TX K mg) : MethAt P w K mg base (L2.CX P w) "Disk" "schedule_cut" 5 ["self", "many", "torn"] (spSched K) :=
  meth_ofX T 21 37 sc_Disk_schedule_cut bn_Disk_schedule_cut (by walk_at "len") (b_Disk_schedule_cut T)
end
end K42



namespace K42
open PySem L2 Sa
local macro_rules | `(tactic| walk_at "s1") => `(tactic| first | (with_reducible apply c_dgetK))
local macro_rules | `(tactic| walk_at "s1") => `(tactic| (with_reducible apply c_raiseO))
section
variable {P : Program} {w : World} {K : PySem.W.Frag} {mg : Str → Option Value} {base : Heap}
theorem rep_int (n : Nat) (x : Int) : (List.replicate n [V.int x]).flatten = (List.replicate n x).map V.int := by
  rw [List.map_replicate]
  induction n with
  | zero => rfl
  | succ m ih => rw [List.replicate_succ, List.flatten_cons, ih, List.replicate_succ]; rfl
theorem okT_all {tn : List Int} (h : ∀ z ∈ tn, 0 ≤ z ∧ z ≤ 32) : okT tn = true := by
  unfold okT
  rw [List.all_eq_true]
  intro z hz
  have := h z hz
  simp [this.1, this.2]
def spTorn (K : PySem.W.Frag) : Sp := fun vs H Q _ => ∃ (b d : Addr) (m : Int), vs = [.ref b, .int m] ∧ Bx H b d ∧ 0 ≤ m ∧ m ≤ 1000 ∧ ∀ p tn H', okT tn = true → Kp [b] H H' → Bx H' b d → H p = none → H' p = some (.lst (tn.map V.int)) → tn.length ≤ 1000 → Q (.ref p) H'
theorem sc__law_torn : FnScope ["_law_box", "_law_many", "_law_kind", "_law_k"] ["_law_box", "_law_many"] (defScope s__law_torn) := ⟨rfl, rfl, rfl, by decide +kernel, rfl, by decide +kernel, by decide +kernel⟩
theorem bn__law_torn : BindN "_law_torn" s__law_torn ["_law_box", "_law_many"] := fun _ _ _ _ _ _ us hl => match us, hl with | [_, _], _ => rfl
theorem b__law_torn (T : TX K mg) : Body P w K mg base "_law_torn" s__law_torn ["_law_box", "_law_many", "_law_kind", "_law_k"] 2 (spTorn K) := by
  intro cdv A outer s H vs Q E h X hr
  obtain ⟨b, d, m, rfl, B, m0, m1, q⟩ := h
  have D__law_draw := D__law_draw (P := P) (w := w) (base := base) T
  refine ⟨_, (pss_cons (ps_set (i := 2) sc__law_torn.nd rfl (Or.inl rfl) (pe_callA D__law_draw hr pass0 (pa_cons (pv 0) (pa_cons pe_int pa_nil)))) (pss_cons (ps_if (pt_cmpR (op_eqU (K := K) hr.units) (pv 2) pe_int (nomark _)) (pss_one (ps_ret (pe_lst pa_nil))) pss_nil) (pss_cons (ps_if (pt_cmpR (op_eqU (K := K) hr.units) (pv 2) pe_int (nomark _)) (pss_one (ps_ret (pe_op (op_mulU (K := K)) (pe_lst (pa_cons pe_int pa_nil)) (pv 1)))) pss_nil) (pss_cons (ps_if (pt_cmpR (op_eqU (K := K) hr.units) (pv 2) pe_int (nomark _)) (pss_one (ps_ret (pe_lc (own := [("_law_k", 3)]) rfl sc__law_torn.nd (pi_range1 rfl (T.free 6) (pa_cons (pv 1) pa_nil)) (blkOk_by (N := ["_law_box", "_law_many", "_law_kind", "_law_k"]) (sc := defScope s__law_torn) (by decide +kernel)) (fun _ _ _ _ _ => (pg_name (i := 3) sc__law_torn.nd rfl (Or.inl rfl))) (fun _ _ _ _ _ => pts_nil) (fun _ _ _ _ _ => (pe_op (op_mulU (K := K)) pe_int (pe_callA D__law_draw hr pass0 (pa_cons (pv 0) (pa_cons pe_int pa_nil)))))))) pss_nil) (pss_one (ps_ret (pe_lc (own := [("_law_k", 3)]) rfl sc__law_torn.nd (pi_range1 rfl (T.free 6) (pa_cons (pv 1) pa_nil)) (blkOk_by (N := ["_law_box", "_law_many", "_law_kind", "_law_k"]) (sc := defScope s__law_torn) (by decide +kernel)) (fun _ _ _ _ _ => (pg_name (i := 3) sc__law_torn.nd rfl (Or.inl rfl))) (fun _ _ _ _ _ => pts_nil) (fun _ _ _ _ _ => (pe_callA D__law_draw hr pass0 (pa_cons (pv 0) (pa_cons pe_int pa_nil))))))))))), ?_⟩
  obtain ⟨m, rfl⟩ := Int.eq_ofNat_of_zero_le m0
  walk_at "st"
  refine ⟨b, d, 4, rfl, B, by decide, fun n1 H1 n10 n11 e1 B1 => ?_⟩
  have frb : ∀ {p : Addr}, H1 p = none → H p = none := fun hp => by
    cases hz : H _ with
    | none => rfl
    | some o =>
      by_cases e : ‹Addr› = b
      · subst e
        obtain ⟨_, _, hb, _⟩ := B1.ex
        rw [hp] at hb; cases hb
      · exact absurd (e1.at1 e hz) (by rw [hp]; simp)
  walk_at "st"
  refine c_ite (fun g => ?_) (fun g => ?_)
  · walk_at "st"
    walk_at "nw"
    intro p H2 N2
    exact q p [] H2 rfl (e1.trans N2.kp) (B1.nw N2) (frb N2.fr) N2.at_ (by simp)
  walk_at "st"
  refine c_ite (fun g => ?_) (fun g => ?_)
  · walk_at "st"
    walk_at "nw"
    intro p H2 N2
    walk_at "st"
    refine c_mulL N2.at_ (by omega) (by omega) (by rw [sizeLine_eq]; simp; omega) fun p3 H3 N3 => ?_
    rw [Int.toNat_natCast, rep_int] at N3
    refine q p3 _ H3 (okT_all fun z hz => by rw [(List.mem_replicate.mp hz).2]; decide) ((e1.trans N2.kp).trans N3.kp) ((B1.nw N2).nw N3) (frb (N2.free N3.fr)) N3.at_ (by rw [List.length_replicate]; omega)
  walk_at "st"
  refine c_ite (fun g => ?_) (fun g => ?_)
  · walk_at "st"
    refine lcR_draw V.int (fun z => 0 ≤ z ∧ z ≤ 32) B1 (by omega) (fun i H' R S hi e B3 k => ?_) (fun Dl H' ns hD hlen hP e B3 hacc => ?_)
    · walk_at "st"
      refine ⟨rfl, ?_⟩
      walk_at "st"
      refine ⟨b, d, 2, rfl, B3, by decide, fun n H4 n40 n41 e4 B4 => ?_⟩
      walk_at "st"
      exact k _ H4 (by omega) e4 B4
    · exact q Dl ns H' (okT_all hP) (e1.trans e) B3 (frb hD) hacc (by omega)
  · walk_at "st"
    refine lcR_draw V.int (fun z => 0 ≤ z ∧ z ≤ 32) B1 (by omega) (fun i H' R S hi e B3 k => ?_) (fun Dl H' ns hD hlen hP e B3 hacc => ?_)
    · walk_at "st"
      refine ⟨rfl, ?_⟩
      walk_at "st"
      refine ⟨b, d, 33, rfl, B3, by decide, fun n H4 n40 n41 e4 B4 => ?_⟩
      walk_at "st"
      exact k _ H4 (by omega) e4 B4
    · exact q Dl ns H' (okT_all hP) (e1.trans e) B3 (frb hD) hacc (by omega)
theorem D__law_torn (T : TX K mg) : DefAt P w K mg base CX0 "_law_torn" 3 ["_law_box", "_law_many"] (spTorn K) :=
  def_of T 5 10 sc__law_torn bn__law_torn (by walk_at "len") (b__law_torn T)
end
end K42



namespace K42
open PySem L2 Sa
local macro_rules | `(tactic| walk_at "s1") => `(tactic| first | (with_reducible apply c_dgetK))
local macro_rules | `(tactic| walk_at "s1") => `(tactic| (with_reducible apply c_raiseO))
section
variable {K : PySem.W.Frag}
def Refused (K : PySem.W.Frag) (H : Hp) (Q : VK) (nm : Str) : Prop := ∀ p H', Kp [] H H' → SqT K H' p ([("refused" : Str), nm].map V.str) → Q (.ref p) H'
theorem c_neRef {H : Hp} {Q : VK} {a b : Addr} {n1 n2 : Str} (hp : SqT K H a ([("refused" : Str), n1].map V.str)) (hq : SqT K H b [.str "refused", .str n2]) (h1 : okS n1 = true) (h2 : okS n2 = true) (q : Q (.bl (!decide (n1 = n2))) H) : rNeU K (.ref a) (.ref b) H Q := by
  have r0 : okS ("refused" : Str) = true := by decide +kernel
  have ok : ∀ {n : Str}, okS n = true → ∀ y ∈ ([("refused" : Str), n] : List Str), okS y = true := fun h y hy => by
    simp only [List.mem_cons, List.not_mem_nil, or_false] at hy
    rcases hy with rfl | rfl
    · exact r0
    · exact h
  refine c_neTS hp (zs := [("refused" : Str), n2]) hq (ok h1) (ok h2) ?_
  have : decide ([("refused" : Str), n1] = [("refused" : Str), n2]) = decide (n1 = n2) := by congr 1; simp
  rw [this]
  exact q
theorem c_eqRef {H : Hp} {Q : VK} {a b : Addr} {n1 n2 : Str} (hp : SqT K H a ([("refused" : Str), n1].map V.str)) (hq : SqT K H b [.str "refused", .str n2]) (h1 : okS n1 = true) (h2 : okS n2 = true) (q : Q (.bl (decide (n1 = n2))) H) : rEqU K (.ref a) (.ref b) H Q := by
  have r0 : okS ("refused" : Str) = true := by decide +kernel
  have ok : ∀ {n : Str}, okS n = true → ∀ y ∈ ([("refused" : Str), n] : List Str), okS y = true := fun h y hy => by
    simp only [List.mem_cons, List.not_mem_nil, or_false] at hy
    rcases hy with rfl | rfl
    · exact r0
    · exact h
  refine c_eqTS hp (zs := [("refused" : Str), n2]) hq (ok h1) (ok h2) ?_
  have : decide ([("refused" : Str), n1] = [("refused" : Str), n2]) = decide (n1 = n2) := by congr 1; simp
  rw [this]
  exact q
/-- the law's row of writes that wait -/
structure LPAt (H : Hp) (Pd : Addr) (pd : List Pnd) : Prop where
  ex : ∃ qs : List Addr, H Pd = some (.lst (qs.map V.ref)) ∧ qs.length = pd.length ∧ ∀ (i : Nat) (e : Pnd), pd[i]? = some e → ∃ q p, qs[i]? = some q ∧ H q = some (.lst [.int e.1, .ref p]) ∧ Ints H p e.2
  len : ∀ e ∈ pd, e.2.length = 32
theorem LPAt.mu {H : Hp} {B : Addr} {bs : List Pnd} (h : LPAt H B bs) : Mu H B := by
  obtain ⟨ps, h1, _⟩ := h.ex
  exact Mu.refs h1
theorem LPAt.km {H H' : Hp} {B : Addr} {bs : List Pnd} (h : LPAt H B bs) (e : Km H H') (hB : ∀ o, H B = some o → H' B = some o) : LPAt H' B bs := by
  obtain ⟨ps, h1, h2, h3⟩ := h.ex
  exact ⟨⟨ps, hB _ h1, h2, fun i b hb => by obtain ⟨q, p, g1, g2, g3⟩ := h3 i b hb; exact ⟨q, p, g1, e.ki _ _ _ g2, g3.km (h.len b (List.mem_of_getElem? hb)) e⟩⟩, h.len⟩
theorem LPAt.nil {H : Hp} {Pd : Addr} (h : H Pd = some (.lst [])) : LPAt H Pd [] := ⟨⟨[], h, rfl, by simp⟩, by simp⟩
theorem LPAt.put {H : Hp} {Pd q p : Addr} {pd : List Pnd} {qs : List Addr} {e : Pnd} (h : LPAt H Pd pd) (hB : H Pd = some (.lst (qs.map V.ref))) (hq : H q = some (.lst [.int e.1, .ref p])) (hp : Ints H p e.2) (hl : e.2.length = 32) : LPAt (upd H Pd (.lst (qs.map V.ref ++ [.ref q]))) Pd (pd ++ [e]) := by
  obtain ⟨ps', h1, h2, h3⟩ := h.ex
  have ee : ps' = qs := by
    rw [hB] at h1
    injection h1 with h1
    injection h1 with h1
    exact (List.map_inj_right (f := V.ref) (fun a b e => by injection e)).mp h1.symm
  subst ee
  have km : Km H (upd H Pd (.lst (ps'.map V.ref ++ [.ref q]))) := Km.of (Kp.mut (ms := [Pd]) (by simp)) (fun a ha => by rw [List.mem_singleton.mp ha]; exact h.mu)
  refine ⟨⟨ps' ++ [q], by rw [upd_same, List.map_append]; rfl, by rw [List.length_append, List.length_append, h2]; rfl, fun j c hc => ?_⟩, fun c hc => ?_⟩
  · by_cases hj : j < pd.length
    · rw [List.getElem?_append_left hj] at hc
      rw [List.getElem?_append_left (by omega)]
      obtain ⟨q', p', g1, g2, g3⟩ := h3 j c hc
      exact ⟨q', p', g1, km.ki _ _ _ g2, g3.km (h.len c (List.mem_of_getElem? hc)) km⟩
    · rw [List.getElem?_append_right (by omega)] at hc
      rw [List.getElem?_append_right (by omega)]
      have hj0 : j - pd.length = 0 := by
        cases hz : j - pd.length with
        | zero => rfl
        | succ n => rw [hz] at hc; simp at hc
      rw [hj0] at hc
      have : j - ps'.length = 0 := by omega
      rw [this]
      simp only [List.getElem?_cons_zero, Option.some.injEq] at hc
      subst hc
      exact ⟨q, p, rfl, km.ki _ _ _ hq, hp.km hl km⟩
  · rcases List.mem_append.mp hc with hc | hc
    · exact h.len c hc
    · rw [List.mem_singleton.mp hc]; exact hl
end
theorem set_same {bs : List Blk} {i : Nat} (h : i < bs.length) : bs.set i (bs.getD i []) = bs := by
  apply List.ext_getElem?
  intro j
  rw [List.getElem?_set]
  by_cases hij : i = j
  · subst hij
    rw [if_pos rfl, if_pos h]
    exact (getD_blk h).symm
  · rw [if_neg hij]
theorem tear_more {tn : List Int} {bs : List Blk} {pd : List Pnd} (hi : ∀ e ∈ pd, e.1 < bs.length) (n : Nat) (h : tn.length ≤ n) : ∀ k, tear tn bs pd (n + k) = tear tn bs pd n
  | 0 => rfl
  | k + 1 => by
    have ih := tear_more hi n h k
    show (match pd[n + k]? with
      | none => tear tn bs pd (n + k)
      | some e => (tear tn bs pd (n + k)).set e.1 (e.2.take (tornOf tn (n + k)) ++ ((tear tn bs pd (n + k)).getD e.1 []).drop (tornOf tn (n + k)))) = _
    split
    · exact ih
    · rename_i e he
      have z : tornOf tn (n + k) = 0 := by
        unfold tornOf
        rw [List.getD_eq_getElem?_getD, List.getElem?_eq_none (by omega)]
        rfl
      rw [z, List.take_zero, List.nil_append, List.drop_zero, set_same (by rw [tear_len]; exact hi e (List.mem_of_getElem? he)), ih]
theorem tear_min {tn : List Int} {bs : List Blk} {pd : List Pnd} (hi : ∀ e ∈ pd, e.1 < bs.length) : tear tn bs pd (min tn.length pd.length) = tear tn bs pd pd.length := by
  by_cases h : tn.length ≤ pd.length
  · rw [Nat.min_eq_left h]
    have := tear_more (tn := tn) hi tn.length (Nat.le_refl _) (pd.length - tn.length)
    rw [show tn.length + (pd.length - tn.length) = pd.length by omega] at this
    exact this.symm
  · rw [Nat.min_eq_right (by omega)]
structure LInv (K : PySem.W.Frag) (H : Hp) (dk B Pd To LB LP b d : Addr) (s : DiskS) (bs : List Blk) (pd : List Pnd) : Prop where
  D : DiskAt K H dk B Pd To s
  X : Bx H b d
  lb : BlksAt H LB bs
  lp : LPAt H LP pd
  ap : ∀ a ∈ [LB, LP, b, d], a ∉ [dk, B, Pd, To]
  n1 : LB ≠ LP
  n2 : LB ≠ b
  n3 : LB ≠ d
  n4 : LP ≠ b
  n5 : LP ≠ d
section
variable {K : PySem.W.Frag} {H H' : Hp} {dk B Pd To LB LP b d : Addr} {s : DiskS} {bs : List Blk} {pd : List Pnd}
theorem LInv.kp0 (h : LInv K H dk B Pd To LB LP b d s bs pd) (e : Kp [] H H') : LInv K H' dk B Pd To LB LP b d s bs pd :=
  ⟨h.D.kp0 e, h.X.kp0 e, h.lb.kp0 e, h.lp.km (Km.kp e) (fun o ho => e.at0 ho), h.ap, h.n1, h.n2, h.n3, h.n4, h.n5⟩
theorem LInv.draw (h : LInv K H dk B Pd To LB LP b d s bs pd) (e : Kp [b] H H') (X : Bx H' b d) : LInv K H' dk B Pd To LB LP b d s bs pd := by
  have mu : ∀ a ∈ [b], Mu H a := fun a ha => by rw [List.mem_singleton.mp ha]; exact Mu.box h.X
  exact ⟨h.D.kp e mu (fun a ha hb => h.ap b (by simp) (by rw [← List.mem_singleton.mp hb]; exact ha)), X, h.lb.kp e mu (by simpa using h.n2), h.lp.km (Km.of e mu) (fun o ho => e.at1 h.n4 ho), h.ap, h.n1, h.n2, h.n3, h.n4, h.n5⟩
theorem box_kp {ms : List Addr} (X : Bx H b d) (e : Kp ms H H') (hb : b ∉ ms) (hd : d ∉ ms) : Bx H' b d := by
  obtain ⟨at_, ds, h1, h2, h3⟩ := X.ex
  exact ⟨at_, ds, e _ _ hb h1, e _ _ hd h2, h3⟩
theorem LInv.did {Pn Tn : Addr} {s' : DiskS} (h : LInv K H dk B Pd To LB LP b d s bs pd) (g : Did K H H' dk B Pd To Pn Tn s') : LInv K H' dk B Pn Tn LB LP b d s' bs pd := by
  have mu := h.D.mus
  have nin : ∀ a ∈ [LB, LP, b, d], a ∉ [dk, B, Pd] := fun a ha hm => h.ap a ha (by simp only [List.mem_cons, List.not_mem_nil, or_false] at hm ⊢; rcases hm with h | h | h <;> simp [h])
  obtain ⟨_, _, hb, hd, _⟩ := h.X.ex
  obtain ⟨ps, hlb, _⟩ := h.lb.ex
  obtain ⟨qs, hlp, _⟩ := h.lp.ex
  have some' : ∀ a ∈ [LB, LP, b, d], ∃ o, H a = some o := fun a ha => by
    simp only [List.mem_cons, List.not_mem_nil, or_false] at ha
    rcases ha with rfl | rfl | rfl | rfl <;> exact ⟨_, ‹_›⟩
  refine ⟨g.at_, box_kp h.X g.kp (nin b (by simp)) (nin d (by simp)), h.lb.kp g.kp mu (nin LB (by simp)), h.lp.km (Km.of g.kp mu) (fun o ho => g.kp _ _ (nin LP (by simp)) ho), fun a ha hm => ?_, h.n1, h.n2, h.n3, h.n4, h.n5⟩
  obtain ⟨o, ho⟩ := some' a ha
  have old := h.ap a ha
  simp only [List.mem_cons, List.not_mem_nil, or_false, not_or] at old hm
  rcases hm with rfl | rfl | rfl | rfl
  · exact old.1 rfl
  · exact old.2.1 rfl
  · rcases g.fp with e | e
    · exact old.2.2.1 e
    · rw [e] at ho; cases ho
  · rcases g.ft with e | e
    · exact old.2.2.2 e
    · rw [e] at ho; cases ho
theorem LInv.blks {bs' : List Blk} (h : LInv K H dk B Pd To LB LP b d s bs pd) (e : Kp [LB] H H') (g : BlksAt H' LB bs') : LInv K H' dk B Pd To LB LP b d s bs' pd := by
  have mu : ∀ a ∈ [LB], Mu H a := fun a ha => by rw [List.mem_singleton.mp ha]; exact h.lb.mu
  exact ⟨h.D.kp e mu (fun a ha hb => h.ap LB (by simp) (by rw [← List.mem_singleton.mp hb]; exact ha)), box_kp h.X e (by simpa using h.n2.symm) (by simpa using h.n3.symm), g, h.lp.km (Km.of e mu) (fun o ho => e.at1 h.n1.symm ho), h.ap, h.n1, h.n2, h.n3, h.n4, h.n5⟩
theorem LInv.pnds {pd' : List Pnd} (h : LInv K H dk B Pd To LB LP b d s bs pd) (e : Kp [LP] H H') (g : LPAt H' LP pd') : LInv K H' dk B Pd To LB LP b d s bs pd' := by
  have mu : ∀ a ∈ [LP], Mu H a := fun a ha => by rw [List.mem_singleton.mp ha]; exact h.lp.mu
  exact ⟨h.D.kp e mu (fun a ha hb => h.ap LP (by simp) (by rw [← List.mem_singleton.mp hb]; exact ha)), box_kp h.X e (by simpa using h.n4.symm) (by simpa using h.n5.symm), h.lb.kp e mu (by simpa using h.n1), g, h.ap, h.n1, h.n2, h.n3, h.n4, h.n5⟩
theorem LInv.none {LP' : Addr} (h : LInv K H dk B Pd To LB LP b d s bs pd) (N : New H LP' (.lst []) H') : LInv K H' dk B Pd To LB LP' b d s bs [] := by
  have h2 := h.kp0 N.kp
  obtain ⟨_, _, hb, hd, _⟩ := h.X.ex
  obtain ⟨ps, hlb, _⟩ := h.lb.ex
  refine ⟨h2.D, h2.X, h2.lb, LPAt.nil N.at_, fun a ha hm => ?_, ne_of_none hlb N.fr, h.n2, h.n3, (ne_of_none hb N.fr).symm, (ne_of_none hd N.fr).symm⟩
  simp only [List.mem_cons, List.not_mem_nil, or_false] at ha
  rcases ha with rfl | rfl | rfl | rfl
  · exact h.ap _ (by simp) hm
  · obtain ⟨dx, hi⟩ := h.D.ins
    obtain ⟨ps2, hB, _⟩ := h.D.blk.ex
    obtain ⟨qs2, hP, _⟩ := h.D.pnd.ex
    have hT := h.D.trn
    have f := N.fr
    simp only [List.mem_cons, List.not_mem_nil, or_false] at hm
    rcases hm with rfl | rfl | rfl | rfl
    · rw [hi] at f; cases f
    · rw [hB] at f; cases f
    · rw [hP] at f; cases f
    · rw [hT] at f; cases f
  · exact h.ap _ (by simp) hm
  · exact h.ap _ (by simp) hm
end
end K42



namespace K42
open PySem L2 Sa
local macro_rules | `(tactic| walk_at "s1") => `(tactic| first | (with_reducible apply c_dgetK))
local macro_rules | `(tactic| walk_at "s1") => `(tactic| (with_reducible apply c_raiseO))
section
variable {P : Program} {w : World} {K : PySem.W.Frag} {mg : Str → Option Value} {base : Heap}
theorem Refused.kp {H H1 : Hp} {Q : VK} {nm : Str} (h : Refused K H Q nm) (e : Kp [] H H1) : Refused K H1 Q nm := fun p H' e' hp => h p H' (e.trans e') hp
def spLSched (K : PySem.W.Frag) : Sp := fun vs H Q E => ∃ (dk B Pd T t : Addr) (s : DiskS) (many : Int) (tn : List Int), vs = [.ref dk, .int many, .ref t] ∧ DiskAt K H dk B Pd T s ∧ H t = some (.lst (tn.map V.int)) ∧
  (¬ (0 ≤ many ∧ many ≤ 100000) → Refused K H Q "many") ∧ (0 ≤ many ∧ many ≤ 100000 → okT tn = false → Refused K H Q "torn") ∧ (0 ≤ many ∧ many ≤ 100000 → okT tn = true → ∀ H' T', Kp [dk] H H' → DiskAt K H' dk B Pd T' (schedS s many tn) → H T' = none → Q .non H')
theorem sc__law_schedule : FnScope ["_law_disk", "_law_count", "_law_torn_here", "e"] ["_law_disk", "_law_count", "_law_torn_here"] (defScope s__law_schedule) := ⟨rfl, rfl, rfl, by decide +kernel, rfl, by decide +kernel, by decide +kernel⟩
theorem bn__law_schedule : BindN "_law_schedule" s__law_schedule ["_law_disk", "_law_count", "_law_torn_here"] := fun _ _ _ _ _ _ us hl => match us, hl with | [_, _, _], _ => rfl
theorem b__law_schedule (T : TX K mg) : Body P w K mg base "_law_schedule" s__law_schedule ["_law_disk", "_law_count", "_law_torn_here", "e"] 5 (spLSched K) := by
  intro cdv A outer s H vs Q E h X hr
  obtain ⟨dk, B, Pd, To, t, s, many, tn, rfl, D, ht, q1, q2, q3⟩ := h
  have C_Disk := C_Disk T; have E_OutOfRange := E_OutOfRange (P := P) (w := w) (base := base) T; have M_Disk_schedule_cut := M_Disk_schedule_cut (P := P) (w := w) (base := base) T
  refine ⟨_, (pss_one (ps_try_as (i := 3) rfl rfl sc__law_schedule.nd rfl rfl (names_glo (T.glo 3)) takes_never (fun W pn xe tk1 po1 => (pss_one (ps_ret (pe_methS1 M_Disk_schedule_cut C_Disk hr (atW tk1) (pv 0) (pa_cons (pv 1) (pa_cons (pv 2) pa_nil)))))) (fun a oe cls d pn hz hf => (pss_one (ps_ret (pe_tup (pa_cons pe_str (pa_cons (pe_xf E_OutOfRange.xf E_OutOfRange.no hz hf (pv 3)) pa_nil)))))))), ?_⟩
  walk_at "st"
  refine rD D (by decide +kernel) ?_
  walk_at "st"
  refine ⟨dk, B, Pd, To, t, s, many, tn, rfl, D, ht, fun g => ?_, fun g1 g2 => ?_, fun g1 g2 H' T' e d f => ?_⟩
  · intro d H1 e1 hd
    refine c_caught (He.exm_ok (T.fact 46)) fun ea hea => ?_
    walk_at "st"
    refine ⟨rfl, rfl, d, _, _, rfl, hd, rfl, ?_⟩
    walk_at "st"
    walk_at "nw"
    intro p2 H2 N2
    exact q1 g p2 H2 (e1.trans N2.kp) (SqT.of N2.at_)
  · intro d H1 e1 hd
    refine c_caught (He.exm_ok (T.fact 46)) fun ea hea => ?_
    walk_at "st"
    refine ⟨rfl, rfl, d, _, _, rfl, hd, rfl, ?_⟩
    walk_at "st"
    walk_at "nw"
    intro p2 H2 N2
    exact q2 g1 g2 p2 H2 (e1.trans N2.kp) (SqT.of N2.at_)
  · exact q3 g1 g2 H' T' e d f
theorem D__law_schedule (T : TX K mg) : DefAt P w K mg base CX0 "_law_schedule" 6 ["_law_disk", "_law_count", "_law_torn_here"] (spLSched K) :=
  def_of T 6 11 sc__law_schedule bn__law_schedule (by walk_at "len") (b__law_schedule T)
/-- a write or a flush -/
inductive Call2 (K : PySem.W.Frag) (H : Hp) (dk B Pd T : Addr) (s : DiskS) (Q : VK) (R : Str → Prop) (C : Prop) : V → V → Prop
  | f {z : V} (q1 : s.left = some 0 → C) (q2 : s.left ≠ some 0 → ∀ H' Pd', Did K H H' dk B Pd T Pd' T (flushS (spendS s)) → Q .non H') : Call2 K H dk B Pd T s Q R C (.int (0 - 1)) z
  | w {i : Int} {p : Addr} {b : Blk} (ni : i ≠ 0 - 1) (hp : H p = some (.lst (b.map V.int))) (np : p ≠ Pd) (few : s.pend.length < 1000000) (q1 : inAt s i = false → R "at") (q2 : inAt s i = true → isBlk b = false → R "block")
      (q3 : inAt s i = true → isBlk b = true → s.left = some 0 → C)
      (q4 : inAt s i = true → isBlk b = true → s.left ≠ some 0 → ∀ H', Kp [dk, Pd] H H' → DiskAt K H' dk B Pd T (writeS s i.toNat b) → Q .non H') : Call2 K H dk B Pd T s Q R C (.int i) (.ref p)
theorem Call2.map {H : Hp} {dk B Pd T : Addr} {s : DiskS} {Q Q' : VK} {R R' : Str → Prop} {C C' : Prop} {x y : V} (h : Call2 K H dk B Pd T s Q R C x y) (hq : ∀ v H', Q v H' → Q' v H') (hr : ∀ n, R n → R' n) (hc : C → C') : Call2 K H dk B Pd T s Q' R' C' x y := by
  cases h with
  | f q1 q2 => exact .f (fun g => hc (q1 g)) (fun g H' a d => hq _ _ (q2 g H' a d))
  | w ni hp np few q1 q2 q3 q4 => exact .w ni hp np few (fun g => hr _ (q1 g)) (fun g1 g2 => hr _ (q2 g1 g2)) (fun g1 g2 g3 => hc (q3 g1 g2 g3)) (fun g1 g2 g3 H' e d => hq _ _ (q4 g1 g2 g3 H' e d))
def spDoRaw (K : PySem.W.Frag) : Sp := fun vs H Q E => ∃ (dk B Pd T : Addr) (s : DiskS) (x y : V), vs = [.ref dk, x, y] ∧ DiskAt K H dk B Pd T s ∧ Call2 K H dk B Pd T s Q (RaisesE K H E) (CutE K H E dk B Pd T s) x y
theorem sc__law_do_raw : FnScope ["_law_disk", "_law_at", "_law_block"] ["_law_disk", "_law_at", "_law_block"] (defScope s__law_do_raw) := ⟨rfl, rfl, rfl, by decide +kernel, rfl, by decide +kernel, by decide +kernel⟩
theorem bn__law_do_raw : BindN "_law_do_raw" s__law_do_raw ["_law_disk", "_law_at", "_law_block"] := fun _ _ _ _ _ _ us hl => match us, hl with | [_, _, _], _ => rfl
theorem b__law_do_raw (T : TX K mg) : BodyX P w K mg base "_law_do_raw" s__law_do_raw ["_law_disk", "_law_at", "_law_block"] 5 (spDoRaw K) := by
  intro cdv A outer s H vs Q E h X hr tk
  obtain ⟨dk, B, Pd, To, s, x, y, rfl, D, c⟩ := h
  have C_Disk := C_Disk T; have M_Disk_flush := M_Disk_flush (P := P) (w := w) (base := base) T; have M_Disk_write := M_Disk_write (P := P) (w := w) (base := base) T
  refine ⟨_, (pss_cons (ps_if (pt_cmpR (op_eqU (K := K) hr.units) (pv 1) (pe_op op_subU pe_int pe_int) (nomark _)) (pss_one (ps_ret (pe_methS0 M_Disk_flush C_Disk hr (atW tk) (pv 0)))) pss_nil) (pss_one (ps_ret (pe_methS1 M_Disk_write C_Disk hr (atW tk) (pv 0) (pa_cons (pv 1) (pa_cons (pv 2) pa_nil)))))), ?_⟩
  cases c with
  | @f z q1 q2 =>
    walk_at "dc"
    refine rD D (by decide +kernel) ?_
    walk_at "st"
    exact ⟨dk, B, Pd, To, s, rfl, D, q1, q2⟩
  | @w i p b ni hp np few q1 q2 q3 q4 =>
    walk_at "st"
    refine c_iteF (decide_eq_false ni) ?_
    walk_at "st"
    refine rD D (by decide +kernel) ?_
    walk_at "st"
    exact ⟨dk, B, Pd, To, p, s, i, b, rfl, D, hp, np, few, q1, q2, q3, fun g1 g2 g3 H' e d _ => q4 g1 g2 g3 H' e d⟩
theorem D__law_do_raw (T : TX K mg) : DefAt P w K mg base (L2.CX P w) "_law_do_raw" 6 ["_law_disk", "_law_at", "_law_block"] (spDoRaw K) :=
  def_ofX T 7 12 sc__law_do_raw bn__law_do_raw (by walk_at "len") (b__law_do_raw T)
def CutR (K : PySem.W.Frag) (H : Hp) (Q : VK) (dk B Pd T : Addr) (s : DiskS) : Prop := ∀ H' Pd' T' p, Did K H H' dk B Pd T Pd' T' (cutS s s.torn) → SqT K H' p ([("refused" : Str), "cut"].map V.str) → Q (.ref p) H'
def spDo (K : PySem.W.Frag) : Sp := fun vs H Q E => ∃ (dk B Pd T : Addr) (s : DiskS) (x y : V), vs = [.ref dk, x, y] ∧ DiskAt K H dk B Pd T s ∧ Call2 K H dk B Pd T s Q (Refused K H Q) (CutR K H Q dk B Pd T s) x y
theorem sc__law_do : FnScope ["_law_disk", "_law_at", "_law_block", "_law_told", "e"] ["_law_disk", "_law_at", "_law_block"] (defScope s__law_do) := ⟨rfl, rfl, rfl, by decide +kernel, rfl, by decide +kernel, by decide +kernel⟩
theorem bn__law_do : BindN "_law_do" s__law_do ["_law_disk", "_law_at", "_law_block"] := fun _ _ _ _ _ _ us hl => match us, hl with | [_, _, _], _ => rfl
theorem b__law_do (T : TX K mg) : Body P w K mg base "_law_do" s__law_do ["_law_disk", "_law_at", "_law_block", "_law_told", "e"] 6 (spDo K) := by
  intro cdv A outer s H vs Q E h X hr
  obtain ⟨dk, B, Pd, To, s, x, y, rfl, D, c⟩ := h
  have D__law_do_raw := D__law_do_raw (P := P) (w := w) (base := base) T; have E_OutOfRange := E_OutOfRange (P := P) (w := w) (base := base) T
  refine ⟨_, (pss_cons (ps_tryN rfl rfl sc__law_do.nd takes_never (fun W pn xe tk1 po1 => (pss_one (ps_set (i := 3) sc__law_do.nd rfl (Or.inl rfl) (pe_callX D__law_do_raw hr tk1 (pa_cons (pv 0) (pa_cons (pv 1) (pa_cons (pv 2) pa_nil))))))) (ClsOk.named (i := 4) rfl rfl (names_glo (T.glo 13)) (fun a oe cls d pn hz hf => (pss_cons (ps_if (PW.pt (pw_and (pt_tru (K := K) (pe_callB (cr_isE (K := K) hz hf) rfl (T.free 14) (by decide +kernel) (pa_cons (pv 4) (pa_cons (pe_gCon (T.glo 15)) pa_nil)))) (pw_and1 (pt_not (pt_tru (K := K) (pe_callB (cr_isE (K := K) hz hf) rfl (T.free 14) (by decide +kernel) (pa_cons (pv 4) (pa_cons (pe_gCon (T.glo 3)) pa_nil)))))))) (pss_one (ps_ret (pe_tup (pa_cons pe_str (pa_cons pe_str pa_nil))))) pss_nil) (pss_one (ps_ret (pe_tup (pa_cons pe_str (pa_cons pe_str pa_nil))))))) (ClsOk.named (i := 4) rfl rfl (names_glo (T.glo 3)) (fun a oe cls d pn hz hf => (pss_one (ps_ret (pe_tup (pa_cons pe_str (pa_cons (pe_xf E_OutOfRange.xf E_OutOfRange.no hz hf (pv 4)) pa_nil)))))) ClsOk.nil))) (pss_one (ps_ret (pv 3)))), ?_⟩
  walk_at "st"
  refine ⟨dk, B, Pd, To, s, x, y, rfl, D, c.map (fun v H' hq => ?_) (fun nm hr => ?_) (fun hc => ?_)⟩
  · walk_at "st"
    exact hq
  · intro d H1 e1 hd
    refine c_miss (He.exm_ok (T.fact 47)) ?_
    refine c_hit (He.exm_ok (T.fact 46)) fun ea hea => ?_
    walk_at "st"
    refine ⟨rfl, rfl, d, _, _, rfl, hd, rfl, ?_⟩
    walk_at "st"
    walk_at "nw"
    intro p2 H2 N2
    exact hr p2 H2 (e1.trans N2.kp) (SqT.of N2.at_)
  · intro H1 Pn Tn dd
    refine c_hit (He.exm_ok (T.fact 48)) fun ea hea => ?_
    walk_at "st"
    refine c_isE (T.exi 2) (T.kit 3) ?_
    walk_at "dc"
    refine c_isE (T.exi 2) (T.kit 4) ?_
    walk_at "dc"
    walk_at "nw"
    intro p2 H2 N2
    exact hc H2 Pn Tn p2 (dd.after N2.kp) (SqT.of N2.at_)
theorem D__law_do (T : TX K mg) : DefAt P w K mg base CX0 "_law_do" 7 ["_law_disk", "_law_at", "_law_block"] (spDo K) :=
  def_of T 8 16 sc__law_do bn__law_do (by walk_at "len") (b__law_do T)
end
end K42



namespace K42
open PySem L2 Sa
local macro_rules | `(tactic| walk_at "s1") => `(tactic| first | (with_reducible apply c_dgetK))
local macro_rules | `(tactic| walk_at "s1") => `(tactic| (with_reducible apply c_raiseO))
set_option pp.maxSteps 1500
theorem tear_nil {bs : List Blk} {pd : List Pnd} (hi : ∀ e ∈ pd, e.1 < bs.length) : tear [] bs pd pd.length = bs := by
  have := tear_more (tn := []) hi 0 (Nat.le_refl _) pd.length
  rw [Nat.zero_add] at this
  exact this
theorem c_andX {c : Prop} [Decidable c] {tB1 : TT} {σ : St} {H : Hp} {R : Bool → Hp → Prop} (Ok : Hp → Prop) (h0 : Ok H) (hB : c → ∀ R' : Bool → Hp → Prop, (∀ b H', Ok H' → R' b H') → tB1 σ H R') (k : ∀ b H', Ok H' → R b H') : if decide c = true then tB1 σ H R else R false H :=
  c_ite (fun h => hB h R k) (fun _ => k _ _ h0)
/-- how the law's plan and the disk's are one -/
def Plan (s : DiskS) (l : Int) (tn : List Int) : Prop := (l = 0 - 1 ∧ s.left = none) ∨ (0 ≤ l ∧ s.left = some l ∧ s.torn = tn)
structure TornAt (H : Hp) (tr dk B Pd To LB LP b d : Addr) (tn : List Int) : Prop where
  at_ : H tr = some (.lst (tn.map V.int))
  ap : tr ∉ [dk, B, Pd, LB, LP, b]
def blkD (b : Blk) : PyData := .list (b.map PyData.int)
theorem depth_ints : ∀ ns : List Int, PyData.depthAll (ns.map PyData.int) = 0
  | [] => by simp only [List.map_nil, PyData.depthAll]
  | n :: r => by simp only [List.map_cons, PyData.depthAll, PyData.depth, depth_ints r, Nat.max_self]
theorem lay_blks : ∀ bs : List Blk, PyData.canLayAll0 (bs.map blkD) = true ∧ PyData.depthAll (bs.map blkD) ≤ 1
  | [] => by exact ⟨by simp only [List.map_nil, PyData.canLayAll0], by simp only [List.map_nil, PyData.depthAll]; omega⟩
  | b :: r => by
    obtain ⟨h1, h2⟩ := lay_blks r
    have h3 := SeqAt.canLay_of_shaped (PySem.W.ke_shaped_ints b)
    simp only [List.map_cons, PyData.canLayAll0, PyData.depthAll]
    refine ⟨by rw [h1, Bool.and_true]; exact h3, Nat.max_le.mpr ⟨?_, h2⟩⟩
    unfold blkD
    simp only [PyData.depth, depth_ints]
    omega
theorem shaped_blks (bs : List Blk) : SeqAt.shaped (.list (bs.map blkD)) = true := by
  obtain ⟨h1, h2⟩ := lay_blks bs
  unfold SeqAt.shaped
  rw [Bool.and_eq_true, decide_eq_true_eq]
  refine ⟨by simp only [PyData.canLay0]; exact h1, ?_⟩
  simp only [PyData.depth]
  omega
theorem dpAll_blks {K : PySem.W.Frag} {H : Hp} : ∀ {ps : List Addr} {bs : List Blk}, ps.length = bs.length → (∀ (i : Nat) (b : Blk), bs[i]? = some b → ∃ p, ps[i]? = some p ∧ Ints H p b) → DpAll K H (ps.map V.ref) (bs.map blkD)
  | [], [], _, _ => .nil
  | [], _ :: _, h, _ => by simp at h
  | _ :: _, [], h, _ => by simp at h
  | p :: ps, b :: bs, h, g => by
    obtain ⟨p', e1, e2⟩ := g 0 b rfl
    obtain rfl : p = p' := Option.some.inj e1
    exact .cons (dp_ints (SqL.of e2)) (dpAll_blks (by simpa using h) fun i c hc => g (i + 1) c hc)
theorem c_orX {c : Prop} [Decidable c] {tB1 : TT} {σ : St} {H : Hp} {R : Bool → Hp → Prop} (hB : ∀ R' : Bool → Hp → Prop, (∀ b, R' b H) → tB1 σ H R') (k : ∀ b, R b H) : if decide c = true then R true H else tB1 σ H R :=
  c_ite (fun _ => k _) (fun _ => hB R k)
section
variable {K : PySem.W.Frag} {H H' : Hp} {tr dk B Pd To LB LP b d : Addr} {tn : List Int} {s s' : DiskS}
theorem TornAt.kp {ms : List Addr} (h : TornAt H tr dk B Pd To LB LP b d tn) (e : Kp ms H H') (n : tr ∉ ms) : TornAt H' tr dk B Pd To LB LP b d tn := ⟨e _ _ n h.at_, h.ap⟩
theorem TornAt.kp0 (h : TornAt H tr dk B Pd To LB LP b d tn) (e : Kp [] H H') : TornAt H' tr dk B Pd To LB LP b d tn := h.kp e (by simp)
theorem TornAt.nb (h : TornAt H tr dk B Pd To LB LP b d tn) : tr ≠ b ∧ tr ≠ LB ∧ tr ≠ LP ∧ tr ∉ [dk, B, Pd] ∧ tr ≠ dk ∧ tr ≠ B ∧ tr ≠ Pd := by
  have := h.ap
  simp only [List.mem_cons, List.not_mem_nil, or_false, not_or] at this ⊢
  obtain ⟨h1, h2, h3, h4, h5, h6⟩ := this
  exact ⟨h6, h4, h5, ⟨h1, h2, h3⟩, h1, h2, h3⟩
theorem TornAt.did {Pn Tn : Addr} (h : TornAt H tr dk B Pd To LB LP b d tn) (g : Did K H H' dk B Pd To Pn Tn s') : TornAt H' tr dk B Pn Tn LB LP b d tn := by
  obtain ⟨h6, h4, h5, hn, h1, h2, h3⟩ := h.nb
  refine ⟨g.kp _ _ hn h.at_, ?_⟩
  simp only [List.mem_cons, List.not_mem_nil, or_false, not_or]
  refine ⟨h1, h2, ?_, h4, h5, h6⟩
  rcases g.fp with e | e
  · rw [e]; exact h3
  · exact ne_of_none h.at_ e
theorem TornAt.lp {LP' : Addr} {o : HO} (h : TornAt H tr dk B Pd To LB LP b d tn) (N : New H LP' o H') : TornAt H' tr dk B Pd To LB LP' b d tn := by
  obtain ⟨h6, h4, h5, hn, h1, h2, h3⟩ := h.nb
  refine ⟨N.keep h.at_, ?_⟩
  simp only [List.mem_cons, List.not_mem_nil, or_false, not_or]
  exact ⟨h1, h2, h3, h4, ne_of_none h.at_ N.fr, h6⟩
end
section
variable {P : Program} {w : World} {K : PySem.W.Frag} {mg : Str → Option Value} {base : Heap}
def spLaw (K : PySem.W.Frag) : Sp := fun vs H Q _ => ∃ (a : Addr) (ns : List Int), vs = [.ref a] ∧ SqL K H a (ns.map V.int) ∧ ∀ H', Q (.bl true) H'
theorem sc_law : FnScope ["_law_script", "_law_box", "_law_size", "_law_disk", "_law_k", "_law_blocks", "_law_pending", "_law_left", "_law_torn_here", "_law_cuts", "_law_turn", "_law_kind", "_law_handed", "_law_at", "_law_block", "_law_actual", "_law_place", "_law_entry"] ["_law_script"] (defScope s_law) := ⟨rfl, rfl, rfl, by decide +kernel, rfl, by decide +kernel, by decide +kernel⟩
theorem bn_law : BindN "law" s_law ["_law_script"] := fun _ _ _ _ _ _ us hl => match us, hl with | [_], _ => rfl
theorem b_law (T : TX K mg) : Body P w K mg base "law" s_law ["_law_script", "_law_box", "_law_size", "_law_disk", "_law_k", "_law_blocks", "_law_pending", "_law_left", "_law_torn_here", "_law_cuts", "_law_turn", "_law_kind", "_law_handed", "_law_at", "_law_block", "_law_actual", "_law_place", "_law_entry"] 7 (spLaw K) := by
  intro cdv A outer s H vs Q E h X hr
  obtain ⟨a, ns, rfl, hs, q⟩ := h
  have C_Disk := C_Disk T; have D__law_digits := D__law_digits (P := P) (w := w) (base := base) T; have D__law_do := D__law_do (P := P) (w := w) (base := base) T; have D__law_draw := D__law_draw (P := P) (w := w) (base := base) T; have D__law_schedule := D__law_schedule (P := P) (w := w) (base := base) T; have D__law_torn := D__law_torn (P := P) (w := w) (base := base) T; have M_Disk___init__ := M_Disk___init__ (P := P) (w := w) (base := base) T; have M_Disk_cut_count := M_Disk_cut_count (P := P) (w := w) (base := base) T; have M_Disk_cut_power := M_Disk_cut_power (P := P) (w := w) (base := base) T; have M_Disk_pending_count := M_Disk_pending_count (P := P) (w := w) (base := base) T; have M_Disk_read := M_Disk_read (P := P) (w := w) (base := base) T; have Mk_Disk := Mk_Disk T
  refine ⟨_, (pss_cons (ps_set (i := 1) sc_law.nd rfl (Or.inr rfl) (pe_lst (pa_cons (pe_callA D__law_digits hr pass0 (pa_cons (pv 0) (pa_cons pe_int (pa_cons pe_int pa_nil)))) (pa_cons pe_int pa_nil)))) (pss_cons (ps_set (i := 2) sc_law.nd rfl (Or.inl rfl) (pe_op (op_addU (K := K)) pe_int (pe_callA D__law_draw hr pass0 (pa_cons (pv 1) (pa_cons pe_int pa_nil))))) (pss_cons (ps_set (i := 3) sc_law.nd rfl (Or.inr rfl) (pe_newS M_Disk___init__ Mk_Disk C_Disk hr atE (pa_cons (pv 2) pa_nil))) (pss_cons (ps_setLc (i := 5) (own := [("_law_k", 4)]) rfl sc_law.nd rfl rfl (sw_true rfl rfl rfl (by decide +kernel)) (pi_range1 rfl (T.free 6) (pa_cons (pv 2) pa_nil)) (blkOk_by (N := ["_law_script", "_law_box", "_law_size", "_law_disk", "_law_k", "_law_blocks", "_law_pending", "_law_left", "_law_torn_here", "_law_cuts", "_law_turn", "_law_kind", "_law_handed", "_law_at", "_law_block", "_law_actual", "_law_place", "_law_entry"]) (sc := defScope s_law) (by decide +kernel)) (fun _ _ _ _ _ => (pg_name (i := 4) sc_law.nd rfl (Or.inl rfl))) (fun _ _ _ _ _ => pts_nil) (fun _ _ _ _ _ => (pe_op (op_mulU (K := K)) (pe_lst (pa_cons pe_int pa_nil)) pe_int))) (pss_cons (ps_set (i := 6) sc_law.nd rfl (Or.inl rfl) (pe_lst pa_nil)) (pss_cons (ps_set (i := 7) sc_law.nd rfl (Or.inl rfl) (pe_op op_subU pe_int pe_int)) (pss_cons (ps_set (i := 8) sc_law.nd rfl (Or.inl rfl) (pe_lst pa_nil)) (pss_cons (ps_set (i := 9) sc_law.nd rfl (Or.inl rfl) pe_int) (pss_cons (ps_for PassesOwn.never rfl (pi_range1 rfl (T.free 6) (pa_cons pe_int pa_nil)) (pg_name (i := 10) sc_law.nd rfl (Or.inl rfl)) (pss_cons (ps_set (i := 11) sc_law.nd rfl (Or.inl rfl) (pe_callA D__law_draw hr pass0 (pa_cons (pv 1) (pa_cons pe_int pa_nil)))) (Evl.pss_cut (ps_if (PW.pt (pw_or (pt_cmpR (op_eqU (K := K) hr.units) (pv 11) pe_int (nomark _)) (pw_or1 (pt_cmpR (op_eqU (K := K) hr.units) (pv 10) pe_int (nomark _))))) (pss_cons (ps_set (i := 7) sc_law.nd rfl (Or.inl rfl) (pe_callA D__law_draw hr pass0 (pa_cons (pv 1) (pa_cons pe_int pa_nil)))) (pss_cons (ps_set (i := 8) sc_law.nd rfl (Or.inl rfl) (pe_callA D__law_torn hr pass0 (pa_cons (pv 1) (pa_cons pe_int pa_nil)))) (pss_cons (ps_set (i := 12) sc_law.nd rfl (Or.inl rfl) (pe_callTy (cr_list (K := K)) rfl (T.free 17) (by decide +kernel) (pa_cons (pv 8) pa_nil))) (pss_cons (ps_if (PW.pt (pw_or (pt_cmpR op_isNotU (pe_callA D__law_schedule hr pass0 (pa_cons (pv 3) (pa_cons pe_int (pa_cons (pe_lst (pa_cons pe_int pa_nil)) pa_nil)))) pe_non (nomark _)) (pw_or1 (pt_cmpR op_isNotU (pe_callA D__law_schedule hr pass0 (pa_cons (pv 3) (pa_cons (pv 7) (pa_cons (pv 12) pa_nil)))) pe_non (nomark _))))) (pss_one (ps_ret pe_bl)) pss_nil) (pss_cons (ps_expr (pe_appendU (K := K) (pv 12) pe_int)) (pss_cons (ps_if (pt_cmpR (op_neU (K := K) hr.units) (pe_callA D__law_schedule hr pass0 (pa_cons (pv 3) (pa_cons (pe_ix (ix_U (K := K)) (pe_lst (pa_cons (pe_op op_subU pe_int pe_int) (pa_cons pe_int pa_nil))) (pe_callA D__law_draw hr pass0 (pa_cons (pv 1) (pa_cons pe_int pa_nil))) (fun _ _ => rfl)) (pa_cons (pe_lst (pa_cons pe_int pa_nil)) pa_nil)))) (pe_tup (pa_cons pe_str (pa_cons pe_str pa_nil))) (nomark _)) (pss_one (ps_ret pe_bl)) pss_nil) (pss_one (ps_if (pt_cmpR (op_neU (K := K) hr.units) (pe_callA D__law_schedule hr pass0 (pa_cons (pv 3) (pa_cons pe_int (pa_cons (pe_lst (pa_cons pe_int pa_nil)) pa_nil)))) (pe_tup (pa_cons pe_str (pa_cons pe_str pa_nil))) (nomark _)) (pss_one (ps_ret pe_bl)) pss_nil)))))))) (pss_one (ps_if (PW.pt (pw_and (pt_cmpR (op_eqU (K := K) hr.units) (pv 11) pe_int (nomark _)) (pw_and1 (pt_cmpR (op_eqU (K := K) hr.units) (pe_callA D__law_draw hr pass0 (pa_cons (pv 1) (pa_cons pe_int pa_nil))) pe_int (nomark _))))) (pss_cons (ps_expr (pe_methS1 M_Disk_cut_power C_Disk hr atE (pv 3) (pa_cons (pe_lst pa_nil) pa_nil))) (pss_cons (ps_set (i := 6) sc_law.nd rfl (Or.inl rfl) (pe_lst pa_nil)) (pss_cons (ps_set (i := 7) sc_law.nd rfl (Or.inl rfl) (pe_op op_subU pe_int pe_int)) (pss_one (ps_set (i := 9) sc_law.nd rfl (Or.inl rfl) (pe_op (op_addU (K := K)) (pv 9) pe_int)))))) (pss_one (ps_if (pt_cmpR (op_eqU (K := K) hr.units) (pv 11) pe_int (nomark _)) (pss_one (ps_if (PW.pt (pw_or (pt_cmpR (op_neU (K := K) hr.units) (pe_callA D__law_do hr pass0 (pa_cons (pv 3) (pa_cons (pv 2) (pa_cons (pe_op (op_mulU (K := K)) (pe_lst (pa_cons pe_int pa_nil)) pe_int) pa_nil)))) (pe_tup (pa_cons pe_str (pa_cons pe_str pa_nil))) (nomark _)) (pw_or1 (pt_cmpR (op_neU (K := K) hr.units) (pe_callA D__law_do hr pass0 (pa_cons (pv 3) (pa_cons pe_int (pa_cons (pe_op (op_mulU (K := K)) (pe_lst (pa_cons pe_int pa_nil)) pe_int) pa_nil)))) (pe_tup (pa_cons pe_str (pa_cons pe_str pa_nil))) (nomark _))))) (pss_one (ps_ret pe_bl)) pss_nil)) (pss_cons (ps_set (i := 13) sc_law.nd rfl (Or.inl rfl) (pe_op op_subU pe_int pe_int)) (Evl.pss_cut (ps_if (pt_cmpR op_gtU (pv 11) pe_int (nomark _)) (pss_one (ps_set (i := 13) sc_law.nd rfl (Or.inl rfl) (pe_callA D__law_draw hr pass0 (pa_cons (pv 1) (pa_cons (pv 2) pa_nil))))) pss_nil) (pss_cons (ps_setLc (i := 14) (own := [("_law_k", 4)]) rfl sc_law.nd rfl rfl (sw_true rfl rfl rfl (by decide +kernel)) (pi_range1 rfl (T.free 6) (pa_cons pe_int pa_nil)) (blkOk_by (N := ["_law_script", "_law_box", "_law_size", "_law_disk", "_law_k", "_law_blocks", "_law_pending", "_law_left", "_law_torn_here", "_law_cuts", "_law_turn", "_law_kind", "_law_handed", "_law_at", "_law_block", "_law_actual", "_law_place", "_law_entry"]) (sc := defScope s_law) (by decide +kernel)) (fun _ _ _ _ _ => (pg_name (i := 4) sc_law.nd rfl (Or.inl rfl))) (fun _ _ _ _ _ => pts_nil) (fun _ _ _ _ _ => (pe_op (op_addU (K := K)) pe_int (pe_callA D__law_draw hr pass0 (pa_cons (pv 1) (pa_cons pe_int pa_nil)))))) (Evl.pss_cut (ps_set (i := 15) sc_law.nd rfl (Or.inl rfl) (pe_callA D__law_do hr pass0 (pa_cons (pv 3) (pa_cons (pv 13) (pa_cons (pe_callTy (cr_list (K := K)) rfl (T.free 17) (by decide +kernel) (pa_cons (pv 14) pa_nil)) pa_nil))))) (pss_one (ps_if (pt_cmpR (op_eqU (K := K) hr.units) (pv 7) pe_int (nomark _)) (pss_cons (ps_if (pt_cmpR (op_neU (K := K) hr.units) (pv 15) (pe_tup (pa_cons pe_str (pa_cons pe_str pa_nil))) (nomark _)) (pss_one (ps_ret pe_bl)) pss_nil) (pss_cons (ps_for PassesOwn.never rfl (pi_range1 rfl (T.free 6) (pa_cons (pe_callB (cr_min2 rfl) rfl (T.free 18) (by decide +kernel) (pa_cons (pe_callB (cr_len (K := K)) rfl (T.free 0) PySem.boot_len (pa_cons (pv 8) pa_nil)) (pa_cons (pe_callB (cr_len (K := K)) rfl (T.free 0) PySem.boot_len (pa_cons (pv 6) pa_nil)) pa_nil))) pa_nil)) (pg_name (i := 4) sc_law.nd rfl (Or.inl rfl)) (pss_cons (ps_set (i := 16) sc_law.nd rfl (Or.inl rfl) (pe_ix (ix_U (K := K)) (pe_ix (ix_U (K := K)) (pv 6) (pv 4) (fun _ _ => rfl)) pe_int (fun _ _ => rfl))) (pss_one (ps_asg (pe_op (op_addU (K := K)) (pe_slice (sl_U (K := K)) (pe_ix (ix_U (K := K)) (pe_ix (ix_U (K := K)) (pv 6) (pv 4) (fun _ _ => rfl)) pe_int (fun _ _ => rfl)) po_none (po_some (pe_ix (ix_U (K := K)) (pv 8) (pv 4) (fun _ _ => rfl)))) (pe_slice (sl_U (K := K)) (pe_ix (ix_U (K := K)) (pv 5) (pv 16) (fun _ _ => rfl)) (po_some (pe_ix (ix_U (K := K)) (pv 8) (pv 4) (fun _ _ => rfl))) po_none)) (pg_sub (pv 5) (pv 16) set_list))))) (pss_cons (ps_set (i := 6) sc_law.nd rfl (Or.inl rfl) (pe_lst pa_nil)) (pss_cons (ps_set (i := 7) sc_law.nd rfl (Or.inl rfl) (pe_op op_subU pe_int pe_int)) (pss_one (ps_set (i := 9) sc_law.nd rfl (Or.inl rfl) (pe_op (op_addU (K := K)) (pv 9) pe_int))))))) (pss_cons (ps_if (pt_cmpR op_isNotU (pv 15) pe_non (nomark _)) (pss_one (ps_ret pe_bl)) pss_nil) (Evl.pss_cut (ps_if (pt_cmpR op_gtU (pv 7) pe_int (nomark _)) (pss_one (ps_set (i := 7) sc_law.nd rfl (Or.inl rfl) (pe_op op_subU (pv 7) pe_int))) pss_nil) (pss_one (ps_if (pt_cmpR (op_eqU (K := K) hr.units) (pv 13) (pe_op op_subU pe_int pe_int) (nomark _)) (pss_cons (ps_for PassesOwn.never rfl (pi_listU (K := K) (pv 6)) (pg_name (i := 17) sc_law.nd rfl (Or.inl rfl)) (pss_one (ps_asg (pe_ix (ix_U (K := K)) (pv 17) pe_int (fun _ _ => rfl)) (pg_sub (pv 5) (pe_ix (ix_U (K := K)) (pv 17) pe_int (fun _ _ => rfl)) set_list)))) (pss_one (ps_set (i := 6) sc_law.nd rfl (Or.inl rfl) (pe_lst pa_nil)))) (pss_one (ps_expr (pe_appendU (K := K) (pv 6) (pe_lst (pa_cons (pv 13) (pa_cons (pv 14) pa_nil))))))))))))))))))))) (pss_one (ps_if (PW.pt (pw_or (pt_cmpR (op_neU (K := K) hr.units) (pe_methS0 M_Disk_pending_count C_Disk hr at0 (pv 3)) (pe_callB (cr_len (K := K)) rfl (T.free 0) PySem.boot_len (pa_cons (pv 6) pa_nil)) (nomark _)) (pw_or1 (pt_cmpR (op_neU (K := K) hr.units) (pe_methS0 M_Disk_cut_count C_Disk hr at0 (pv 3)) (pv 9) (nomark _))))) (pss_one (ps_ret pe_bl)) pss_nil))))) (pss_cons (ps_expr (pe_methS1 M_Disk_cut_power C_Disk hr atE (pv 3) (pa_cons (pe_lst pa_nil) pa_nil))) (pss_one (ps_ret (pe_cmpR (op_eqU (K := K) hr.units) (pe_lc (own := [("_law_at", 13)]) rfl sc_law.nd (pi_range1 rfl (T.free 6) (pa_cons (pv 2) pa_nil)) (blkOk_by (N := ["_law_script", "_law_box", "_law_size", "_law_disk", "_law_k", "_law_blocks", "_law_pending", "_law_left", "_law_torn_here", "_law_cuts", "_law_turn", "_law_kind", "_law_handed", "_law_at", "_law_block", "_law_actual", "_law_place", "_law_entry"]) (sc := defScope s_law) (by decide +kernel)) (fun _ _ _ _ _ => (pg_name (i := 13) sc_law.nd rfl (Or.inl rfl))) (fun _ _ _ _ _ => pts_nil) (fun _ _ _ _ _ => (pe_methS1 M_Disk_read C_Disk hr atE (pv 3) (pa_cons (pv 13) pa_nil)))) (pv 5) (nomark _)))))))))))))), ?_⟩
  walk_at "st"
  refine ⟨a, ns, rfl, hs, fun d ds hd => ?_⟩
  walk_at "st"
  walk_at "nw"
  intro b H1 N1
  have B1 : Bx H1 b d := ⟨0, ds, N1.at_, N1.keep upd_same, by decide⟩
  walk_at "st"
  refine ⟨b, d, 4, rfl, B1, by decide, fun n2 H3 n20 n21 e2 B3 => ?_⟩
  clear B1 N1 hs
  obtain ⟨z, hz, z0, z1⟩ : ∃ z : Nat, (8 : Int) + n2 = (z : Int) ∧ 8 ≤ z ∧ z ≤ 11 := ⟨(8 + n2).toNat, by omega, by omega, by omega⟩
  walk_at "st"
  rw [hz]
  intro dk dx h1 h2 h3
  have k1 : Kp [] H3 (upd H3 dx (.own dk)) := Kp.new h2
  have hx : upd H3 dx (.own dk) dk = none := by rw [upd_ne (Ne.symm h3)]; exact h1
  have k2 : Kp [] H3 (upd (upd H3 dx (.own dk)) dk (.ins (He.ga K "Disk") dx [])) := k1.trans (Kp.new hx)
  refine ⟨dk, dx, (z : Int), rfl, upd_same, fun g B Pd To H4 e4 D4 fB fP fT => ⟨rfl, ?_⟩, fun g => absurd ⟨by omega, by omega⟩ g⟩
  have k4 : Kp [] H3 H4 := Kp.drop_fresh (k2.mono.trans e4) h1
  rw [Int.toNat_natCast] at D4
  have fr : ∀ {x : Addr}, (upd (upd H3 dx (.own dk)) dk (.ins (He.ga K "Disk") dx [])) x = none → H3 x = none := fun h => free0 k2 h
  have fB := fr fB
  have fP := fr fP
  have fT := fr fT
  have B4 := B3.kp0 k4
  walk_at "st"
  refine lcQ_new (itn_r (lo := 0) (n := z)) (fun _ => .lst ((List.replicate 32 (0 : Int)).map V.int)) (by omega) (fun _ _ => trivial) (fun i y H' H'' R S hi e w k => ?_) (fun LB qs H5 hB e5 hacc hql hqs => ?_)
  · obtain ⟨rfl, rfl⟩ := w
    walk_at "st"
    refine ⟨rfl, ?_⟩
    walk_at "st"
    walk_at "nw"
    intro p3 H6 N6
    walk_at "st"
    refine c_mulL N6.at_ (by omega) (by omega) (by rw [sizeLine_eq]; simp) fun p7 H7 N7 => ?_
    refine k p7 H7 (N6.free N7.fr) (N6.kp.trans N7.kp) ?_
    rw [N7.at_]
    rfl
  walk_at "st"
  walk_at "nw"
  intro LP H6 N6
  walk_at "st"
  have I6 : LInv K H6 dk B Pd To LB LP b d (newS z) (List.replicate z (List.replicate 32 0)) [] := by
    have k46 : Kp [] H4 H6 := e5.trans N6.kp
    obtain ⟨_, _, hb3, hd3, _⟩ := B3.ex
    obtain ⟨dx4, hi4⟩ := D4.ins
    obtain ⟨ps4, hB4, _⟩ := D4.blk.ex
    obtain ⟨qs4, hP4, _⟩ := D4.pnd.ex
    have hT4 := D4.trn
    have hb4 := k4.at0 hb3
    have hd4 := k4.at0 hd3
    have fLP : H4 LP = none := free0 e5 N6.fr
    refine ⟨D4.kp0 k46, B4.kp0 k46, ⟨⟨qs, N6.keep hacc, ?_, ?_⟩, ?_⟩, LPAt.nil N6.at_, fun x hx hm => ?_, ne_of_none hacc N6.fr, (ne_of_none hb4 hB).symm, (ne_of_none hd4 hB).symm, (ne_of_none hb4 fLP).symm, (ne_of_none hd4 fLP).symm⟩
    · rw [List.length_replicate, hql]
    · intro i bl hb
      rw [List.getElem?_replicate] at hb
      split at hb
      · rename_i hi
        obtain rfl := Option.some.inj hb
        obtain ⟨q, hq⟩ : ∃ q, qs[i]? = some q := ⟨_, List.getElem?_eq_getElem (by omega)⟩
        obtain ⟨g1, g2⟩ := hqs i q hq
        exact ⟨q, hq, N6.keep g2⟩
      · cases hb
    · intro bl hb
      rw [(List.mem_replicate.mp hb).2]; rfl
    · simp only [List.mem_cons, List.not_mem_nil, or_false] at hx hm
      rcases hx with rfl | rfl | rfl | rfl <;> rcases hm with rfl | rfl | rfl | rfl <;> first
        | (rw [hi4] at hB; cases hB; done) | (rw [hB4] at hB; cases hB; done) | (rw [hP4] at hB; cases hB; done) | (rw [hT4] at hB; cases hB; done)
        | (rw [hi4] at fLP; cases fLP; done) | (rw [hB4] at fLP; cases fLP; done) | (rw [hP4] at fLP; cases fLP; done) | (rw [hT4] at fLP; cases fLP; done)
        | (rw [h1] at hb3; cases hb3; done) | (rw [fB] at hb3; cases hb3; done) | (rw [fP] at hb3; cases hb3; done) | (rw [fT] at hb3; cases hb3; done)
        | (rw [h1] at hd3; cases hd3; done) | (rw [fB] at hd3; cases hd3; done) | (rw [fP] at hd3; cases hd3; done) | (rw [fT] at hd3; cases hd3; done)
  clear hqs hacc hB e5 N6 D4 e4 k1 k2 hx h1 h2 h3 B4 k4 B3
  walk_at "nw"
  intro tr0 H7 N7
  have T7 : TornAt H7 tr0 dk B Pd To LB LP b d [] := ⟨N7.at_, by
    obtain ⟨dx6, hi6⟩ := I6.D.ins
    obtain ⟨ps6, hB6, _⟩ := I6.D.blk.ex
    obtain ⟨qs6, hP6, _⟩ := I6.D.pnd.ex
    obtain ⟨_, _, hb6, _⟩ := I6.X.ex
    obtain ⟨ps7, hL6, _⟩ := I6.lb.ex
    obtain ⟨qs7, hQ6, _⟩ := I6.lp.ex
    have f := N7.fr
    simp only [List.mem_cons, List.not_mem_nil, or_false, not_or]
    exact ⟨(ne_of_none hi6 f).symm, (ne_of_none hB6 f).symm, (ne_of_none hP6 f).symm, (ne_of_none hL6 f).symm, (ne_of_none hQ6 f).symm, (ne_of_none hb6 f).symm⟩⟩
  have I7 := I6.kp0 N7.kp
  clear I6
  walk_at "st"
  refine forR (fun i σ H' => ∃ (Pd To LP tr : Addr) (s : DiskS) (l : Int) (tn : List Int) (v4 v10 v11 v12 v13 v14 v15 v16 v17 : Option V), σ = [some (.ref a), some (.ref b), some (.int (z : Int)), some (.ref dk), v4, some (.ref LB), some (.ref LP), some (.int l), some (.ref tr), some (.int s.cuts), v10, v11, v12, v13, v14, v15, v16, v17] ∧
    LInv K H' dk B Pd To LB LP b d s s.blocks s.pend ∧ TornAt H' tr dk B Pd To LB LP b d tn ∧ Plan s l tn ∧ s.blocks.length = z ∧ s.pend.length ≤ i) ⟨Pd, To, LP, tr0, newS z, 0 - 1, [], _, _, _, _, _, _, _, _, _, rfl, I7, T7, .inl ⟨rfl, rfl⟩, List.length_replicate, Nat.le_refl _⟩ ?_ ?_
  · clear I7 T7
    rintro i σ H7 hi ⟨Pd, To, LP, tr, s, l, tn, v4, v10, v11, v12, v13, v14, v15, v16, v17, rfl, I, TT, pl, hz2, hp⟩
    have hi40 : i < 40 := hi
    walk_at "st"
    refine ⟨b, d, 10, rfl, I.X, by decide, fun n H8 n0 n1 e8 B8 => ?_⟩
    have I8 := I.draw e8 B8
    have T8 := TT.kp e8 (by simpa using TT.nb.1)
    clear I TT
    have inb : ∀ e ∈ s.pend, e.1 < s.blocks.length := fun e he => (I8.D.ok.pnd e he).1
    have I9ok := I8.D.ok.trn
    walk_at "st"
    refine c_cut (fun σ' H' => ∃ (Pd To LP tr : Addr) (s : DiskS) (l : Int) (tn : List Int) (v4 v12 v13 v14 v15 v16 v17 : Option V), σ' = [some (.ref a), some (.ref b), some (.int (z : Int)), some (.ref dk), v4, some (.ref LB), some (.ref LP), some (.int l), some (.ref tr), some (.int s.cuts), some (.int (0 + (i : Int))), some (.int n), v12, v13, v14, v15, v16, v17] ∧
      LInv K H' dk B Pd To LB LP b d s s.blocks s.pend ∧ TornAt H' tr dk B Pd To LB LP b d tn ∧ Plan s l tn ∧ s.blocks.length = z ∧ s.pend.length ≤ i + 1) ?_ ?_
    · walk_at "st"
      refine c_orX (fun R' k => ?_) (fun bb => ?_)
      · walk_at "st"
        exact k _
      cases bb with
      | true =>
        walk_at "st"
        refine ⟨b, d, 21, rfl, I8.X, by decide, fun l2 H9 l20 l21 e9 B9 => ?_⟩
        have I9 := I8.draw e9 B9
        walk_at "st"
        refine ⟨b, d, 9, rfl, I9.X, by decide, by decide, fun pt tn2 H10 ok e10 B10 fr hpt lt => ?_⟩
        have I10 := I9.draw e10 B10
        have Tpt : TornAt H10 pt dk B Pd To LB LP b d tn2 := ⟨hpt, by
          obtain ⟨dx6, hi6⟩ := I9.D.ins
          obtain ⟨ps6, hB6, _⟩ := I9.D.blk.ex
          obtain ⟨qs6, hP6, _⟩ := I9.D.pnd.ex
          obtain ⟨_, _, hb6, _⟩ := I9.X.ex
          obtain ⟨ps7, hL6, _⟩ := I9.lb.ex
          obtain ⟨qs7, hQ6, _⟩ := I9.lp.ex
          simp only [List.mem_cons, List.not_mem_nil, or_false, not_or]
          exact ⟨(ne_of_none hi6 fr).symm, (ne_of_none hB6 fr).symm, (ne_of_none hP6 fr).symm, (ne_of_none hL6 fr).symm, (ne_of_none hQ6 fr).symm, (ne_of_none hb6 fr).symm⟩⟩
        clear I8 T8
        walk_at "st"
        refine c_listL (SqL.of hpt) fun ph H11 N11 => ?_
        walk_at "st"
        walk_at "nw"
        intro p12 H12 N12
        have I12 := (I10.kp0 N11.kp).kp0 N12.kp
        have e32 : okT [32] = true := by decide +kernel
        have e33 : okT [33] = false := by decide +kernel
        walk_at "st"
        refine ⟨dk, B, Pd, To, p12, s, 100000, [32], rfl, I12.D, N12.at_, fun g => absurd ⟨by omega, by omega⟩ g, fun _ g => (by rw [e32] at g; cases g), fun _ _ H13 T13 e13 D13 f13 => ?_⟩
        walk_at "dc"
        obtain ⟨dx12, hi12⟩ := I12.D.ins
        have nph : ph ≠ dk := by
          obtain ⟨dx, hi⟩ := I10.D.ins
          exact (ne_of_none hi N11.fr).symm
        have hph13 : H13 ph = some (.lst (tn2.map V.int)) := e13.at1 nph (N12.keep N11.at_)
        refine ⟨dk, B, Pd, T13, ph, schedS s 100000 [32], l2, tn2, rfl, D13, hph13, fun g => absurd ⟨by omega, by omega⟩ g, fun _ g => (by rw [ok] at g; cases g), fun _ _ H14 T14 e14 D14 f14 => ?_⟩
        have hph14 := e14.at1 nph hph13
        walk_at "dc"
        generalize hU : upd H14 ph _ = U
        have k10 : Kp [dk] H10 H14 := (((N11.kp.trans N12.kp) : Kp [] H10 H12).mono.trans e13).trans e14
        have kU : Kp [dk] H10 U := by rw [← hU]; exact Kp.fresh_mut k10 N11.fr
        have mu : ∀ a ∈ [dk], Mu H10 a := fun a ha => by rw [List.mem_singleton.mp ha]; exact I10.D.mus dk (by simp)
        obtain ⟨nBd, nPd, nTd⟩ := I10.D.nb
        have nT14 : T14 ≠ ph := (ne_of_none hph13 f14).symm
        obtain ⟨dx14, hi14⟩ := D14.ins
        have DU : DiskAt K U dk B Pd T14 (schedS s l2 tn2) := by
          refine ⟨⟨dx14, ?_⟩, I10.D.blk.kp kU mu (by simpa using nBd), I10.D.pnd.kp kU mu (by simpa using nPd), ?_, D14.nBP, D14.nBT, D14.nPT, D14.ok⟩
          · rw [← hU, upd_ne nph.symm]; exact hi14
          · rw [← hU, upd_ne nT14]; exact D14.trn
        have f14' : H10 T14 = none := by
          have z1 := f14
          have z2 : H12 T14 = none := by
            cases hz : H12 T14 with
            | none => rfl
            | some o =>
              by_cases e : T14 = dk
              · obtain ⟨dx13, hi13⟩ := D13.ins
                rw [e, hi13] at z1; cases z1
              · rw [e13.at1 e hz] at z1; cases z1
          exact free0 (N11.kp.trans N12.kp) z2
        have ddU : Did K H10 U dk B Pd To Pd T14 (schedS s l2 tn2) := ⟨fun a o ha ho => kU a o (by simp at ha ⊢; exact ha.1) ho, DU, .inl rfl, .inr f14'⟩
        have IU := I10.did ddU
        have TU := Tpt.did ddU
        clear hph14 hph13 D14 D13 I12 I10 I9 Tpt DU ddU hi14 hi12
        walk_at "st"
        walk_at "nw"
        intro p16 H16 N16
        walk_at "st"
        refine ⟨b, d, 2, rfl, IU.X.nw N16, by decide, fun n3 H17 n30 n31 e17 B17 => ?_⟩
        have I17 := (IU.kp0 N16.kp).draw e17 B17
        have T17 := (TU.kp0 N16.kp).kp e17 (by simpa using TU.nb.1)
        refine c_pick (xs := [.int (0 - 1), .int 100001]) (IU.X.pick N16 e17) n30 n31 fun v hv => ?_
        obtain ⟨kk, rfl, hk⟩ : ∃ kk : Int, v = .int kk ∧ ¬ (0 ≤ kk ∧ kk ≤ 100000) := by
          simp only [List.mem_cons, List.not_mem_nil, or_false] at hv
          rcases hv with rfl | rfl
          · exact ⟨_, rfl, by omega⟩
          · exact ⟨_, rfl, by omega⟩
        have om : okS ("many" : Str) = true := by decide +kernel
        have ot : okS ("torn" : Str) = true := by decide +kernel
        walk_at "st"
        walk_at "nw"
        intro p18 H18 N18
        walk_at "st"
        have I18 := I17.kp0 N18.kp
        refine ⟨dk, B, Pd, T14, p18, _, kk, [33], rfl, I18.D, N18.at_, fun _ p19 H19 e19 hp19 => ?_, fun g => absurd g hk, fun g => absurd g hk⟩
        walk_at "st"
        walk_at "nw"
        intro p20 H20 N20
        refine c_neRef (SqT.kp N20.kp hp19) (SqT.of N20.at_) om om ?_
        walk_at "dc"
        walk_at "nw"
        intro p21 H21 N21
        walk_at "st"
        have k21 : Kp [] H18 H21 := (e19.trans N20.kp).trans N21.kp
        have I21 := I18.kp0 k21
        refine ⟨dk, B, Pd, T14, p21, _, 3, [33], rfl, I21.D, N21.at_, fun g => absurd ⟨by omega, by omega⟩ g, fun _ _ p22 H22 e22 hp22 => ?_, fun _ g => (by rw [e33] at g; cases g)⟩
        walk_at "st"
        walk_at "nw"
        intro p23 H23 N23
        refine c_neRef (SqT.kp N23.kp hp22) (SqT.of N23.at_) ot ot ?_
        walk_at "dc"
        have k23 : Kp [] H21 H23 := e22.trans N23.kp
        exact ⟨Pd, T14, LP, pt, schedS s l2 tn2, l2, tn2, _, _, _, _, _, _, _, rfl, I21.kp0 k23, ((T17.kp0 N18.kp).kp0 k21).kp0 k23, .inr ⟨l20, rfl, rfl⟩, hz2, by show s.pend.length ≤ i + 1; omega⟩
      | false =>
        walk_at "st"
        refine c_andX (fun H' => LInv K H' dk B Pd To LB LP b d s s.blocks s.pend ∧ TornAt H' tr dk B Pd To LB LP b d tn) ⟨I8, T8⟩ (fun _ R' k => ?_) (fun bb H9 ⟨I9, T9⟩ => ?_)
        · walk_at "st"
          refine ⟨b, d, 4, rfl, I8.X, by decide, fun n2 H9 n20 n21 e9 B9 => ?_⟩
          walk_at "st"
          exact k _ H9 ⟨I8.draw e9 B9, T8.kp e9 (by simpa using T8.nb.1)⟩
        clear I8 T8
        cases bb with
        | true =>
          walk_at "st"
          refine rD I9.D (by decide +kernel) ?_
          walk_at "st"
          walk_at "nw"
          intro p10 H10 N10
          have I10 := I9.kp0 N10.kp
          walk_at "st"
          refine ⟨dk, B, Pd, To, p10, s, [], rfl, I10.D, N10.at_, fun g => (by cases g), fun _ H11 Pn Tn dd => ?_⟩
          have I11 := I10.did dd
          have T11 := (T9.kp0 N10.kp).did dd
          walk_at "st"
          walk_at "nw"
          intro LPn H12 N12
          walk_at "st"
          have I12 := I11.none N12
          have es : (cutS s []).blocks = s.blocks := tear_nil inb
          exact ⟨Pn, Tn, LPn, tr, cutS s [], 0 - 1, tn, _, _, _, _, _, _, _, rfl, by rw [es]; exact I12, T11.lp N12, .inl ⟨rfl, rfl⟩, by rw [es]; exact hz2, Nat.zero_le _⟩
        | false =>
          walk_at "st"
          refine c_ite (fun g => ?_) (fun g => ?_)
          · walk_at "st"
            walk_at "nw"
            intro p10 H10 N10
            walk_at "st"
            refine c_mulL N10.at_ (by omega) (by omega) (by rw [sizeLine_eq]; simp) fun p11 H11 N11 => ?_
            rw [rep_int] at N11
            walk_at "st"
            have I11 := (I9.kp0 N10.kp).kp0 N11.kp
            have nP : p11 ≠ Pd := by
              obtain ⟨qs6, hP6, _⟩ := (I9.kp0 N10.kp).D.pnd.ex
              exact (ne_of_none hP6 N11.fr).symm
            have oa : okS ("at" : Str) = true := by decide +kernel
            have ob : okS ("block" : Str) = true := by decide +kernel
            have b1 : inAt s (z : Int) = false := by
              unfold inAt
              rw [Bool.and_eq_false_iff, decide_eq_false_iff_not, decide_eq_false_iff_not]
              omega
            have b2 : inAt s (0 : Int) = true := by
              unfold inAt
              rw [Bool.and_eq_true, decide_eq_true_eq, decide_eq_true_eq]
              omega
            have b3 : isBlk (List.replicate (31 : Int).toNat 0) = false := by decide +kernel
            refine ⟨dk, B, Pd, To, s, .int (z : Int), .ref p11, rfl, I11.D, .w (by omega) N11.at_ nP (by omega) (fun _ p12 H12 e12 hp12 => ?_) (fun g => by rw [b1] at g; cases g) (fun g => by rw [b1] at g; cases g) (fun g => by rw [b1] at g; cases g)⟩
            walk_at "st"
            walk_at "nw"
            intro p13 H13 N13
            refine c_neRef (SqT.kp N13.kp hp12) (SqT.of N13.at_) oa oa ?_
            walk_at "dc"
            walk_at "nw"
            intro p14 H14 N14
            walk_at "st"
            refine c_mulL N14.at_ (by omega) (by omega) (by rw [sizeLine_eq]; simp) fun p15 H15 N15 => ?_
            rw [rep_int] at N15
            walk_at "st"
            have k15 : Kp [] H11 H15 := ((e12.trans N13.kp).trans N14.kp).trans N15.kp
            have I15 := I11.kp0 k15
            have nP2 : p15 ≠ Pd := by
              obtain ⟨qs6, hP6, _⟩ := (I11.kp0 ((e12.trans N13.kp).trans N14.kp)).D.pnd.ex
              exact (ne_of_none hP6 N15.fr).symm
            refine ⟨dk, B, Pd, To, s, .int 0, .ref p15, rfl, I15.D, .w (by omega) N15.at_ nP2 (by omega) (fun g => by rw [b2] at g; cases g) (fun _ _ p16 H16 e16 hp16 => ?_) (fun _ g => by rw [b3] at g; cases g) (fun _ g => by rw [b3] at g; cases g)⟩
            walk_at "st"
            walk_at "nw"
            intro p17 H17 N17
            refine c_neRef (SqT.kp N17.kp hp16) (SqT.of N17.at_) ob ob ?_
            walk_at "dc"
            have k17 : Kp [] H9 H17 := (((N10.kp.trans N11.kp).trans k15).trans e16).trans N17.kp
            exact ⟨Pd, To, LP, tr, s, l, tn, _, _, _, _, _, _, _, rfl, I9.kp0 k17, T9.kp0 k17, pl, hz2, by omega⟩
          · walk_at "st"
            refine c_cut (fun σ' H' => ∃ (at_ : Int), σ' = [some (.ref a), some (.ref b), some (.int (z : Int)), some (.ref dk), v4, some (.ref LB), some (.ref LP), some (.int l), some (.ref tr), some (.int s.cuts), some (.int (0 + (i : Int))), some (.int n), v12, some (.int at_), v14, v15, v16, v17] ∧
              LInv K H' dk B Pd To LB LP b d s s.blocks s.pend ∧ TornAt H' tr dk B Pd To LB LP b d tn ∧ (at_ = 0 - 1 ∨ ∃ j : Nat, at_ = j ∧ j < z)) ?_ ?_
            · walk_at "st"
              refine c_ite (fun g => ?_) (fun g => ?_)
              · walk_at "st"
                refine ⟨b, d, _, rfl, I9.X, by omega, fun m H10 m0 m1 e10 B10 => ?_⟩
                obtain ⟨j, rfl⟩ := Int.eq_ofNat_of_zero_le m0
                walk_at "st"
                exact ⟨(j : Int), rfl, I9.draw e10 B10, T9.kp e10 (by simpa using T9.nb.1), .inr ⟨j, rfl, by omega⟩⟩
              · walk_at "st"
                exact ⟨0 - 1, rfl, I9, T9, .inl rfl⟩
            clear I9 T9
            rintro _ H10 ⟨at_, rfl, I10, T10, hat⟩
            walk_at "st"
            refine lcR_draw V.int (fun x => 0 ≤ x ∧ x ≤ 255) I10.X (by omega) (fun k H' R S hk e B3 kk => ?_) (fun pb H11 bl hD hlen hP e11 B11 hpb => ?_)
            · walk_at "st"
              refine ⟨rfl, ?_⟩
              walk_at "st"
              refine ⟨b, d, 255, rfl, B3, by decide, fun x H4 x0 x1 e4 B4 => ?_⟩
              walk_at "st"
              exact kk _ H4 (by omega) e4 B4
            have I11 := I10.draw e11 B11
            have T11 := T10.kp e11 (by simpa using T10.nb.1)
            clear I10 T10
            have bll : bl.length = 32 := hlen
            have blk : isBlk bl = true := by
              unfold isBlk
              rw [decide_eq_true bll, Bool.true_and, List.all_eq_true]
              intro x hx
              have := hP x hx
              simp [this.1, this.2]
            walk_at "st"
            refine c_cut (fun σ' H' => ∃ (v : V), σ' = [some (.ref a), some (.ref b), some (.int (z : Int)), some (.ref dk), v4, some (.ref LB), some (.ref LP), some (.int l), some (.ref tr), some (.int s.cuts), some (.int (0 + (i : Int))), some (.int n), v12, some (.int at_), some (.ref pb), some v, v16, v17] ∧ Ints H' pb bl ∧
              ((s.left = some 0 ∧ ∃ Pn Tn p, LInv K H' dk B Pn Tn LB LP b d (cutS s s.torn) s.blocks s.pend ∧ TornAt H' tr dk B Pn Tn LB LP b d tn ∧ v = .ref p ∧ SqT K H' p ([("refused" : Str), "cut"].map V.str)) ∨
               (s.left ≠ some 0 ∧ v = .non ∧ ∃ Pn s', LInv K H' dk B Pn To LB LP b d s' s.blocks s.pend ∧ TornAt H' tr dk B Pn To LB LP b d tn ∧ ((at_ = 0 - 1 ∧ s' = flushS (spendS s)) ∨ ∃ j : Nat, at_ = j ∧ j < z ∧ s' = writeS s j bl)))) ?_ ?_
            · walk_at "st"
              refine c_listL (SqL.of hpb) fun pc H12 N12 => ?_
              walk_at "st"
              have I12 := I11.kp0 N12.kp
              have T12 := T11.kp0 N12.kp
              have nPc : pc ≠ Pd := by
                obtain ⟨qs6, hP6, _⟩ := I11.D.pnd.ex
                exact (ne_of_none hP6 N12.fr).symm
              have pb12 : Ints H12 pb bl := N12.keep hpb
              refine ⟨dk, B, Pd, To, s, .int at_, .ref pc, rfl, I12.D, ?_⟩
              rcases hat with rfl | ⟨j, rfl, hj⟩
              · refine .f (fun g H13 Pn Tn p dd hp => ?_) (fun g H13 Pn dd => ?_)
                · walk_at "st"
                  exact ⟨.ref p, rfl, pb12.km bll (dd.km I12.D), .inl ⟨g, Pn, Tn, p, I12.did dd, T12.did dd, rfl, hp⟩⟩
                · walk_at "st"
                  exact ⟨.non, rfl, pb12.km bll (dd.km I12.D), .inr ⟨g, rfl, Pn, _, I12.did dd, T12.did dd, .inl ⟨rfl, rfl⟩⟩⟩
              · have b2 : inAt s (j : Int) = true := by
                  unfold inAt
                  rw [Bool.and_eq_true, decide_eq_true_eq, decide_eq_true_eq]
                  omega
                refine .w (by omega) N12.at_ nPc (by omega) (fun g => by rw [b2] at g; cases g) (fun _ g => by rw [blk] at g; cases g) (fun _ _ g H13 Pn Tn p dd hp => ?_) (fun _ _ g H13 e13 D13 => ?_)
                · walk_at "st"
                  exact ⟨.ref p, rfl, pb12.km bll (dd.km I12.D), .inl ⟨g, Pn, Tn, p, I12.did dd, T12.did dd, rfl, hp⟩⟩
                · rw [Int.toNat_natCast] at D13
                  have dd : Did K H12 H13 dk B Pd To Pd To (writeS s j bl) := ⟨fun a o ha ho => e13 a o (by simp at ha ⊢; exact ⟨ha.1, ha.2.2⟩) ho, D13, .inl rfl, .inl rfl⟩
                  walk_at "st"
                  exact ⟨.non, rfl, pb12.km bll (dd.km I12.D), .inr ⟨g, rfl, Pd, _, I12.did dd, T12.did dd, .inr ⟨j, rfl, hj, rfl⟩⟩⟩
            clear I11 T11 hpb
            rintro _ H12 ⟨v, rfl, pb12, hv⟩
            walk_at "st"
            rcases hv with ⟨hl0, Pn, Tn, p, I12, T12, rfl, hpc⟩ | ⟨hl0, rfl, Pn, s', I12, T12, hs'⟩
            · obtain ⟨rfl, rfl⟩ : l = 0 ∧ s.torn = tn := by
                rcases pl with ⟨_, h⟩ | ⟨_, h, h2⟩
                · rw [hl0] at h; cases h
                · rw [hl0] at h; injection h with h; exact ⟨h.symm, h2⟩
              obtain ⟨qs, l1, l2, l3⟩ := I12.lp.ex
              have km : Km H12 H12 := Km.refl
              have htr := T12.at_
              have LPq : SqL K H12 LP (qs.map V.ref) := SqL.of l1
              walk_at "dc"
              walk_at "nw"
              intro p13 H13 N13
              refine c_neRef (SqT.kp N13.kp hpc) (SqT.of N13.at_) (by decide +kernel) (by decide +kernel) ?_
              have l13 := N13.keep l1
              have htr13 := N13.keep htr
              have I13 := I12.kp0 N13.kp
              have T13 := T12.kp0 N13.kp
              obtain ⟨t1, t2, t3, t4, _⟩ := T13.nb
              walk_at "dc"
              rw [List.length_map, List.length_map, l2]
              obtain ⟨mm, hmm, hmm2⟩ : ∃ mm : Nat, min ((s.torn.length : Nat) : Int) ((s.pend.length : Nat) : Int) = (mm : Int) ∧ mm = min s.torn.length s.pend.length := ⟨min s.torn.length s.pend.length, by omega, rfl⟩
              rw [hmm]
              refine c_r1F (by omega) ?_
              rw [Int.toNat_natCast]
              have okt := I9ok
              refine forR (n := mm) (fun k σ H' => ∃ v4 v16, σ = [some (.ref a), some (.ref b), some (.int (z : Int)), some (.ref dk), v4, some (.ref LB), some (.ref LP), some (.int 0), some (.ref tr), some (.int s.cuts), some (.int (0 + (i : Int))), some (.int n), v12, some (.int at_), some (.ref pb), some (.ref p), v16, v17] ∧ Kp [LB] H13 H' ∧ BlksAt H' LB (tear s.torn s.blocks s.pend k)) ⟨_, _, rfl, Kp.refl, I13.lb⟩ ?_ ?_
              · rintro k σ H14 hk ⟨v4, v16, rfl, e1, hB1⟩
                obtain ⟨e, he⟩ : ∃ e, s.pend[k]? = some e := ⟨_, List.getElem?_eq_getElem (by omega)⟩
                obtain ⟨q0, pb2, f1, f2, f3⟩ := l3 k e he
                obtain ⟨c, hc⟩ : ∃ c, s.torn[k]? = some c := ⟨_, List.getElem?_eq_getElem (by omega)⟩
                obtain ⟨c0, c1⟩ := okT_at okt hc
                have cn : c.toNat = tornOf s.torn k := by unfold tornOf; rw [List.getD_eq_getElem?_getD, hc]; rfl
                have ein := inb e (List.mem_of_getElem? he)
                have el := I12.lp.len e (List.mem_of_getElem? he)
                have km1 : Km H12 H14 := (Km.kp N13.kp).trans (Km.of e1 (fun a ha => by rw [List.mem_singleton.mp ha]; exact I13.lb.mu))
                have f2' := km1.ki _ _ _ f2
                have f3' := f3.km el km1
                have LP13 := e1.at1 I13.n1.symm l13
                have pt13 := e1.at1 t2 htr13
                obtain ⟨ps, b1, b2, b3⟩ := hB1.ex
                have tl := tear_len s.torn s.blocks s.pend k
                obtain ⟨po, o1, o2⟩ := b3 e.1 _ (getD_blk (show e.1 < (tear s.torn s.blocks s.pend k).length by omega))
                have ol : ((tear s.torn s.blocks s.pend k).getD e.1 []).length = 32 := hB1.len _ (List.mem_of_getElem? (getD_blk (show e.1 < (tear s.torn s.blocks s.pend k).length by omega)))
                have et : tear s.torn s.blocks s.pend (k + 1) = (tear s.torn s.blocks s.pend k).set e.1 (e.2.take (tornOf s.torn k) ++ ((tear s.torn s.blocks s.pend k).getD e.1 []).drop (tornOf s.torn k)) := by
                  conv => lhs; unfold tear
                  rw [he]
                have z0 : (0 : Int) + (k : Int) = (k : Int) := by omega
                walk_at "st"
                rw [z0]
                refine c_ixL (SqL.of LP13) (atI_nat (j := k) (by rw [List.getElem?_map, f1]; rfl)) ?_
                walk_at "st"
                refine c_ixL (SqL.of LP13) (atI_nat (j := k) (by rw [List.getElem?_map, f1]; rfl)) ?_
                walk_at "st"
                refine c_ixL (SqL.of pt13) (atI_nat (j := k) (by rw [List.getElem?_map, hc]; rfl)) ?_
                walk_at "st"
                refine c_slL (SqL.of f3') fun p3 H14 N14 => ?_
                rw [cutV_ints, cutL_to c0 (by omega), cn] at N14
                walk_at "st"
                refine c_ixL (SqL.of (N14.keep b1)) (atI_nat (j := e.1) (by rw [List.getElem?_map, o1]; rfl)) ?_
                walk_at "st"
                refine c_ixL (SqL.of (N14.keep pt13)) (atI_nat (j := k) (by rw [List.getElem?_map, hc]; rfl)) ?_
                walk_at "st"
                refine c_slL (SqL.of (N14.keep o2)) fun p4 H15 N15 => ?_
                rw [cutV_ints, cutL_from c0 (by omega), cn] at N15
                walk_at "st"
                refine c_addL (N15.keep N14.at_) N15.at_ (by rw [List.length_map, List.length_map, List.length_take, List.length_drop, sizeLine_eq]; omega) fun p5 H16 N16 => ?_
                rw [← List.map_append] at N16
                have k1316 : Kp [] _ H16 := (N14.kp.trans N15.kp).trans N16.kp
                walk_at "st"
                refine c_setL (k1316.at0 b1) (ixN_rng (by omega) (by rw [List.length_map, b2]; omega)) ?_
                rw [Int.toNat_natCast]
                walk_at "st"
                refine ⟨_, _, rfl, (e1.trans k1316.mono).trans (Kp.mut (by simp)), ?_⟩
                rw [et]
                refine (hB1.kp0 k1316).put (k1316.at0 b1) N16.at_ ?_
                rw [List.length_append, List.length_take, List.length_drop, ol, el]
                have : tornOf s.torn k ≤ 32 := by omega
                omega
              · rintro σ H14 ⟨v4, v16, rfl, e1, hB1⟩
                rw [hmm2, tear_min inb] at hB1
                walk_at "st"
                walk_at "nw"
                intro LPn H15 N15
                walk_at "st"
                exact ⟨Pn, Tn, LPn, tr, cutS s s.torn, 0 - 1, s.torn, _, _, _, _, _, _, _, rfl, (I13.blks e1 hB1).none N15, (T13.kp e1 (by simpa using t2)).lp N15, .inl ⟨rfl, rfl⟩, by rw [← hz2]; exact tear_len _ _ _ _, Nat.zero_le _⟩
            · have hln : l ≠ 0 := by
                rcases pl with ⟨h, _⟩ | ⟨_, h, _⟩
                · omega
                · exact fun e => hl0 (by rw [h, e])
              refine c_iteF (decide_eq_false hln) ?_
              obtain ⟨qs, l1, l2, l3⟩ := I12.lp.ex
              obtain ⟨t1, t2, t3, t4, _⟩ := T12.nb
              walk_at "dc"
              refine c_cut (fun σ' H' => ∃ l' : Int, σ' = [some (.ref a), some (.ref b), some (.int (z : Int)), some (.ref dk), v4, some (.ref LB), some (.ref LP), some (.int l'), some (.ref tr), some (.int s.cuts), some (.int (0 + (i : Int))), some (.int n), v12, some (.int at_), some (.ref pb), some .non, v16, v17] ∧ H' = H12 ∧ Plan (spendS s) l' tn) ?_ ?_
              · walk_at "st"
                refine c_ite (fun g => ?_) (fun g => ?_)
                · walk_at "st"
                  refine ⟨l - 1, rfl, rfl, ?_⟩
                  rcases pl with ⟨h, _⟩ | ⟨h0, h, h2⟩
                  · omega
                  · exact .inr ⟨by omega, by unfold spendS; rw [h]; rfl, h2⟩
                · walk_at "st"
                  refine ⟨l, rfl, rfl, ?_⟩
                  rcases pl with ⟨h, h2⟩ | ⟨h0, h, h2⟩
                  · exact .inl ⟨h, by unfold spendS; rw [h2]; rfl⟩
                  · omega
              rintro _ _ ⟨l', rfl, rfl, pl'⟩
              rcases hs' with ⟨rfl, rfl⟩ | ⟨j, rfl, hj, rfl⟩
              · have kq : SqL K _ LP (qs.map V.ref) := SqL.of l1
                walk_at "dc"
                refine forQ (itn_l (ys := qs) (u := V.ref)) (fun k σ H' => ∃ v17, σ = [some (.ref a), some (.ref b), some (.int (z : Int)), some (.ref dk), v4, some (.ref LB), some (.ref LP), some (.int l'), some (.ref tr), some (.int s.cuts), some (.int (0 + (i : Int))), some (.int n), v12, some (.int (0 - 1)), some (.ref pb), some .non, v16, v17] ∧ Kp [LB] _ H' ∧ BlksAt H' LB (flush s.blocks s.pend k)) ⟨_, rfl, Kp.refl, I12.lb⟩ (by rintro k σ H' ⟨_, _, e, _⟩; exact SqL.kp1 e I12.n1.symm kq) ?_ ?_
                · rintro k y σ H13 H14 hk ⟨v17, rfl, e1, hB1⟩ ⟨rfl, w, hw, rfl⟩
                  obtain ⟨e, he⟩ : ∃ e, s.pend[k]? = some e := ⟨_, List.getElem?_eq_getElem (by omega)⟩
                  obtain ⟨q0, pb2, f1, f2, f3⟩ := l3 k e he
                  rw [hw] at f1
                  obtain rfl := Option.some.inj f1
                  have ein := inb e (List.mem_of_getElem? he)
                  have el := I12.lp.len e (List.mem_of_getElem? he)
                  have km1 := Km.of e1 (fun a ha => by rw [List.mem_singleton.mp ha]; exact I12.lb.mu)
                  have f2' := km1.ki _ _ _ f2
                  have f3' := f3.km el km1
                  obtain ⟨ps, b1, b2, b3⟩ := hB1.ex
                  have tl := flush_len s.blocks s.pend k
                  have et : flush s.blocks s.pend (k + 1) = (flush s.blocks s.pend k).set e.1 e.2 := by
                    conv => lhs; unfold flush
                    rw [he]
                  walk_at "st"
                  refine c_setL b1 (ixN_rng (by omega) (by rw [List.length_map, b2]; omega)) ?_
                  rw [Int.toNat_natCast]
                  walk_at "st"
                  refine ⟨_, rfl, e1.trans (Kp.mut (by simp)), ?_⟩
                  rw [et]
                  exact hB1.put b1 f3' el
                · rintro σ H13 ⟨v17, rfl, e1, hB1⟩
                  rw [l2] at hB1
                  walk_at "st"
                  walk_at "nw"
                  intro LPn H14 N14
                  walk_at "st"
                  exact ⟨Pn, To, LPn, tr, flushS (spendS s), l', tn, _, _, _, _, _, _, _, rfl, (I12.blks e1 hB1).none N14, (T12.kp e1 (by simpa using t2)).lp N14, pl', by rw [← hz2]; exact flush_len _ _ _, Nat.zero_le _⟩
              · walk_at "st"
                refine c_iteF (decide_eq_false (by omega)) ?_
                walk_at "st"
                walk_at "nw"
                intro pe H13 N13
                have l13 := N13.keep l1
                walk_at "st"
                have I13 := I12.kp0 N13.kp
                have put := I13.lp.put (e := (j, bl)) l13 N13.at_ (N13.keep pb12) bll
                exact ⟨Pn, To, LP, tr, writeS s j bl, l', tn, _, _, _, _, _, _, _, rfl, I13.pnds (Kp.mut (by simp)) put, (T12.kp0 N13.kp).kp (ms := [LP]) (Kp.mut (by simp)) (by simpa using t3), pl', hz2, by show (s.pend ++ [(j, bl)]).length ≤ i + 1; rw [List.length_append, List.length_singleton]; omega⟩
    · clear I8 T8 inb
      rintro _ H9 ⟨Pd, To, LP, tr, s, l, tn, v4, v12, v13, v14, v15, v16, v17, rfl, I, TT, pl, hz2, hp⟩
      obtain ⟨qs, l1, l2, _⟩ := I.lp.ex
      walk_at "st"
      refine rD I.D (by decide +kernel) ?_
      walk_at "st"
      refine ⟨dk, B, Pd, To, s, rfl, I.D, ?_⟩
      walk_at "st"
      rw [List.length_map, l2, decide_eq_true rfl]
      walk_at "dc"
      refine rD I.D (by decide +kernel) ?_
      walk_at "st"
      refine ⟨dk, B, Pd, To, s, rfl, I.D, ?_⟩
      walk_at "st"
      rw [decide_eq_true rfl]
      walk_at "dc"
      exact ⟨Pd, To, LP, tr, s, l, tn, _, _, _, _, _, _, _, _, _, rfl, I, TT, pl, hz2, hp⟩
  · rintro σ H7 ⟨Pd, To, LP, tr, s, l, tn, v4, v10, v11, v12, v13, v14, v15, v16, v17, rfl, I, TT, pl, hz2, hp⟩
    have inb : ∀ e ∈ s.pend, e.1 < s.blocks.length := fun e he => (I.D.ok.pnd e he).1
    walk_at "st"
    refine rD I.D (by decide +kernel) ?_
    walk_at "st"
    walk_at "nw"
    intro p10 H10 N10
    have I10 := I.kp0 N10.kp
    walk_at "st"
    refine ⟨dk, B, Pd, To, p10, s, [], rfl, I10.D, N10.at_, fun g => (by cases g), fun _ H11 Pn Tn dd => ?_⟩
    have I11 := I10.did dd
    have es : (cutS s []).blocks = s.blocks := tear_nil inb
    have rd : ∀ j, readS (cutS s []) j = s.blocks.getD j [] := fun j => by
      show (cutS s []).blocks.getD j [] = _
      rw [es]
    walk_at "st"
    refine lcQ_new (itn_r (lo := 0) (n := z)) (fun i => .lst ((s.blocks.getD i []).map V.int)) (by omega) (fun _ _ => trivial) (fun i y H' H'' R S hi e w k => ?_) (fun Dl qs H12 hB e12 hacc hql hqs => ?_)
    · obtain ⟨rfl, rfl⟩ := w
      have D12 := I11.D.kp0 e
      walk_at "st"
      refine ⟨rfl, ?_⟩
      walk_at "st"
      refine rD D12 (by decide +kernel) ?_
      have hin : inAt (cutS s []) (0 + (i : Int)) = true := by
        unfold inAt
        rw [es, Bool.and_eq_true, decide_eq_true_eq, decide_eq_true_eq]
        omega
      walk_at "st"
      refine ⟨dk, B, Pn, Tn, cutS s [], 0 + (i : Int), rfl, D12, fun _ p H13 N13 => ?_, fun g => by rw [hin] at g; cases g⟩
      refine k p H13 N13.fr N13.kp ?_
      rw [N13.at_, rd]
      have : (0 + (i : Int)).toNat = i := by omega
      rw [this]
    obtain ⟨ps, h1, h2, h3⟩ := (I11.kp0 e12).lb.ex
    walk_at "st"
    have x1 : Dp K H12 (.ref Dl) (.list (s.blocks.map blkD)) := .lst (SqL.of hacc) (dpAll_blks (by rw [hql, hz2]) fun i b hb => by
      obtain ⟨q, hq⟩ : ∃ q, qs[i]? = some q := ⟨_, List.getElem?_eq_getElem (by rw [hql, ← hz2]; exact (List.getElem?_eq_some_iff.mp hb).1)⟩
      refine ⟨q, hq, ?_⟩
      have := (hqs i q hq).2
      rw [List.getD_eq_getElem?_getD, hb] at this
      exact this)
    have x2 : Dp K H12 (.ref LB) (.list (s.blocks.map blkD)) := .lst (SqL.of h1) (dpAll_blks h2 h3)
    refine c_eqSame x1 x2 (shaped_blks _) ?_
    exact q _
theorem D_law (T : TX K mg) : DefAt P w K mg base CX0 "law" 8 ["_law_script"] (spLaw K) :=
  def_of T 9 20 sc_law bn_law (by walk_at "len") (b_law T)
end
end K42


namespace K42
open PySem L2 Sa
abbrev R : PySem.W.OpenRow := PySem.W.OpenLaw.row PySem.Challenge.rw_sameanswers_k42_cut_on_schedule
abbrev qv : Program := PySem.W.view R.prog [21]
abbrev hk : PySem.W.Hook := He.hookX 4 fa fn [] [] (exs fx)
def ob (s : PySem.W.SharedT) : He.AlX := He.obsX 4 fa fn [] [] (exs fx) (HandSHeadRun.getT s)
theorem ob_eq (s : PySem.W.SharedT) : ob s = hk.obs s.abs := He.obsX_eq (HandSHeadRun.getT_eq s)
def loose0 : List PySem.Str := ["_wall", "TrunkError", "OutOfRange", "PowerCut", "BLOCK", "BLOCKS_LEAST", "BLOCKS_MOST", "COUNT_MOST", "_is_block", "_check_torn", "Disk", "_law_cell", "_law_digits", "_law_draw", "_law_torn", "_law_schedule", "_law_do_raw", "_law_do"]
def loose : List PySem.Str := loose0
theorem run (w : World) : HandSHeadRun.RunEq R qv hk ob 4000 loose w := by
  intro os
  kernel_rfl
theorem atEnd {P : Program} {w : World} {K : PySem.W.Frag} {h : Heap} {mg : Str → Option Value} {f : Addr} (KX : K.In h) (G : h.Ns mainGlobals mg) (hf : mg "law" = some (.ref f)) (c : He.SaysD fa fn K) (cx : exs fx K = true) :
    ∃ fd : FuncData, (∀ (s : Shared) (v : Value), BindsTo s fd ⟨[v], []⟩ [("_law_script", v)]) ∧ ∀ base : Heap, K.In base → base.Ns mainGlobals mg → FnOk P w K mg base CX0 8 f fd ["_law_script"] (spLaw K) :=
  law_of KX G c hf 9 20 sc_law bn_law (fun vs H Q E z => by obtain ⟨a, ns, rfl, _⟩ := z; rfl) fun base => b_law ⟨h, KX, G, c, cx⟩
end K42
open PySem PySem.W PySem.Calls PyProof.Rows
set_option maxRecDepth 100000 in
set_option maxHeartbeats 0 in
theorem PySem.Challenge.cw_sameanswers_k42_cut_on_schedule_holds : PySem.Challenge.rw_sameanswers_k42_cut_on_schedule.Holds := by
  w_on; o_law
  refine HandSHeadRun.head_any (r := OpenLaw.row PySem.Challenge.rw_sameanswers_k42_cut_on_schedule) (q := K42.qv) (H := K42.hk) (ob := K42.ob) (M := 4000) (loose := K42.loose) (d := HandSHeadRun.topDef (OpenLaw.row PySem.Challenge.rw_sameanswers_k42_cut_on_schedule).prog 21) (kwd := []) K42.ob_eq
    (by kernel_rfl) (fun s => by kernel_rfl) K42.run (by kernel_rfl) (by kernel_rfl) (by kernel_rfl) (by rfl) (by first | assumption | decide +kernel) (by decide +kernel) ⟨rfl, rfl, rfl, rfl, rfl, by decide +kernel⟩ ?hw ?hc
  case hw => w_witness2
  case hc =>
    refine L2.walk_ofE (l := PySem.Challenge.rw_sameanswers_k42_cut_on_schedule) (n := 63) (k := 8) (x := "_law_script") (CX := L2.CX0) rfl (by decide) (by kernel_rfl) ⟨rfl, by decide, by decide⟩ ?F (fun _ _ _ _ z => z)
    intro w mg fa h Y G hmg0
    obtain ⟨K, KX, c⟩ := Y
    have cd := c.t.d
    have cx := c.more
    have hmg : mg ("law" : PySem.Str) = some (.ref fa) := by
      have e : (HandSHeadRun.topDef (OpenLaw.row PySem.Challenge.rw_sameanswers_k42_cut_on_schedule).prog 21).name = ("law" : PySem.Str) := by kernel_rfl
      rw [← e]
      exact hmg0
    obtain ⟨fd, hb, hF⟩ := K42.atEnd (P := (PySem.Challenge.rw_sameanswers_k42_cut_on_schedule).prog) (w := w) KX G hmg cd cx
    exact ⟨K, fd, K42.spLaw K, KX, hb, fun H a ns hl _ hS => ⟨a, ns, rfl, hS, fun _ => rfl⟩, hF⟩
#print axioms PySem.Challenge.cw_sameanswers_k42_cut_on_schedule_holds




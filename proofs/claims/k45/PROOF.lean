import PyProof.Rows.All
import Wide.All
import OpenK.AllK
import Wide.FinOn
import HandS.ForMost
import HandS.ForExc
import HandS.Evl
import HandS.TupAny
import HandS.TupMul
import HandS.TryMany
import HandS.ExcField
import HandS.ExcInit
import HandS.Zip
import HandS.DictComp
import HandS.Defaults
import HandS.More
import HandS.SetKeys
import HandS.Deep
import HandS.Codes
import HandS.HeadHook2
import HandS.HeadHook4
import HandS.HeadEnd
import HandS.Head2
import KE.KIsAll
import KE.KEqSeq
import PyProof.StrLawsChain
import PyProof.StrLawsTight
import PyProof.StrLawsAffix
import HandS.IsInst
import KE.BitLaws
import HandS.ExcIs
import HandS.Strs
import PyProof.Rows.StrMeet
import KE.GoesEnum
import KE.GoesMore
import HandS.Walk
import HandS.Style
import HandS.ExcOwn
import PyProof.P3Eq
import HandS.SetFor
import KE.SortData
import HandS.Remove
import KE.KTryMore
import KE.IntTextLaws
import HandS.FStr
import PySem.Challenge.RW_sameanswers_k45_records_written_and_read
set_option Elab.async false
set_option linter.all false
set_option maxRecDepth 100000
set_option maxHeartbeats 4000000
namespace Sa
open PySem PySem.Spec PyProof.Rows L2

section
variable {X : Cx}
def orR (r r' : R2) : R2 := fun x y H Q => r x y H Q ∨ r' x y H Q
def rAddS : R2 := fun x y H Q => ∃ i j, x = .str i ∧ y = .str j ∧ i.length + j.length ≤ sizeLine ∧ Q (.str (i ++ j)) H
def rAddU (K : PySem.W.Frag) : R2 := orR (rI0 fun i j => .int (i + j)) (orR rAddS (orR rCat (rCatA K)))
theorem op_addU {K : PySem.W.Frag} (hK : X.K = K := by rfl) : OpR X (binaryOp .Add) (rAddU K) := hK ▸ op_add.or (op_add_str.or (op_cat.or op_catA))
def rptS (z : Str) (n : Int) : Str := ⟨(List.replicate n.toNat z.cps.toList).flatten.toArray⟩
theorem foldl_cps (a : Array Nat) : ∀ (m : Nat) (b : Array Nat), (List.replicate m a).foldl (fun x y => x ++ y) b = (b.toList ++ (List.replicate m a.toList).flatten).toArray
  | 0, b => by simp
  | m + 1, b => by
    rw [List.replicate_succ, List.foldl_cons, foldl_cps a m (b ++ a), List.replicate_succ, List.flatten_cons, Array.toList_append, List.append_assoc]
def rMulS : R2 := fun x y H Q => ∃ (z : Str) (n : Int), x = .str z ∧ y = .int n ∧ -(2 ^ 63) ≤ n ∧ n < 2 ^ 63 ∧ z.length * n.toNat ≤ sizeLine ∧ Q (.str (rptS z n)) H
theorem rptS_len (z : Str) (n : Int) : (rptS z n).length = z.length * n.toNat := by
  show ((List.replicate n.toNat z.cps.toList).flatten.toArray).size = z.cps.size * n.toNat
  rw [List.size_toArray, List.length_flatten, List.map_replicate, List.sum_replicate_nat, Array.length_toList, Nat.mul_comm]
theorem rptS_one {z : Str} : rptS z 1 = z := by
  show Str.mk _ = z
  cases z
  simp [rptS]
theorem op_mulS : OpR X (binaryOp .Mult) rMulS := by
  intro pins s σ H x y v u Q I rx ry h
  obtain ⟨z, n, rfl, rfl, h1, h2, hl, q⟩ := h
  obtain ⟨t, rfl⟩ := rx
  obtain ⟨t', rfl⟩ := ry
  have fin : ∀ t tk, EP X pins σ Q (.str (rptS z n) t) { s with toks := tk } := fun t tk => ⟨.str (rptS z n), H, I.tok _, ⟨_, rfl⟩, q⟩
  have e63 : (2 : Int) ^ 63 = 9223372036854775808 := by decide
  rw [e63] at h1 h2
  refine PySem.P.mul_str (by rw [e63, decide_eq_false (by omega), decide_eq_false (by omega)]; rfl) (fun hn hz hgt => ?_) (fun _ _ => decide_eq_false (by omega)) ?_
  · rw [sizeLine_eq] at hl
    have hz1 : n ≠ 1 ∧ z.length ≠ 0 := by simpa using hz
    have e : ((z.length * n.toNat : Nat) : Int) = (z.length : Int) * n := by rw [Int.natCast_mul]; congr 1; omega
    have g : (z.length : Int) ≤ 9223372036854775807 / n := (Int.le_ediv_iff_mul_le (by omega)).mpr (by omega)
    rw [e63] at hgt
    have g2 : (9223372036854775808 - 1 : Int) / n = 9223372036854775807 / n := rfl
    omega
  · by_cases hn : n < 1
    · rw [if_pos hn]
      refine ⟨by decide, ?_⟩
      have e : rptS z n = Str.empty := by
        have : n.toNat = 0 := by omega
        unfold rptS
        rw [this]
        rfl
      rw [← e]
      exact fin _ _
    · rw [if_neg hn]
      by_cases h : (n == 1 || z.length == 0) = true
      · rw [if_pos h]
        have e : rptS z n = z := by
          rcases Bool.or_eq_true _ _ |>.mp h with h | h
          · rw [eq_of_beq h, rptS_one]
          · have hl0 : z.cps = #[] := Array.size_eq_zero_iff.mp (eq_of_beq h)
            have hz : z = ⟨#[]⟩ := by cases z; simp_all
            subst hz
            simp [rptS]
        have f := fin t s.toks
        rw [e] at f
        exact f
      · rw [if_neg h]
        have e : (⟨(List.replicate n.toNat z.cps).foldl (· ++ ·) #[]⟩ : Str) = rptS z n := by
          rw [foldl_cps]
          simp [rptS]
        rw [e]
        exact ⟨by rw [rptS_len]; exact hl, fin _ _⟩
def rMulU (K : PySem.W.Frag) : R2 := orR (rI CMul fun i j => .int (i * j)) (orR rRep (orR (rRepT K) rMulS))
theorem op_mulU {K : PySem.W.Frag} (hK : X.K = K := by rfl) : OpR X (binaryOp .Mult) (rMulU K) := hK ▸ op_mul.or (op_rep.or (op_repT.or op_mulS))
def rSubU : R2 := rI0 fun i j => .int (i - j)
theorem op_subU : OpR X (binaryOp .Sub) rSubU := op_sub
def rDivU : R2 := rI CDiv fun i j => .int (i / j)
theorem op_divU : OpR X (binaryOp .FloorDiv) rDivU := op_fdiv
def rModU : R2 := rI (fun _ j => 0 < j) fun i j => .int (i % j)
theorem op_modU : OpR X (binaryOp .Mod) rModU := op_mod
def rBandU : R2 := rI0 fun i j => .int (Builtin.bitAnd i j)
def rOrdS (p : List Nat → List Nat → Bool) : R2 := fun x y H Q => ∃ i j, x = .str i ∧ y = .str j ∧ Q (.bl (p i.cps.toList j.cps.toList)) H
def rLtU : R2 := orR (rI0 fun i j => .bl (decide (i < j))) (rOrdS fun a b => decide (a < b))
def rLeU : R2 := orR (rI0 fun i j => .bl (decide (i ≤ j))) (rOrdS fun a b => !decide (b < a))
def rGtU : R2 := orR (rI0 fun i j => .bl (decide (j < i))) (rOrdS fun a b => decide (b < a))
def rGeU : R2 := orR (rI0 fun i j => .bl (decide (j ≤ i))) (rOrdS fun a b => !decide (a < b))
theorem op_ltU : OpR X (compareOp .Lt) rLtU := op_lt.or op_lt_str
theorem op_leU : OpR X (compareOp .LtE) rLeU := op_le.or op_le_str
theorem op_gtU : OpR X (compareOp .Gt) rGtU := op_gt.or op_gt_str
theorem op_geU : OpR X (compareOp .GtE) rGeU := op_ge.or op_ge_str
def rEqU (K : PySem.W.Frag) : R2 := orR rEq (rEqD K)
def rNeU (K : PySem.W.Frag) : R2 := orR rNe (rNeD K)
theorem op_eqU {K : PySem.W.Frag} {A : Around} (hu : A.units + 64 < cLine) (hA : X.A = A := by rfl) (hK : X.K = K := by rfl) : OpR X (compareOp .Eq) (rEqU K) := hK ▸ op_eq.or (op_eqD (by rw [hA]; exact hu))
theorem op_neU {K : PySem.W.Frag} {A : Around} (hu : A.units + 64 < cLine) (hA : X.A = A := by rfl) (hK : X.K = K := by rfl) : OpR X (compareOp .NotEq) (rNeU K) := hK ▸ op_ne.or (op_neD (by rw [hA]; exact hu))
def rIsU : R2 := fun x y H Q => y = .non ∧ Q (.bl (decide (x = .non))) H
def rIsNotU : R2 := fun x y H Q => y = .non ∧ Q (.bl (!decide (x = .non))) H
theorem op_isU : OpR X (compareOp .Is) rIsU := op_isN
theorem op_isNotU : OpR X (compareOp .IsNot) rIsNotU := op_notN
def rInC : R2 := fun x y H Q => ∃ (c : Nat) (z : Str), x = .str ⟨#[c]⟩ ∧ y = .str z ∧ Q (.bl (decide (c ∈ z.cps.toList))) H
def rInT : R2 := fun x y H Q => ∃ i j, x = .str i ∧ y = .str j ∧ Q (.bl (!(Builtin.Str.occurrences j i 0 j.length 1).isEmpty)) H
def rNotInC : R2 := fun x y H Q => ∃ (c : Nat) (z : Str), x = .str ⟨#[c]⟩ ∧ y = .str z ∧ Q (.bl (!decide (c ∈ z.cps.toList))) H
def rNotInT : R2 := fun x y H Q => ∃ i j, x = .str i ∧ y = .str j ∧ Q (.bl (!(!(Builtin.Str.occurrences j i 0 j.length 1).isEmpty))) H
def rInU (K : PySem.W.Frag) : R2 := orR rInC (orR rInT (rIn K false))
def rNotInU (K : PySem.W.Frag) : R2 := orR rNotInC (orR rNotInT (rIn K true))
theorem op_inU {K : PySem.W.Frag} (hK : X.K = K := by rfl) : OpR X (compareOp .In) (rInU K) := hK ▸ op_in_sign.or (op_in_str.or op_in_seq)
theorem op_notInU {K : PySem.W.Frag} (hK : X.K = K := by rfl) : OpR X (compareOp .NotIn) (rNotInU K) := hK ▸ op_notIn_sign.or (op_notin_str.or op_notIn_seq)
def rSlU (K : PySem.W.Frag) : V → Option Int → Option Int → Hp → VK → Prop := fun x lo hi H Q => rSlL K x lo hi H Q ∨ rSlS x lo hi H Q ∨ rSlA K x lo hi H Q
theorem ix_U {K : PySem.W.Frag} (hK : X.K = K := by rfl) : IxR X (rIx K) := hK ▸ ix_seq
theorem sl_U {K : PySem.W.Frag} (hK : X.K = K := by rfl) : SlR X (rSlU K) := hK ▸ L2.SlR.or sl_list (L2.SlR.or sl_str sl_tupA)
def rAnyI (K : PySem.W.Frag) : List V → Hp → VK → Prop := fun vs H Q => ∃ (a : Addr) (ns : List Int), vs = [V.ref a] ∧ SqL K H a (ns.map V.int) ∧ Q (.bl (ns.any (· != 0))) H
theorem any_rangeI : ∀ ns : List Int, ((List.range ns.length).any fun i => ns.getD i 0 != 0) = ns.any (· != 0)
  | [] => rfl
  | n :: ns => by
    have ih := any_rangeI ns
    rw [List.length_cons, List.range_succ_eq_map, List.any_cons, List.any_map, List.any_cons, ← ih]
    rfl
theorem cr_anyI (hc : X.calm = true) : CallR X (.builtin "any") (rAnyI X.K) := by
  intro pins s σ H vs us Q I r h
  obtain ⟨a, ns, rfl, hs, q⟩ := h
  obtain ⟨its, rv, hl, _⟩ := I.list hs
  have hi := rv.ints
  have hlen : its.length = ns.length := by rw [← rv.length, List.length_map]
  rw [Vals.ref1 r]
  refine call_any_walk (iter_any hl.isList fun s₂ e2 st hne => ?_)
  cases e2
  refine ⟨_, _, _, _, _, _, fun i => ns.getD i 0 != 0, rfl, Walks.list (A := X.A.in1) (I.ok.hd hc) _ a hne its.toArray, st, fun i v s Q E hv hq => ?_, fun h' tk hk => ?_⟩
  · have hv' : its[i]? = some v := by simpa using hv
    obtain ⟨n, hn⟩ : ∃ n, ns[i]? = some n := by
      have hlt := (List.getElem?_eq_some_iff.mp hv').1
      exact ⟨ns[i]'(by omega), List.getElem?_eq_getElem (by omega)⟩
    obtain ⟨u, hu, ru⟩ := rv.get (i := i) (x := V.int n) (by rw [List.getElem?_map, hn]; rfl)
    rw [hv'] at hu
    cases hu
    obtain ⟨t, rfl⟩ := ru
    have e : ns.getD i 0 = n := by rw [List.getD_eq_getElem?_getD, hn]; rfl
    have hq' : Q (ns.getD i 0 != 0) s := hq
    rw [e] at hq'
    exact truthy_int hq'
  · refine ⟨.bl _, H, I.kept fun b o eo => hk b o (fun hmem => ?_) (Heap.get?_push_of_some _ eo), ?_, q⟩
    · rcases List.mem_cons.mp hmem with e1 | hmem
      · exact absurd (e1 ▸ Heap.lt_size eo) (Nat.lt_irrefl _)
      · cases hmem
    · show Value.bool _ = Value.bool _
      rw [List.size_toArray, hlen, any_rangeI]
def rAnyU (K : PySem.W.Frag) : List V → Hp → VK → Prop := fun vs H Q => rAny K vs H Q ∨ rAnyI K vs H Q
theorem CallR.or2 {f : Value} {r r' : List V → Hp → VK → Prop} (h : CallR X f r) (h' : CallR X f r') : CallR X f (fun vs H Q => r vs H Q ∨ r' vs H Q) := by
  intro pins s σ H vs us Q I rr q
  exact q.elim (fun q => h pins s σ H vs us Q I rr q) (fun q => h' pins s σ H vs us Q I rr q)
theorem cr_anyU {K : PySem.W.Frag} (hc : X.calm = true) (hK : X.K = K := by rfl) : CallR X (.builtin "any") (rAnyU K) := hK ▸ CallR.or2 (cr_any hc) (cr_anyI hc)
end
end Sa

namespace Sa
open PySem L2

def dOf (x : Str) (st : Stmt) : He.DefD := ⟨(x, none), x, x, defArgs st, defBody st, defScope st, [], []⟩
inductive Fx where
  | oex (x : Str)
  | xf (x : Str)
  | cst (x : Str) (d : PyData)
  | cstA (p : PySem.W.Frag → Addr) (d : PyData)
  | exi (x : Str)
  | kit (x y : Str) (b : Bool)
  | gaeq (x y : Str)
mutual
def cstB (K : PySem.W.Frag) : PyData → Value → Bool
  | .none, v => decide (v = .none)
  | .bool b, v => decide (v = .bool b)
  | .int i, v => (match v with
    | .int j _ => decide (i = j)
    | _ => false)
  | .str x, v => (match v with
    | .str y _ => decide (x = y)
    | _ => false)
  | .list _, _ => false
  | .tuple ds, v => (match v with
    | .ref a => (match K.lookup a with
      | some ⟨.type t, _, .seq its _, _⟩ => decide (t = "tuple") && (decide (its.size ≤ sizeLine) && cstAll K ds its.toList)
      | _ => false)
    | _ => false)
  | .dict _, _ => false
def cstAll (K : PySem.W.Frag) : List PyData → List Value → Bool
  | [], [] => true
  | d :: ds, v :: vs => cstB K d v && cstAll K ds vs
  | [], _ :: _ => false
  | _ :: _, [] => false
end
mutual
theorem cstB_ok {K : PySem.W.Frag} : ∀ (d : PyData) (v : Value), cstB K d v = true → ∃ x, RelV x v ∧ ∀ H, Dp K H x d
  | .none, v, h => by
    unfold cstB at h
    cases of_decide_eq_true h
    exact ⟨.non, rfl, fun H => .non⟩
  | .bool b, v, h => by
    unfold cstB at h
    cases of_decide_eq_true h
    exact ⟨.bl b, rfl, fun H => .bl b⟩
  | .int i, v, h => by
    unfold cstB at h
    split at h
    · rename_i j t
      cases of_decide_eq_true h
      exact ⟨.int i, ⟨t, rfl⟩, fun H => .int i⟩
    · cases h
  | .str x, v, h => by
    unfold cstB at h
    split at h
    · rename_i y t
      cases of_decide_eq_true h
      exact ⟨.str x, ⟨t, rfl⟩, fun H => .str x⟩
    · cases h
  | .list _, v, h => by unfold cstB at h; cases h
  | .dict _, v, h => by unfold cstB at h; cases h
  | .tuple ds, v, h => by
    unfold cstB at h
    split at h
    · rename_i a
      split at h
      · rename_i t dd its n sl hk
        simp only [Bool.and_eq_true, decide_eq_true_eq] at h
        obtain ⟨rfl, hz, ha⟩ := h
        obtain ⟨xs, r, hx⟩ := cstAll_ok ds its.toList ha
        exact ⟨.ref a, rfl, fun H => .tup (.inr ⟨_, its, n, hk, rfl, rfl, hz, r⟩) (hx H)⟩
      · cases h
    · cases h
theorem cstAll_ok {K : PySem.W.Frag} : ∀ (ds : List PyData) (vs : List Value), cstAll K ds vs = true → ∃ xs, Vals xs vs ∧ ∀ H, DpAll K H xs ds
  | [], [], _ => ⟨[], .nil, fun H => .nil⟩
  | d :: ds, v :: vs, h => by
    unfold cstAll at h
    rw [Bool.and_eq_true] at h
    obtain ⟨x, r1, h1⟩ := cstB_ok d v h.1
    obtain ⟨xs, r2, h2⟩ := cstAll_ok ds vs h.2
    exact ⟨x :: xs, .cons r1 r2, fun H => .cons (h1 H) (h2 H)⟩
  | [], _ :: _, h => by unfold cstAll at h; cases h
  | _ :: _, [], h => by unfold cstAll at h; cases h
end
theorem cst_ref {K : PySem.W.Frag} {d : PyData} {a : Addr} (h : cstB K d (.ref a) = true) (H : Hp) : Dp K H (.ref a) d := by
  obtain ⟨x, r, hx⟩ := cstB_ok d _ h
  cases x <;> first | (cases r; done) | (obtain ⟨_, r⟩ := r; cases r; done) | (injection r with r; subst r; exact hx H)
def oexB (K : PySem.W.Frag) (C : Addr) : Bool :=
  (match K.lookup C with
  | some ⟨.type t, _, .cls cd, sl⟩ => (match cd.mro, sl.toList with
    | .ref D :: bm, [_, _, _, _, some (.builtin n), _] => decide (t = "type") && (decide (D = C) && (decide (n = "ValueError.__new__") && (!cd.hasDel && (cd.hasDict && PySem.HandSPX.refsVE bm))))
    | _, _ => false)
  | _ => false) && (decide (PySem.W.findIn K (.ref C) "__setattr__" = some (some (.builtin "object.__setattr__"))) && (decide (PySem.W.subIn K (.ref C) (.type "BaseException") = some true) &&
    (decide (PySem.W.typeIn K (.ref C) = some (.type "type")) && PySem.W.keepIn K (.ref C))))
theorem oexB_ok {K : PySem.W.Frag} {C : Addr} (h : oexB K C = true) : OexC K C := by
  unfold oexB at h
  rw [Bool.and_eq_true] at h
  obtain ⟨h1, h2⟩ := h
  simp only [Bool.and_eq_true, decide_eq_true_eq] at h2
  obtain ⟨h3, h4, h5, h6⟩ := h2
  refine ⟨?_, h3, h4, h5, h6⟩
  cases q : K.lookup C with
  | none => rw [q] at h1; cases h1
  | some o =>
    rw [q] at h1
    obtain ⟨oc, dd, dt, sl⟩ := o
    cases oc <;> try (cases h1; done)
    cases dt <;> try (cases h1; done)
    rename_i t cd
    obtain ⟨nm, bs, mro, ns, qn, hd, sn, sub, ab, col, dl⟩ := cd
    obtain ⟨l⟩ := sl
    dsimp only at h1
    split at h1
    · rename_i m1 l1 D bm k0 k1 k2 k3 n k5
      simp only [Bool.and_eq_true, decide_eq_true_eq, Bool.not_eq_true'] at h1
      obtain ⟨rfl, rfl, rfl, hdel, rfl, hr⟩ := h1
      subst hdel
      exact ⟨nm, qn, ns, bs, bm, sn, sub, ab, col, dd, k0, k1, k2, k3, k5, rfl, hr⟩
    · cases h1
def exiB (K : PySem.W.Frag) (D : Addr) : Bool :=
  decide (PySem.W.findIn K (.ref D) "__getattribute__" = some (some (.builtin "BaseException.__getattribute__"))) && (decide (PySem.W.findIn K (.ref D) "__getattr__" = some none) &&
  (decide (PySem.W.subIn K (.ref D) (.type "BaseException") = some true) && (PySem.W.hasDictIn K D && (decide (PySem.W.findIn K (.ref D) "__class__" = some (some (.builtin "object.__class__"))) &&
  (decide (PySem.W.specialIn K (.builtin "object.__class__") "__get__" = some (some (.builtin "getset_descriptor.__get__"))) && (decide (PySem.W.takesIn K (.builtin "object.__class__") = some true) && decide (PySem.W.mroIn K D (.type "object") = some true)))))))
def Fx.ok (K : PySem.W.Frag) : Fx → Bool
  | .oex x => oexB K (He.ga K x)
  | .xf x => xfB K (He.ga K x)
  | .cst x d => cstB K d (.ref (He.ga K x))
  | .cstA p d => cstB K d (.ref (p K))
  | .exi x => exiB K (He.ga K x)
  | .kit x y b => decide (PySem.W.kitOne K (.ref (He.ga K x)) (.ref (He.ga K y)) = some b)
  | .gaeq x y => decide (He.ga K x = He.ga K y)
def exs (fx : List Fx) (K : PySem.W.Frag) : Bool := fx.all fun f => f.ok K
def Tx (fa : List He.Fa) (fn : List He.DefD) (fx : List Fx) (K : PySem.W.Frag) (mg : Str → Option Value) : Prop := ∃ h : Heap, K.In h ∧ h.Ns mainGlobals mg ∧ He.SaysD fa fn K ∧ exs fx K = true
section
variable {fa : List He.Fa} {fn : List He.DefD} {fx : List Fx} {K : PySem.W.Frag} {mg : Str → Option Value}
theorem Tx.free (T : Tx fa fn fx K mg) (i : Nat) {x : Str} (h : fa[i]? = some (.free x) := by rfl) : mg x = none := by
  obtain ⟨hp, X, G, c, _⟩ := T
  exact He.free_ok X G (c.fact i h)
theorem Tx.glo (T : Tx fa fn fx K mg) (i : Nat) {x : Str} (h : fa[i]? = some (.glo x) := by rfl) : mg x = some (.ref (He.ga K x)) := by
  obtain ⟨hp, X, G, c, _⟩ := T
  exact He.glo_ok X G (c.fact i h)
theorem Tx.int (T : Tx fa fn fx K mg) (i : Nat) {x : Str} {n : Int} (h : fa[i]? = some (.int x n) := by rfl) : ∃ t, mg x = some (.int n t) := by
  obtain ⟨hp, X, G, c, _⟩ := T
  exact He.int_ok X G (c.fact i h)
theorem Tx.str (T : Tx fa fn fx K mg) (i : Nat) {x z : Str} (h : fa[i]? = some (.str x z) := by rfl) : ∃ t, mg x = some (.str z t) := by
  obtain ⟨hp, X, G, c, _⟩ := T
  exact He.str_ok X G (c.fact i h)
end
theorem Tx.fact {fa : List He.Fa} {fn : List He.DefD} {fx : List Fx} {K : PySem.W.Frag} {mg : Str → Option Value} (T : Tx fa fn fx K mg) (i : Nat) {f : He.Fa} (h : fa[i]? = some f := by rfl) : f.ok K = true := by
  obtain ⟨hp, X, G, c, _⟩ := T
  exact c.fact i h
theorem Tx.fx {fa : List He.Fa} {fn : List He.DefD} {fx : List Fx} {K : PySem.W.Frag} {mg : Str → Option Value} (T : Tx fa fn fx K mg) (i : Nat) {f : Fx} (h : fx[i]? = some f := by rfl) : f.ok K = true := by
  obtain ⟨hp, X, G, c, e⟩ := T
  exact List.all_eq_true.mp e f (List.mem_of_getElem? h)
structure DefAt (P : Program) (w : World) (K : PySem.W.Frag) (mg : Str → Option Value) (base : Heap) (CX : CXT) (x : Str) (k : Nat) (ps : List Str) (sp : Sp) : Prop where
  gl : mg x = some (.ref (He.ga K x))
  kp : PySem.W.keepIn K (.ref (He.ga K x)) = true
  ok : ∃ fd, FnOk P w K mg base CX k (He.ga K x) fd ps sp ∧ Binds K fd ps []
def BindN (x : Str) (st : Stmt) (ps : List Str) : Prop := ∀ (kV doc pm : Value) (an : Option Addr) (cdv ct : Value) (us : List Value), us.length = ps.length →
  bindArgs (PySem.W.fnOf x x (defArgs st) (defBody st) (defScope st) .none kV doc pm an cdv ct) ⟨us, []⟩ = pure (ps.zip us)
section
variable {fa : List He.Fa} {fn : List He.DefD} {fx : List Fx} {P : Program} {w : World} {K : PySem.W.Frag} {mg : Str → Option Value} {base : Heap}
def Body (P : Program) (w : World) (K : PySem.W.Frag) (mg : Str → Option Value) (base : Heap) (x : Str) (st : Stmt) (N : List Str) (k : Nat) (sp : Sp) : Prop :=
  ∀ (cdv : Value) (A : Around) (outer : List Env) (s : Shared) (H : Hp) (vs : List V) (Q : VK) (E : XK), sp vs H Q E → let X : Cx := (cxOf CX0 P w K mg base N x (defScope st) (He.ga K x) cdv A outer s H E).nox
    Room k X.A → ∃ t, PSs X (defBody st) t ∧ t { nx := fun _ H' => Q .non H', rt := Q } (start N vs) H
theorem def_of (T : Tx fa fn fx K mg) (i j : Nat) {x : Str} {st : Stmt} {N ps : List Str} {k : Nat} {sp : Sp} (S : FnScope N ps (defScope st)) (B : BindN x st ps) (len : ∀ vs H Q E, sp vs H Q E → vs.length = ps.length)
    (body : Body P w K mg base x st N k sp) (hd : fn[i]? = some (dOf x st) := by rfl) (hg : fa[j]? = some (.glo x) := by rfl) : DefAt P w K mg base CX0 x (k + 1) ps sp := by
  have gl := T.glo j hg
  obtain ⟨hp, X, G, c, _⟩ := T
  obtain ⟨fd, F⟩ := c.def_ i hd
  refine ⟨gl, F.kp, fd, F.ok S len fun cdv A outer s H vs Q E hr h => ?_, F.bindsN B⟩
  obtain ⟨t, h1, h2⟩ := body cdv A outer s H vs Q E h hr
  exact ⟨t, h1.nox, h2⟩
end
theorem DefAt.up {P : Program} {w : World} {K : PySem.W.Frag} {mg : Str → Option Value} {base : Heap} {CX : CXT} {x : Str} {j k : Nat} {ps : List Str} {sp : Sp} (D : DefAt P w K mg base CX x j ps sp) (h : j ≤ k) : DefAt P w K mg base CX x k ps sp :=
  ⟨D.gl, D.kp, let ⟨fd, F, B⟩ := D.ok; ⟨fd, F.mono h, B⟩⟩
section
variable {X : Cx} {CX : CXT} {x : Str} {k j : Nat} {ps : List Str} {sp : Sp} {E : XK} {p pos : Pos} {e : Expr} {es : List Expr} {t : TA}
def tCallA (sp : Sp) (E : XK) (t : TA) : TE := fun σ H Q => t σ H fun vs H1 => sp vs H1 Q E
theorem pe_callA (D : DefAt X.prog X.w X.K X.mg X.base CX x j ps sp) (hr : Room k X.A) (hx : Passes CX X E) (ha : PA X (e :: es) t) (hjk : j ≤ k := by decide) (hg : Gl X x := by rfl)
    (hdb : (x == ("__debug__" : Str)) = false := by decide) (he : starEach (e :: es) X.env = (false, eval e X.env) :: starEach es X.env := by rfl) (hpl : (backTo pos (starEach es X.env)).any (·.1) = false := by rfl) :
    PE X (.Call (.Name x p) (e :: es) [] pos) (tCallA sp E t) := by
  obtain ⟨fd, F, B⟩ := D.ok
  have h := pe_call (F.mono hjk) hr hg D.gl D.kp B .nil hx ha hdb he hpl (p := p)
  have e : tCall sp [] E t = tCallA sp E t := by
    funext σ H Q
    unfold tCall tCallA
    simp only [List.append_nil]
  rw [← e]
  exact h
theorem pe_gInt {i : Int} (hm : ∃ t, X.mg x = some (.int i t)) (hg : Gl X x := by rfl) (hd : (x == ("__debug__" : Str)) = false := by decide) : PE X (.Name x pos) (tC (.int i)) :=
  let ⟨t, h⟩ := hm; pe_glob hg h ⟨t, rfl⟩ hd
theorem pe_gStr {z : Str} (hm : ∃ t, X.mg x = some (.str z t)) (hg : Gl X x := by rfl) (hd : (x == ("__debug__" : Str)) = false := by decide) : PE X (.Name x pos) (tC (.str z)) :=
  let ⟨t, h⟩ := hm; pe_glob hg h ⟨t, rfl⟩ hd
end

theorem pe_gCon {X : Cx} {x : Str} {pos : Pos} {a : Addr} (hm : X.mg x = some (.ref a)) (hg : Gl X x := by rfl) (hd : (x == ("__debug__" : Str)) = false := by decide) : PE X (.Name x pos) (tC (.ref a)) := pe_glob hg hm rfl hd
structure New (H : Hp) (p : Addr) (o : HO) (H' : Hp) : Prop where
  fr : H p = none
  eq : H' = upd H p o
section
variable {K : PySem.W.Frag} {σ : St} {H : Hp} {D : Ends} {Q : VK} {i j : Int} {n : Nat} {v x y : V} {te ta tb tc : TE} {t u : TS} {g : TG} {tt tA tB1 : TT} {r r' : R2} {a b p : Addr} {xs ys : List V} {s z : Str}
theorem c_seq (h : t { D with nx := u D } σ H) : tSeq t u D σ H := h
theorem c_next (h : D.nx σ H) : tNext D σ H := h
theorem c_ret (h : te σ H D.rt) : tRet te D σ H := h
theorem c_retN (h : D.rt .non H) : tRetN D σ H := h
theorem c_asg (h : te σ H fun x H1 => g x σ H1 D.nx) : tAsg te g D σ H := h
theorem c_gName {R : St → Hp → Prop} (h : R (σ.set n (some v)) H) : gName n v σ H R := h
theorem c_drop (h : te σ H fun _ H1 => D.nx σ H1) : tDrop te D σ H := h
theorem c_ifs (h : tt σ H fun b H1 => if b = true then t D σ H1 else u D σ H1) : tIfS tt t u D σ H := h
theorem c_var (e : σ[n]? = some (some v)) (q : Q v H) : tVar n σ H Q := ⟨v, e, q⟩
theorem c_c (q : Q v H) : tC v σ H Q := q
theorem c_op (h : ta σ H fun x H1 => tb σ H1 fun y H2 => r x y H2 Q) : tOp r ta tb σ H Q := h
theorem c_chain (h : ta σ H fun x H1 => tb σ H1 fun y H2 => r x y H2 fun z H3 => ∃ k, z = .bl k ∧ (if k = true then tc σ H3 fun w' H4 => r' y w' H4 Q else Q (.bl false) H3)) : tChain r r' ta tb tc σ H Q := h
theorem c_test {R : Bool → Hp → Prop} (h : te σ H fun x H1 => ∃ k, x = .bl k ∧ R k H1) : tTest te σ H R := h
theorem c_tB {R : Bool → Hp → Prop} (h : te σ H fun x H1 => ∃ k, x = .bl k ∧ R k H1) : tB te σ H R := h
theorem c_not {R : Bool → Hp → Prop} (h : tt σ H fun c H1 => R (!c) H1) : tNot tt σ H R := h
theorem c_and {R : Bool → Hp → Prop} (h : tA σ H fun c H1 => if c = true then tB1 σ H1 R else R false H1) : tAnd tA tB1 σ H R := h
theorem c_or {R : Bool → Hp → Prop} (h : tA σ H fun c H1 => if c = true then R true H1 else tB1 σ H1 R) : tOr tA tB1 σ H R := h
theorem c_andV (h : ta σ H fun x H1 => ∃ c, x = .bl c ∧ if c = true then tb σ H1 Q else Q (.bl false) H1) : tAndV ta tb σ H Q := h
theorem c_orV (h : ta σ H fun x H1 => ∃ c, x = .bl c ∧ if c = true then Q (.bl true) H1 else tb σ H1 Q) : tOrV ta tb σ H Q := h
theorem c_notV (h : ta σ H fun x H1 => ∃ c, x = .bl c ∧ Q (.bl (!c)) H1) : tNotV ta σ H Q := h
theorem c_if (h : tt σ H fun c H1 => if c = true then ta σ H1 Q else tb σ H1 Q) : tIf tt ta tb σ H Q := h
theorem c_nil {R : List V → Hp → Prop} (h : R [] H) : tNil σ H R := h
theorem c_cons {tr : TA} {R : List V → Hp → Prop} (h : te σ H fun x H1 => tr σ H1 fun xs H2 => R (x :: xs) H2) : tCons te tr σ H R := h
theorem c_call {sp : Sp} {E : XK} {tr : TA} (h : tr σ H fun vs H1 => sp vs H1 Q E) : tCallA sp E tr σ H Q := h
theorem c_cb {rr : List V → Hp → VK → Prop} {tr : TA} (h : tr σ H fun vs H1 => rr vs H1 Q) : tCB rr tr σ H Q := h
def Ret (Q : VK) (v : V) (H : Hp) : Prop := Q v H
theorem c_nw {A : Prop} {o : HO} (hl : A) (h : ∀ p H', New H p o H' → Q (.ref p) H') : A ∧ ∀ p, H p = none → Ret Q (.ref p) (upd H p o) := ⟨hl, fun p hp => h p _ ⟨hp, rfl⟩⟩
theorem c_tup {tr : TA} (h : tr σ H fun xs H1 => xs.length ≤ sizeLine ∧ ∀ p, H1 p = none → Ret Q (.ref p) (upd H1 p (.tup xs))) : tTup tr σ H Q := h
theorem c_lst {tr : TA} (h : tr σ H fun xs H1 => xs.length ≤ sizeLine ∧ ∀ p, H1 p = none → Ret Q (.ref p) (upd H1 p (.lst xs))) : tLst tr σ H Q := h
theorem c_sl {rr : V → Option Int → Option Int → Hp → VK → Prop} {tl th : TO} (h : te σ H fun x H1 => tl σ H1 fun l H2 => th σ H2 fun u H3 => rr x l u H3 Q) : tSl rr te tl th σ H Q := h
theorem c_noPart {R : Option Int → Hp → Prop} (h : R none H) : tNoPart σ H R := h
theorem c_part {R : Option Int → Hp → Prop} (h : te σ H fun x H1 => ∃ i, x = .int i ∧ R (some i) H1) : tPart te σ H R := h
theorem c_bm {T : String} {rr : V → List V → Hp → VK → Prop} {tr : TA} (h : te σ H fun x H1 => tyV K T x H1 ∧ tr σ H1 fun xs H2 => rr x xs H2 Q) : tBM K T rr te tr σ H Q := h
theorem c_bm0 {T : String} {rr : V → List V → Hp → VK → Prop} (h : te σ H fun x H1 => tyV K T x H1 ∧ rr x [] H1 Q) : tBM0 K T rr te σ H Q := h
theorem c_bl {b : Bool} {R : Bool → Prop} (h : R b) : ∃ k, V.bl b = V.bl k ∧ R k := ⟨b, rfl, h⟩
theorem c_int {R : Int → Prop} (h : R i) : ∃ k, V.int i = V.int k ∧ R k := ⟨i, rfl, h⟩
theorem c_addI (q : Q (.int (i + j)) H) : rAddU K (.int i) (.int j) H Q := .inl ⟨i, j, rfl, rfl, q⟩
theorem c_addS (hl : s.length + z.length ≤ sizeLine) (q : Q (.str (s ++ z)) H) : rAddU K (.str s) (.str z) H Q := .inr (.inl ⟨s, z, rfl, rfl, hl, q⟩)
theorem c_addL (ha : H a = some (.lst xs)) (hb : H b = some (.lst ys)) (hl : xs.length + ys.length ≤ sizeLine) (q : ∀ p H', New H p (.lst (xs ++ ys)) H' → Q (.ref p) H') : rAddU K (.ref a) (.ref b) H Q :=
  .inr (.inr (.inl ⟨a, b, xs, ys, rfl, rfl, ha, hb, hl, fun p hp => q p _ ⟨hp, rfl⟩⟩))
theorem c_subI (q : Q (.int (i - j)) H) : rSubU (.int i) (.int j) H Q := ⟨i, j, rfl, rfl, q⟩
theorem c_mulI (hc : (-(2 ^ 64) < i ∧ i < 2 ^ 64) ∨ (-(2 ^ 64) < j ∧ j < 2 ^ 64)) (q : Q (.int (i * j)) H) : rMulU K (.int i) (.int j) H Q := .inl ⟨i, j, rfl, rfl, hc, q⟩
theorem c_mulS (h0 : -9223372036854775808 ≤ j) (h1 : j < 9223372036854775808) (hl : z.length * j.toNat ≤ sizeLine) (q : Q (.str (rptS z j)) H) : rMulU K (.str z) (.int j) H Q :=
  .inr (.inr (.inr ⟨z, j, rfl, rfl, by simpa using h0, by simpa using h1, hl, q⟩))
theorem c_divI (hc : 0 < j ∧ j < 1073741824) (q : Q (.int (i / j)) H) : rDivU (.int i) (.int j) H Q := ⟨i, j, rfl, rfl, hc, q⟩
theorem c_modI (hc : 0 < j) (q : Q (.int (i % j)) H) : rModU (.int i) (.int j) H Q := ⟨i, j, rfl, rfl, hc, q⟩
theorem c_bandI (q : Q (.int (Builtin.bitAnd i j)) H) : rBandU (.int i) (.int j) H Q := ⟨i, j, rfl, rfl, q⟩
theorem c_ltI (q : Q (.bl (decide (i < j))) H) : rLtU (.int i) (.int j) H Q := .inl ⟨i, j, rfl, rfl, q⟩
theorem c_leI (q : Q (.bl (decide (i ≤ j))) H) : rLeU (.int i) (.int j) H Q := .inl ⟨i, j, rfl, rfl, q⟩
theorem c_gtI (q : Q (.bl (decide (j < i))) H) : rGtU (.int i) (.int j) H Q := .inl ⟨i, j, rfl, rfl, q⟩
theorem c_geI (q : Q (.bl (decide (j ≤ i))) H) : rGeU (.int i) (.int j) H Q := .inl ⟨i, j, rfl, rfl, q⟩
theorem dI : decide (V.int i = V.int j) = decide (i = j) := by rw [dec_int]; exact Bool.beq_eq_decide_eq _ _
theorem dS : decide (V.str s = V.str z) = decide (s = z) := by rw [dec_str]; exact Bool.beq_eq_decide_eq _ _
theorem c_eqI (q : Q (.bl (decide (i = j))) H) : rEqU K (.int i) (.int j) H Q := .inl ⟨rfl, by rw [dI]; exact q⟩
theorem c_neI (q : Q (.bl (!decide (i = j))) H) : rNeU K (.int i) (.int j) H Q := .inl ⟨rfl, by rw [dI]; exact q⟩
theorem c_eqS (q : Q (.bl (decide (s = z))) H) : rEqU K (.str s) (.str z) H Q := .inl ⟨rfl, by rw [dS]; exact q⟩
theorem c_neS (q : Q (.bl (!decide (s = z))) H) : rNeU K (.str s) (.str z) H Q := .inl ⟨rfl, by rw [dS]; exact q⟩
theorem c_eqB {b c : Bool} (q : Q (.bl (b == c)) H) : rEqU K (.bl b) (.bl c) H Q := .inl ⟨rfl, by rw [dec_bl]; exact q⟩
theorem c_neB {b c : Bool} (q : Q (.bl (b != c)) H) : rNeU K (.bl b) (.bl c) H Q := .inl ⟨rfl, by rw [dec_bl]; exact q⟩
theorem c_eqD {d e : PyData} (hx : Dp K H x d) (hy : Dp K H y e) (sd : SeqAt.shaped d = true) (se : SeqAt.shaped e = true) (q : Q (.bl (PyData.eqv d e)) H) : rEqU K x y H Q := .inr ⟨d, e, hx, hy, sd, se, q⟩
theorem c_neD {d e : PyData} (hx : Dp K H x d) (hy : Dp K H y e) (sd : SeqAt.shaped d = true) (se : SeqAt.shaped e = true) (q : Q (.bl (!PyData.eqv d e)) H) : rNeU K x y H Q := .inr ⟨d, e, hx, hy, sd, se, q⟩
theorem c_isN (q : Q (.bl (decide (x = .non))) H) : rIsU x .non H Q := ⟨rfl, q⟩
theorem c_notN (q : Q (.bl (!decide (x = .non))) H) : rIsNotU x .non H Q := ⟨rfl, q⟩
theorem c_inC {c : Nat} (q : Q (.bl (decide (c ∈ z.cps.toList))) H) : rInU K (.str ⟨#[c]⟩) (.str z) H Q := .inl ⟨c, z, rfl, rfl, q⟩
theorem c_notInC {c : Nat} (q : Q (.bl (!decide (c ∈ z.cps.toList))) H) : rNotInU K (.str ⟨#[c]⟩) (.str z) H Q := .inl ⟨c, z, rfl, rfl, q⟩
theorem c_ixL (h : SqL K H a xs) (e : atI xs i = some v) (q : Q v H) : rIx K (.ref a) (.int i) H Q := .inl ⟨a, xs, i, v, rfl, rfl, h, e, q⟩
theorem c_ixT (h : SqT K H a xs) (e : atI xs i = some v) (q : Q v H) : rIx K (.ref a) (.int i) H Q := .inr (.inl ⟨a, xs, i, v, rfl, rfl, h, e, q⟩)
theorem c_ixS {c : Nat} (h : z.length ≤ sizeLine) (e : atI z.cps.toList i = some c) (q : Q (.str ⟨#[c]⟩) H) : rIx K (.str z) (.int i) H Q := .inr (.inr ⟨z, i, c, rfl, rfl, h, e, q⟩)
theorem c_slS {lo hi : Option Int} (h : z.length ≤ sizeLine) (q : Q (.str (cutS z lo hi)) H) : rSlU K (.str z) lo hi H Q := .inr (.inl ⟨z, rfl, h, q⟩)
theorem c_append {l : Addr} (h : H l = some (.lst xs)) (hl : xs.length < sizeLine) (q : Q .non (upd H l (.lst (xs ++ [y])))) : rAppend (.ref l) [y] H Q := ⟨l, xs, y, rfl, rfl, h, hl, q⟩
theorem c_tyL (h : SqL K H a xs) : tyV K "list" (.ref a) H := Or.inl ⟨rfl, _, h⟩
theorem c_tyA {B : Prop} (h : SqL K H a xs) (q : B) : tyV K "list" (.ref a) H ∧ B := ⟨c_tyL h, q⟩
theorem c_setL {l : Addr} {k : Nat} {R : Hp → Prop} (h : H l = some (.lst xs)) (e : ixN xs.length i = some k) (q : R (upd H l (.lst (xs.set k v)))) : rSetL (.ref l) (.int i) v H R := ⟨l, xs, i, k, rfl, rfl, h, e, q⟩
theorem c_gSub {to ti : TE} {ts : TSet} {R : St → Hp → Prop} (h : to σ H fun o H1 => ti σ H1 fun i H2 => ts o i v H2 fun H3 => R σ H3) : gSub to ti ts v σ H R := h
theorem lt_one {c d : Nat} : decide ((⟨#[c]⟩ : Str).cps.toList < (⟨#[d]⟩ : Str).cps.toList) = decide (c < d) := by
  show decide ([c] < [d]) = _
  congr 1
  simp [List.cons_lt_cons_iff]
theorem q_of {b c : Bool} (e : b = c) (q : Q (.bl c) H) : Q (.bl b) H := e ▸ q
theorem ge_one {c d : Nat} : (!decide ((⟨#[d]⟩ : Str).cps.toList < (⟨#[c]⟩ : Str).cps.toList)) = decide (c ≤ d) := by rw [lt_one]; by_cases h : c ≤ d <;> simp [h] <;> omega
theorem c_leC {c d : Nat} (q : Q (.bl (decide (c ≤ d))) H) : rLeU (.str ⟨#[c]⟩) (.str ⟨#[d]⟩) H Q := .inr ⟨_, _, rfl, rfl, q_of ge_one q⟩
theorem c_truB {b : Bool} {R : Bool → Prop} (q : R b) : ∃ k, TruV K (.bl b) H k ∧ R k := ⟨b, rfl, q⟩
theorem c_truL {R : Bool → Prop} (h : SqL K H a xs) (q : R (!xs.isEmpty)) : ∃ k, TruV K (.ref a) H k ∧ R k := ⟨_, .inl ⟨xs, h, rfl⟩, q⟩
theorem c_ite {c : Prop} [Decidable c] {A B : Prop} (h1 : c → A) (h2 : ¬ c → B) : if decide c = true then A else B := by
  by_cases h : c
  · rw [decide_eq_true h, if_pos rfl]; exact h1 h
  · rw [decide_eq_false h, if_neg Bool.false_ne_true]; exact h2 h
theorem c_iteN {c : Prop} [Decidable c] {A B : Prop} (h1 : ¬ c → A) (h2 : c → B) : if (!decide c) = true then A else B := by
  by_cases h : c
  · rw [decide_eq_true h, Bool.not_true, if_neg Bool.false_ne_true]; exact h2 h
  · rw [decide_eq_false h, Bool.not_false, if_pos rfl]; exact h1 h
theorem c_iteT {b : Bool} {A B : Prop} (hb : b = true) (h : A) : if b = true then A else B := by rw [if_pos hb]; exact h
theorem c_iteF {b : Bool} {A B : Prop} (hb : b = false) (h : B) : if b = true then A else B := by rw [hb, if_neg Bool.false_ne_true]; exact h
theorem c_it1 {A B : Prop} (h : A) : if true = true then A else B := c_iteT rfl h
theorem c_it2 {A B : Prop} (h : B) : if false = true then A else B := c_iteF rfl h
theorem c_it3 {A B : Prop} (h : A) : if (!false) = true then A else B := c_iteT rfl h
theorem c_it4 {A B : Prop} (h : B) : if (!true) = true then A else B := c_iteF rfl h
theorem c_iteB {b : Bool} {A B : Prop} (h1 : b = true → A) (h2 : b = false → B) : if b = true then A else B := by
  cases b with
  | true => exact c_iteT rfl (h1 rfl)
  | false => exact c_iteF rfl (h2 rfl)
theorem c_iteNB {b : Bool} {A B : Prop} (h1 : b = false → A) (h2 : b = true → B) : if (!b) = true then A else B := by
  cases b with
  | true => exact c_iteF rfl (h2 rfl)
  | false => exact c_iteT rfl (h1 rfl)
end
end Sa

namespace Sa
open PySem L2

section
variable {X : Cx} {K : PySem.W.Frag} {H : Hp} {Q : VK} {i j : Int} {a : Addr} {xs : List V} {s z : Str}
def rLenU (K : PySem.W.Frag) : List V → Hp → VK → Prop := fun xs H Q => ∃ x n, xs = [x] ∧ LenV K x H n ∧ Q (.int n) H
theorem cr_len {K : PySem.W.Frag} (hK : X.K = K := by rfl) : CallR X (.builtin "len") (rLenU K) := hK ▸ call_len
theorem c_lenL (h : SqL K H a xs) (q : Q (.int xs.length) H) : rLenU K [.ref a] H Q := ⟨_, _, rfl, .inl ⟨xs, h, rfl⟩, q⟩
theorem c_lenT (h : SqT K H a xs) (q : Q (.int xs.length) H) : rLenU K [.ref a] H Q := ⟨_, _, rfl, .inr ⟨xs, h, rfl⟩, q⟩
theorem c_lenS (h : s.length ≤ sizeLine) (q : Q (.int s.length) H) : rLenU K [.str s] H Q := ⟨_, _, rfl, ⟨h, rfl⟩, q⟩
def rIntU : List V → Hp → VK → Prop := fun xs H Q => (∃ i, xs = [.int i] ∧ Q (.int i) H) ∨ ∃ k, xs = [.bl k] ∧ Q (.int (if k then 1 else 0)) H
theorem cr_int : CallR X (.type "int") rIntU := call_int1
theorem c_intI (q : Q (.int i) H) : rIntU [.int i] H Q := .inl ⟨i, rfl, q⟩
def rOrdU : List V → Hp → VK → Prop := fun xs H Q => ∃ x, xs = [.str x] ∧ x.length = 1 ∧ Q (.int (x.cps.getD 0 0 : Nat)) H
theorem cr_ord : CallR X (.builtin "ord") rOrdU := call_ord
theorem c_ord {c : Nat} (q : Q (.int c) H) : rOrdU [.str ⟨#[c]⟩] H Q := ⟨_, rfl, rfl, q⟩
def rMax2U : List V → Hp → VK → Prop := fun xs H Q => ∃ i j, xs = [.int i, .int j] ∧ Q (.int (if j > i then j else i)) H
def rMin2U : List V → Hp → VK → Prop := fun xs H Q => ∃ i j, xs = [.int i, .int j] ∧ Q (.int (if j < i then j else i)) H
theorem c_max2 (q : Q (.int (max i j)) H) : rMax2U [.int i, .int j] H Q := ⟨i, j, rfl, by
  have e : (if j > i then j else i) = max i j := by split <;> omega
  rw [e]; exact q⟩
theorem c_min2 (q : Q (.int (min i j)) H) : rMin2U [.int i, .int j] H Q := ⟨i, j, rfl, by
  have e : (if j < i then j else i) = min i j := by split <;> omega
  rw [e]; exact q⟩
def rListU (K : PySem.W.Frag) : List V → Hp → VK → Prop := fun xs H Q => ∃ p ys, xs = [.ref p] ∧ (SqL K H p ys ∨ SqT K H p ys) ∧ ∀ l, H l = none → Q (.ref l) (upd H l (.lst ys))
theorem cr_list {K : PySem.W.Frag} (hK : X.K = K := by rfl) : CallR X (.type "list") (rListU K) := hK ▸ call_list_of
theorem c_listT (h : SqT K H a xs) (q : ∀ l H', New H l (.lst xs) H' → Q (.ref l) H') : rListU K [.ref a] H Q := ⟨a, xs, rfl, .inr h, fun p hp => q p _ ⟨hp, rfl⟩⟩
def rTupU (K : PySem.W.Frag) : List V → Hp → VK → Prop := fun xs H Q => ∃ p ys, xs = [.ref p] ∧ ((SqL K H p ys ∧ ∀ l, H l = none → Q (.ref l) (upd H l (.tup ys))) ∨ (SqT K H p ys ∧ Q (.ref p) H))
theorem cr_tuple {K : PySem.W.Frag} (hK : X.K = K := by rfl) : CallR X (.type "tuple") (rTupU K) := hK ▸ call_tuple_of
theorem c_tupleL (h : SqL K H a xs) (q : ∀ l H', New H l (.tup xs) H' → Q (.ref l) H') : rTupU K [.ref a] H Q := ⟨a, xs, rfl, .inl ⟨h, fun p hp => q p _ ⟨hp, rfl⟩⟩⟩
theorem c_tupleT (h : SqT K H a xs) (q : Q (.ref a) H) : rTupU K [.ref a] H Q := ⟨a, xs, rfl, .inr ⟨h, q⟩⟩
theorem c_anyB {bs : List Bool} (h : SqL K H a (bs.map V.bl)) (q : Q (.bl (bs.any id)) H) : rAnyU K [.ref a] H Q := .inl ⟨a, bs, rfl, h, q⟩
def rAllU (K : PySem.W.Frag) : List V → Hp → VK → Prop := rAll K
theorem cr_allU {K : PySem.W.Frag} (hc : X.calm = true) (hK : X.K = K := by rfl) : CallR X (.builtin "all") (rAllU K) := hK ▸ cr_all hc
theorem c_allB {bs : List Bool} (h : SqL K H a (bs.map V.bl)) (q : Q (.bl (bs.all id)) H) : rAllU K [.ref a] H Q := ⟨a, bs, rfl, h, q⟩
end
section
variable {X : Cx} {K : PySem.W.Frag} {σ : St} {H : Hp} {Q : VK} {a : Addr} {s z : Str} {ys : List Str} {to te : TE} {o e : Expr}
theorem c_m1 {r : V → List V → Hp → VK → Prop} (h : to σ H fun x H1 => (∃ a, x = .str a) ∧ te σ H1 fun y H2 => r x [y] H2 Q) : tM1 r to te σ H Q := h
theorem c_isStr {A : Prop} (h : A) : (∃ b, V.str s = V.str b) ∧ A := ⟨⟨s, rfl⟩, h⟩
def rJoin (K : PySem.W.Frag) : V → List V → Hp → VK → Prop := fun x xs H Q => ∃ a p, ∃ ys : List Str, x = .str a ∧ xs = [.ref p] ∧ (SqL K H p (ys.map V.str) ∨ SqT K H p (ys.map V.str)) ∧
  (ys.map (·.length)).sum + ys.length * a.length ≤ 16777216 ∧ Q (.str (Txt.join a ys)) H
theorem pe_joinU {K : PySem.W.Frag} {apos pos : Pos} (ho : PE X o to) (he : PE X e te) (hK : X.K = K := by rfl) (hs : starEach [e] X.env = [(false, eval e X.env)] := by rfl) (hbase : attributeBase o "join" X.env (eval o X.env) = eval o X.env := by rfl) (hline : (apos.endLine == pos.line) = true := by rfl) :
    PE X (.Call (.Attribute o "join" apos) [e] [] pos) (tM1 (rJoin K) to te) := hK ▸ pe_join ho he hs hbase hline
theorem c_join (h : SqL K H a (ys.map V.str)) (hl : (ys.map (·.length)).sum + ys.length * s.length ≤ 16777216) (q : Q (.str (Txt.join s ys)) H) : rJoin K (.str s) [.ref a] H Q := ⟨s, a, ys, rfl, rfl, .inl h, hl, q⟩
end

section
variable {X : Cx} {K : PySem.W.Frag} {e o : Expr} {es : List Expr} {te to ta : TE} {tr : TA} {tg : Expr} {x : Str}
theorem pt_tru {a : Expr} (ha : PE X a ta) (hK : X.K = K := by rfl) (he : ∀ whole, isTrue a X.env whole = (do let v ← whole; standAt a.pos; holding [v] (truthy v)) := by intro _; rfl) :
    PT X a (fun σ H Q => ta σ H fun x H' => ∃ k, TruV K x H' k ∧ Q k H') := hK ▸ pt_truth ha he
theorem pi_listU (hl : PE X e te) (hK : X.K = K := by rfl) : PI X tg e (iList K te) := hK ▸ pi_list hl
theorem pi_tupU (hl : PE X e te) (hK : X.K = K := by rfl) : PI X tg e (iTup K te) := hK ▸ pi_tup hl
theorem pg_tupU {pos : Pos} {k n : Nat} {t : TGs} (hc : X.calm = true) (h : PGs X es t) (hK : X.K = K := by rfl) (hn : (assignEach es X.env).length = n := by rfl) (hst : (assignEach es X.env).findIdx? (·.1) = none := by rfl) : PG X (.Tuple es k pos) (gTup K n t) := hK ▸ pg_tup hc h hn hst
theorem pe_appendU {apos cpos : Pos} (ho : PE X o to) (he : PE X e te) (hK : X.K = K := by rfl) (hbase : attributeBase o "append" X.env (eval o X.env) = eval o X.env := by rfl)
    (hfew : ((backTo cpos (starEach [e] X.env)).all (fun x => !x.1) && (backToKw cpos (keywordEach [] X.env)).all (fun x => x.1.isSome)
      && decide (([e] : List Expr).length + ([] : List Keyword).length + (if ([] : List Keyword).isEmpty then 0 else 1) < 30)) = true := by rfl)
    (hline : (apos.endLine == cpos.line) = true := by rfl) (hs : starEach [e] X.env = (false, eval e X.env) :: starEach [] X.env := by rfl) (hplain : (backTo cpos (starEach [] X.env)).any (·.1) = false := by rfl) :
    PE X (.Call (.Attribute o "append" apos) [e] [] cpos) (tBM K "list" rAppend to (tCons te tNil)) :=
  hK ▸ pe_bm PySem.F.plainAttrs_list PySem.F.slot_list_append PySem.F.type_list_append mt_append ho (pa_cons he pa_nil hs) hbase hfew hline hs hplain
theorem pe_extendU {apos cpos : Pos} (ho : PE X o to) (he : PE X e te) (hK : X.K = K := by rfl) (hbase : attributeBase o "extend" X.env (eval o X.env) = eval o X.env := by rfl)
    (hfew : ((backTo cpos (starEach [e] X.env)).all (fun x => !x.1) && (backToKw cpos (keywordEach [] X.env)).all (fun x => x.1.isSome)
      && decide (([e] : List Expr).length + ([] : List Keyword).length + (if ([] : List Keyword).isEmpty then 0 else 1) < 30)) = true := by rfl)
    (hline : (apos.endLine == cpos.line) = true := by rfl) (hs : starEach [e] X.env = (false, eval e X.env) :: starEach [] X.env := by rfl) (hplain : (backTo cpos (starEach [] X.env)).any (·.1) = false := by rfl) :
    PE X (.Call (.Attribute o "extend" apos) [e] [] cpos) (tBM K "list" rExtend to (tCons te tNil)) :=
  hK ▸ pe_bm PySem.F.plainAttrs_list PySem.F.slot_list_extend PySem.F.type_list_extend mt_extend ho (pa_cons he pa_nil hs) hbase hfew hline hs hplain
end

def Kp (ms : List Addr) (H H' : Hp) : Prop := ∀ a o, a ∉ ms → H a = some o → H' a = some o
section
variable {K : PySem.W.Frag} {H H1 H2 : Hp} {a b p : Addr} {o u : HO} {ms ns : List Addr} {xs : List V}
theorem Kp.refl : Kp ms H H := fun _ _ _ h => h
theorem Kp.trans (e : Kp ms H H1) (f : Kp ms H1 H2) : Kp ms H H2 := fun a o n h => f a o n (e a o n h)
theorem Kp.mono (e : Kp [] H H1) : Kp ms H H1 := fun a o _ h => e a o (by simp) h
theorem Kp.new (hp : H p = none) : Kp ms H (upd H p o) := fun a u _ h => by rw [upd_ne (ne_of_none h hp)]; exact h
theorem Kp.mut (hp : p ∈ ms) : Kp ms H (upd H p o) := fun a u n h => by rw [upd_ne (fun e : a = p => n (by rw [e]; exact hp))]; exact h
theorem Kp.at0 (e : Kp [] H H1) (h : H a = some o) : H1 a = some o := e a o (by simp) h
theorem Kp.at1 (e : Kp [b] H H1) (n : a ≠ b) (h : H a = some o) : H1 a = some o := e a o (by simpa using n) h
theorem Kp.fresh_mut (e : Kp ms H H1) (hp : H p = none) : Kp ms H (upd H1 p o) := fun a u n h => by rw [upd_ne (ne_of_none h hp)]; exact e a u n h
theorem Kp.drop_fresh (e : Kp (p :: ms) H H1) (hp : H p = none) : Kp ms H H1 := fun a u n h => e a u (by simp only [List.mem_cons, not_or]; exact ⟨ne_of_none h hp, n⟩) h
theorem upd_new (hp : H p = none) (h : H a = some o) : upd H p u a = some o := by rw [upd_ne (ne_of_none h hp)]; exact h
theorem upd_other (n : a ≠ p) (h : H a = some o) : upd H p u a = some o := by rw [upd_ne n]; exact h
theorem free0 (e : Kp [] H H1) (h : H1 a = none) : H a = none := by
  cases q : H a with
  | none => rfl
  | some o => rw [e.at0 q] at h; cases h
theorem free_upd (h : upd H p u a = none) : H a = none := by
  by_cases e : a = p
  · subst e; rw [upd_same] at h; cases h
  · rw [upd_ne e] at h; exact h
theorem rd_at (e : ∀ o, H a = some o → H1 a = some o) (h : Rd H a u) : Rd H1 a u := by
  rcases h with h | ⟨o, h⟩
  · exact .inl (e _ h)
  · exact .inr ⟨o, e _ h⟩
theorem SqL.at (e : ∀ o, H a = some o → H1 a = some o) (h : SqL K H a xs) : SqL K H1 a xs := h.elim (fun h => .inl (rd_at e h)) .inr
theorem SqT.at (e : ∀ o, H a = some o → H1 a = some o) (h : SqT K H a xs) : SqT K H1 a xs := h.elim (fun h => .inl (rd_at e h)) .inr
theorem SqL.kp (e : Kp [] H H1) (h : SqL K H a xs) : SqL K H1 a xs := SqL.at (fun _ => e.at0) h
theorem SqT.kp (e : Kp [] H H1) (h : SqT K H a xs) : SqT K H1 a xs := SqT.at (fun _ => e.at0) h
theorem SqL.kp1 (e : Kp [b] H H1) (n : a ≠ b) (h : SqL K H a xs) : SqL K H1 a xs := SqL.at (fun _ => e.at1 n) h
theorem SqT.kp1 (e : Kp [b] H H1) (n : a ≠ b) (h : SqT K H a xs) : SqT K H1 a xs := SqT.at (fun _ => e.at1 n) h
theorem SqL.new (hp : H p = none) (h : SqL K H a xs) : SqL K (upd H p u) a xs := SqL.at (fun _ => upd_new hp) h
theorem SqT.new (hp : H p = none) (h : SqT K H a xs) : SqT K (upd H p u) a xs := SqT.at (fun _ => upd_new hp) h
theorem SqL.other (n : a ≠ p) (h : SqL K H a xs) : SqL K (upd H p u) a xs := SqL.at (fun _ => upd_other n) h
theorem SqT.other (n : a ≠ p) (h : SqT K H a xs) : SqT K (upd H p u) a xs := SqT.at (fun _ => upd_other n) h
theorem New.kp (N : New H p o H1) : Kp ms H H1 := by rw [N.eq]; exact Kp.new N.fr
theorem New.at_ (N : New H p o H1) : H1 p = some o := by rw [N.eq]; exact upd_same
theorem New.keep (N : New H p o H1) (h : H a = some u) : H1 a = some u := by rw [N.eq]; exact upd_new N.fr h
theorem New.free (N : New H p o H1) (h : H1 a = none) : H a = none := by rw [N.eq] at h; exact free_upd h
theorem New.ne (N : New H p o H1) (h : H a = some u) : p ≠ a := (ne_of_none h N.fr).symm
theorem New.sqL (N : New H p o H1) (h : SqL K H a xs) : SqL K H1 a xs := SqL.kp N.kp h
theorem New.sqT (N : New H p o H1) (h : SqT K H a xs) : SqT K H1 a xs := SqT.kp N.kp h
theorem ne_of2 (h : H a = some o) (h' : H b = none) : a ≠ b := ne_of_none h h'
end

theorem atI_at {xs : List V} {i : Int} (h0 : 0 ≤ i) (h1 : i < xs.length) : atI xs i = some (xs.getD i.toNat .non) := by
  have e : i = ((i.toNat : Nat) : Int) := by omega
  have h : xs[i.toNat]? = some (xs.getD i.toNat .non) := by
    rw [List.getD_eq_getElem?_getD, List.getElem?_eq_getElem (by omega)]
    rfl
  exact e ▸ atI_nat h
theorem atI_ints {ns : List Int} {i : Int} (h0 : 0 ≤ i) (h1 : i < ns.length) : atI (ns.map V.int) i = some (.int (ns.getD i.toNat 0)) := by
  rw [atI_at h0 (by rw [List.length_map]; exact h1)]
  congr 1
  rw [List.getD_eq_getElem?_getD, List.getD_eq_getElem?_getD, List.getElem?_map, List.getElem?_eq_getElem (by omega)]
  rfl
theorem atI_strs {ns : List Str} {i : Int} (h0 : 0 ≤ i) (h1 : i < ns.length) : atI (ns.map V.str) i = some (.str (ns.getD i.toNat Str.empty)) := by
  rw [atI_at h0 (by rw [List.length_map]; exact h1)]
  congr 1
  rw [List.getD_eq_getElem?_getD, List.getD_eq_getElem?_getD, List.getElem?_map, List.getElem?_eq_getElem (by omega)]
  rfl
structure Bx (H : Hp) (b d : Addr) : Prop where
  ex : ∃ (at_ : Int) (ds : List Int), H b = some (.lst [.ref d, .int at_]) ∧ H d = some (.lst (ds.map V.int)) ∧ 0 ≤ at_
section
variable {H H1 : Hp} {b d p : Addr} {o : HO}
theorem Bx.ne (h : Bx H b d) : d ≠ b := by
  obtain ⟨at_, ds, h1, h2, _⟩ := h.ex
  intro e
  subst e
  rw [h1] at h2
  cases ds with
  | nil => cases h2
  | cons n r => simp at h2
theorem Bx.kp0 (h : Bx H b d) (e : Kp [] H H1) : Bx H1 b d := by
  obtain ⟨at_, ds, h1, h2, h3⟩ := h.ex
  exact ⟨at_, ds, e.at0 h1, e.at0 h2, h3⟩
theorem Bx.new (h : Bx H b d) (hp : H p = none) : Bx (upd H p o) b d := h.kp0 (Kp.new hp)
theorem Bx.other (h : Bx H b d) (n1 : p ≠ b) (n2 : p ≠ d) : Bx (upd H p o) b d := by
  obtain ⟨at_, ds, h1, h2, h3⟩ := h.ex
  exact ⟨at_, ds, upd_other (Ne.symm n1) h1, upd_other (Ne.symm n2) h2, h3⟩
theorem Bx.nw (h : Bx H b d) (N : New H p o H1) : Bx H1 b d := by rw [N.eq]; exact h.new N.fr
theorem Bx.ne_new (h : Bx H b d) (hp : H p = none) : p ≠ b ∧ p ≠ d := by
  obtain ⟨at_, ds, h1, h2, h3⟩ := h.ex
  exact ⟨fun e => ne_of_none h1 hp e.symm, fun e => ne_of_none h2 hp e.symm⟩
end
end Sa

namespace Sa
open PySem L2

section
variable {K : PySem.W.Frag} {σ : St} {H : Hp} {D : Ends} {wi : TI} {g : TG} {tb : TS} {ta : TA} {tl te : TE} {tt : TT} {R : It → Hp → Prop} {a : Addr} {xs : List V} {lo hi : Int} {n : Nat} {Q : VK} {vs : List Nat} {z : Str}
def ForJ (J : It) (g : TG) (tb : TS) (D : Ends) (σ : St) (H1 : Hp) : Prop := ∃ W : Nat → Nat → St → Hp → Prop, (∃ m, W 0 m σ H1) ∧ ∀ i m σ H, W i m σ H →
  (J.stop i H ∧ D.nx σ H) ∨ (J.go i H ∧ ∃ N : St → Hp → Prop, (∀ σ' H', N σ' H' → ∃ m', m' < m ∧ W (i + 1) m' σ' H') ∧ ∀ x H', J.yld i H x H' → g x σ H' fun σ2 H2 => tb { D with nx := N, ct := N, bk := D.nx } σ2 H2)
def LcJ (J : It) (g : TG) (tt : TT) (te : TE) (vs : List Nat) (σ : St) (H1 : Hp) (Q : VK) : Prop := ∀ D, H1 D = none → ∃ W : Nat → Nat → Hp → Prop, (∃ m, W 0 m (upd H1 D (.lst []))) ∧ ∀ i m H, W i m H →
  (J.stop i H ∧ Q (.ref D) H) ∨ (J.go i H ∧ ∃ Nx : Hp → Prop, (∀ H', Nx H' → ∃ m', m' < m ∧ W (i + 1) m' H') ∧ ∀ x H', J.yld i H x H' → g x (wipe σ vs) H' fun σ2 H2 => wipe σ2 vs = wipe σ vs ∧ tt σ2 H2 fun b H3 =>
    if b = true then te σ2 H3 fun y H4 => ∃ acc, H4 D = some (.lst acc) ∧ acc.length < sizeLine ∧ Nx (upd H4 D (.lst (acc ++ [y]))) else Nx H3)
theorem c_for (h : wi σ H fun J H1 => ForJ J g tb D σ H1) : tFor wi g tb D σ H := h
theorem c_lc (h : wi σ H fun J H1 => LcJ J g tt te vs σ H1 Q) : tLc wi g tt te vs σ H Q := h
theorem c_rng1 (h : ta σ H fun vs H1 => ∃ j : Int, vs = [.int j] ∧ -(2 ^ 62) ≤ j ∧ j < 2 ^ 62 ∧ R (Itr 0 j.toNat) H1) : iRng1 ta σ H R := h
theorem c_rng2 (h : ta σ H fun vs H1 => ∃ i j : Int, vs = [.int i, .int j] ∧ (-(2 ^ 62) ≤ i ∧ i < 2 ^ 62 ∧ -(2 ^ 62) ≤ j ∧ j < 2 ^ 62) ∧ R (Itr i (j - i).toNat) H1) : iRng2 ta σ H R := h
theorem c_r1F (h1 : -4611686018427387904 ≤ hi ∧ hi < 4611686018427387904) (h : ForJ (Itr 0 hi.toNat) g tb D σ H) : ∃ j : Int, [V.int hi] = [.int j] ∧ -(2 ^ 62) ≤ j ∧ j < 2 ^ 62 ∧ ForJ (Itr 0 j.toNat) g tb D σ H := ⟨hi, rfl, by omega, by omega, h⟩
theorem c_r2F (h1 : -4611686018427387904 ≤ hi ∧ hi < 4611686018427387904 ∧ -4611686018427387904 ≤ lo ∧ lo < 4611686018427387904) (h : ForJ (Itr lo (hi - lo).toNat) g tb D σ H) : ∃ i j : Int, [V.int lo, V.int hi] = [.int i, .int j] ∧ (-(2 ^ 62) ≤ i ∧ i < 2 ^ 62 ∧ -(2 ^ 62) ≤ j ∧ j < 2 ^ 62) ∧ ForJ (Itr i (j - i).toNat) g tb D σ H :=
  ⟨lo, hi, rfl, by omega, h⟩
theorem c_itLF (h : SqL K H a xs) (q : ForJ (Itl K a) g tb D σ H) : ∃ b, V.ref a = .ref b ∧ (∃ xs, SqL K H b xs) ∧ ForJ (Itl K b) g tb D σ H := ⟨a, rfl, ⟨xs, h⟩, q⟩
theorem c_itTF (h : SqT K H a xs) (q : ForJ (Itt K a) g tb D σ H) : ∃ b, V.ref a = .ref b ∧ (∃ xs, SqT K H b xs) ∧ ForJ (Itt K b) g tb D σ H := ⟨a, rfl, ⟨xs, h⟩, q⟩
theorem c_itSF (q : ForJ (Its z) g tb D σ H) : ∃ x, V.str z = .str x ∧ ForJ (Its x) g tb D σ H := ⟨z, rfl, q⟩
theorem c_r1C (h1 : -4611686018427387904 ≤ hi ∧ hi < 4611686018427387904) (h : LcJ (Itr 0 hi.toNat) g tt te vs σ H Q) : ∃ j : Int, [V.int hi] = [.int j] ∧ -(2 ^ 62) ≤ j ∧ j < 2 ^ 62 ∧ LcJ (Itr 0 j.toNat) g tt te vs σ H Q := ⟨hi, rfl, by omega, by omega, h⟩
theorem c_r2C (h1 : -4611686018427387904 ≤ hi ∧ hi < 4611686018427387904 ∧ -4611686018427387904 ≤ lo ∧ lo < 4611686018427387904) (h : LcJ (Itr lo (hi - lo).toNat) g tt te vs σ H Q) : ∃ i j : Int, [V.int lo, V.int hi] = [.int i, .int j] ∧ (-(2 ^ 62) ≤ i ∧ i < 2 ^ 62 ∧ -(2 ^ 62) ≤ j ∧ j < 2 ^ 62) ∧ LcJ (Itr i (j - i).toNat) g tt te vs σ H Q :=
  ⟨lo, hi, rfl, by omega, h⟩
theorem c_itLC (h : SqL K H a xs) (q : LcJ (Itl K a) g tt te vs σ H Q) : ∃ b, V.ref a = .ref b ∧ (∃ xs, SqL K H b xs) ∧ LcJ (Itl K b) g tt te vs σ H Q := ⟨a, rfl, ⟨xs, h⟩, q⟩
theorem c_itTC (h : SqT K H a xs) (q : LcJ (Itt K a) g tt te vs σ H Q) : ∃ b, V.ref a = .ref b ∧ (∃ xs, SqT K H b xs) ∧ LcJ (Itt K b) g tt te vs σ H Q := ⟨a, rfl, ⟨xs, h⟩, q⟩
theorem c_itSC (q : LcJ (Its z) g tt te vs σ H Q) : ∃ x, V.str z = .str x ∧ LcJ (Its x) g tt te vs σ H Q := ⟨z, rfl, q⟩
theorem c_iList (h : tl σ H fun x H1 => ∃ a, x = .ref a ∧ (∃ xs, SqL K H1 a xs) ∧ R (Itl K a) H1) : iList K tl σ H R := h
theorem c_iTup (h : tl σ H fun x H1 => ∃ a, x = .ref a ∧ (∃ xs, SqT K H1 a xs) ∧ R (Itt K a) H1) : iTup K tl σ H R := h
theorem c_iStr (h : tl σ H fun v H1 => ∃ x, v = .str x ∧ R (Its x) H1) : iStr tl σ H R := h
theorem forR (Pv : Nat → St → Hp → Prop) (h0 : Pv 0 σ H) (hs : ∀ i σ H, i < n → Pv i σ H → g (.int (lo + i)) σ H fun σ2 H2 => tb { D with nx := Pv (i + 1), ct := Pv (i + 1), bk := D.nx } σ2 H2) (hd : ∀ σ H, Pv n σ H → D.nx σ H) : ForJ (Itr lo n) g tb D σ H := for_range Pv h0 hs hd
theorem forS (Pv : Nat → St → Hp → Prop) (h0 : Pv 0 σ H)
    (hs : ∀ (i : Nat) (c : Nat) σ H, z.cps.toList[i]? = some c → Pv i σ H → g (.str ⟨#[c]⟩) σ H fun σ2 H2 => tb { D with nx := Pv (i + 1), ct := Pv (i + 1), bk := D.nx } σ2 H2) (hd : ∀ σ H, Pv z.cps.toList.length σ H → D.nx σ H) : ForJ (Its z) g tb D σ H := by
  refine ⟨fun i m σ H => m = z.cps.size - i ∧ i ≤ z.cps.size ∧ Pv i σ H, ⟨_, rfl, Nat.zero_le _, h0⟩, ?_⟩
  rintro i m σ H ⟨rfl, hi, p⟩
  by_cases hlt : i < z.cps.size
  · refine .inr ⟨hlt, Pv (i + 1), fun σ' H' p' => ⟨_, by omega, rfl, hlt, p'⟩, fun x H' y => ?_⟩
    obtain ⟨e, c, hc, e2⟩ := y
    subst e e2
    exact hs i c σ _ (by rw [Array.getElem?_toList]; exact hc) p
  · have e : i = z.cps.toList.length := by rw [Array.length_toList]; omega
    subst e
    exact .inl ⟨by rw [Array.length_toList] at hlt; exact Nat.le_of_not_lt hlt, hd σ H p⟩

def LcN (Pv : Addr → Nat → List V → Hp → Prop) (Dl : Addr) (i : Nat) (H : Hp) : Prop := ∃ acc, H Dl = some (.lst acc) ∧ acc.length ≤ i ∧ Pv Dl i acc H
abbrev LcT (g : TG) (tt : TT) (te : TE) (vs : List Nat) (σ : St) (Pv : Addr → Nat → List V → Hp → Prop) (Dl : Addr) (i : Nat) (x : V) (H' : Hp) : Prop :=
  g x (wipe σ vs) H' fun σ2 H2 => wipe σ2 vs = wipe σ vs ∧ tt σ2 H2 fun b H3 =>
    if b = true then te σ2 H3 fun y H4 => ∃ acc, H4 Dl = some (.lst acc) ∧ acc.length < sizeLine ∧ LcN Pv Dl (i + 1) (upd H4 Dl (.lst (acc ++ [y]))) else LcN Pv Dl (i + 1) H3
theorem lc_push {Pv : Addr → Nat → List V → Hp → Prop} {Dl : Addr} {i : Nat} {H4 : Hp} {acc : List V} {y : V} (h : H4 Dl = some (.lst acc)) (hl : acc.length ≤ i) (hi : i < 16777216) (p : Pv Dl (i + 1) (acc ++ [y]) (upd H4 Dl (.lst (acc ++ [y])))) :
    ∃ acc, H4 Dl = some (.lst acc) ∧ acc.length < sizeLine ∧ LcN Pv Dl (i + 1) (upd H4 Dl (.lst (acc ++ [y]))) :=
  ⟨acc, h, by rw [sizeLine_eq]; omega, acc ++ [y], upd_same, by rw [List.length_append, List.length_singleton]; omega, p⟩
theorem lc_skip {Pv : Addr → Nat → List V → Hp → Prop} {Dl : Addr} {i : Nat} {H3 : Hp} {acc : List V} (h : H3 Dl = some (.lst acc)) (hl : acc.length ≤ i) (p : Pv Dl (i + 1) acc H3) : LcN Pv Dl (i + 1) H3 := ⟨acc, h, by omega, p⟩
theorem lcR (Pv : Addr → Nat → List V → Hp → Prop) (h0 : ∀ Dl, H Dl = none → Pv Dl 0 [] (upd H Dl (.lst [])))
    (hs : ∀ Dl i acc H', H Dl = none → i < n → H' Dl = some (.lst acc) → acc.length ≤ i → Pv Dl i acc H' → LcT g tt te vs σ Pv Dl i (.int (lo + i)) H')
    (hd : ∀ Dl acc H', H Dl = none → H' Dl = some (.lst acc) → acc.length ≤ n → Pv Dl n acc H' → Q (.ref Dl) H') : LcJ (Itr lo n) g tt te vs σ H Q := fun Dl hD =>
  lc_range (LcN Pv Dl) ⟨[], upd_same, Nat.zero_le _, h0 Dl hD⟩ (fun i H' hi ⟨acc, h1, h2, h3⟩ => hs Dl i acc H' hD hi h1 h2 h3) fun H' ⟨acc, h1, h2, h3⟩ => hd Dl acc H' hD h1 h2 h3
theorem lcL (xs : List V) (Pv : Addr → Nat → List V → Hp → Prop) (h0 : ∀ Dl, H Dl = none → Pv Dl 0 [] (upd H Dl (.lst []))) (hl : ∀ Dl i acc H', H Dl = none → Pv Dl i acc H' → SqL K H' a xs)
    (hs : ∀ Dl i x acc H', H Dl = none → xs[i]? = some x → H' Dl = some (.lst acc) → acc.length ≤ i → Pv Dl i acc H' → LcT g tt te vs σ Pv Dl i x H')
    (hd : ∀ Dl acc H', H Dl = none → H' Dl = some (.lst acc) → acc.length ≤ xs.length → Pv Dl xs.length acc H' → Q (.ref Dl) H') : LcJ (Itl K a) g tt te vs σ H Q := fun Dl hD =>
  lc_list (xs := xs) (LcN Pv Dl) ⟨[], upd_same, Nat.zero_le _, h0 Dl hD⟩ (fun i H' _ ⟨acc, _, _, h3⟩ => hl Dl i acc H' hD h3) (fun i x H' hi ⟨acc, h1, h2, h3⟩ => hs Dl i x acc H' hD hi h1 h2 h3) fun H' ⟨acc, h1, h2, h3⟩ => hd Dl acc H' hD h1 h2 h3
theorem lcT (xs : List V) (Pv : Addr → Nat → List V → Hp → Prop) (h0 : ∀ Dl, H Dl = none → Pv Dl 0 [] (upd H Dl (.lst []))) (hl : ∀ Dl i acc H', H Dl = none → Pv Dl i acc H' → SqT K H' a xs)
    (hs : ∀ Dl i x acc H', H Dl = none → xs[i]? = some x → H' Dl = some (.lst acc) → acc.length ≤ i → Pv Dl i acc H' → LcT g tt te vs σ Pv Dl i x H')
    (hd : ∀ Dl acc H', H Dl = none → H' Dl = some (.lst acc) → acc.length ≤ xs.length → Pv Dl xs.length acc H' → Q (.ref Dl) H') : LcJ (Itt K a) g tt te vs σ H Q := fun Dl hD =>
  lc_tup (xs := xs) (LcN Pv Dl) ⟨[], upd_same, Nat.zero_le _, h0 Dl hD⟩ (fun i H' _ ⟨acc, _, _, h3⟩ => hl Dl i acc H' hD h3) (fun i x H' hi ⟨acc, h1, h2, h3⟩ => hs Dl i x acc H' hD hi h1 h2 h3) fun H' ⟨acc, h1, h2, h3⟩ => hd Dl acc H' hD h1 h2 h3
theorem c_unL {K : PySem.W.Frag} {ys : List V} {gs : TGs} {R : St → Hp → Prop} (h : SqL K H a ys) (hl : ys.length = n) (q : gs ys σ H R) : gLst K n gs (.ref a) σ H R := ⟨a, ys, rfl, h, hl, q⟩
theorem c_unT {K : PySem.W.Frag} {ys : List V} {gs : TGs} {R : St → Hp → Prop} (h : SqT K H a ys) (hl : ys.length = n) (q : gs ys σ H R) : gTup K n gs (.ref a) σ H R := ⟨a, ys, rfl, h, hl, q⟩
theorem c_gCons {v : V} {r : List V} {gs : TGs} {R : St → Hp → Prop} (q : g v σ H fun σ' H' => gs r σ' H' R) : gCons g gs (v :: r) σ H R := ⟨v, r, rfl, q⟩
theorem c_gNil {R : St → Hp → Prop} (q : R σ H) : gNil [] σ H R := ⟨rfl, q⟩
theorem c_cut {t u : TS} (Mid : St → Hp → Prop) (h1 : t { D with nx := Mid } σ H) (h2 : ∀ σ' H', Mid σ' H' → u D σ' H') : Evl.tCut t u D σ H := ⟨Mid, h1, h2⟩
theorem c_yes {R : Bool → Hp → Prop} (h : R true H) : tYes σ H R := h
end
end Sa

namespace Sa
open PySem L2

def txt (cs : List Nat) : Str := ⟨cs.toArray⟩
theorem txt_len (cs : List Nat) : (txt cs).length = cs.length := by show cs.toArray.size = _; simp
theorem txt_cps (cs : List Nat) : (txt cs).cps.toList = cs := by show cs.toArray.toList = _; simp
theorem txt_of (s : Str) : s = txt s.cps.toList := by cases s; simp [txt]
theorem txt_inj {cs ds : List Nat} : txt cs = txt ds ↔ cs = ds := by
  constructor
  · intro h
    have e := congrArg (fun s : Str => s.cps.toList) h
    simpa [txt] using e
  · intro h; rw [h]
theorem cutS_txt (cs : List Nat) (lo hi : Option Int) : cutS (txt cs) lo hi = txt ((cs.drop (HT.sIx cs.length 0 lo)).take (HT.sIx cs.length cs.length hi - HT.sIx cs.length 0 lo)) := by
  unfold cutS
  rw [txt_len, txt_cps]
  rfl
theorem tjoin (s : Str) (ys : List Str) : Txt.join s ys = Str.join s ys := StrLaws.glued_eq_join s ys
def cutL {α : Type} (xs : List α) (lo hi : Option Int) : List α := (xs.drop (HT.sIx xs.length 0 lo)).take (HT.sIx xs.length xs.length hi - HT.sIx xs.length 0 lo)
theorem cutL_map {α β : Type} (f : α → β) (xs : List α) (lo hi : Option Int) : cutL (xs.map f) lo hi = (cutL xs lo hi).map f := by
  unfold cutL
  rw [List.length_map, List.map_take, List.map_drop]
theorem sIx_of {n d : Nat} {i : Int} (h : 0 ≤ i) : HT.sIx n d (some i) = min i.toNat n := by
  obtain ⟨k, rfl⟩ := Int.eq_ofNat_of_zero_le h
  exact HT.sIx_nat n d k
theorem cutL_to {α : Type} {xs : List α} {j : Int} (h1 : 0 ≤ j) (h2 : j ≤ xs.length) : cutL xs none (some j) = xs.take j.toNat := by
  unfold cutL
  rw [sIx_of h1, Nat.min_eq_left (by omega)]
  simp [HT.sIx]
theorem cutL_from {α : Type} {xs : List α} {i : Int} (h0 : 0 ≤ i) (h1 : i ≤ xs.length) : cutL xs (some i) none = xs.drop i.toNat := by
  unfold cutL
  rw [sIx_of h0, Nat.min_eq_left (by omega)]
  show (xs.drop i.toNat).take (xs.length - i.toNat) = _
  rw [List.take_of_length_le (by rw [List.length_drop]; omega)]
section
variable {K : PySem.W.Frag} {H : Hp} {Q : VK} {a b : Addr} {ns ms : List Int}
theorem dpAll_ints : ∀ ns : List Int, DpAll K H (ns.map V.int) (ns.map PyData.int)
  | [] => .nil
  | n :: r => .cons (.int n) (dpAll_ints r)
theorem dp_ints (h : SqL K H a (ns.map V.int)) : Dp K H (.ref a) (.list (ns.map PyData.int)) := .lst h (dpAll_ints ns)
theorem eqvAll_ints : ∀ ns ms : List Int, PyData.eqvAll (ns.map PyData.int) (ms.map PyData.int) = decide (ns = ms)
  | [], [] => by simp [PyData.eqvAll]
  | [], _ :: _ => by simp [PyData.eqvAll]
  | _ :: _, [] => by simp [PyData.eqvAll]
  | a :: r, b :: t => by
    simp only [List.map_cons, PyData.eqvAll, PyData.eqv, eqvAll_ints r t]
    by_cases h : a = b <;> by_cases h' : r = t <;> simp [h, h']
theorem c_eqLI (ha : SqL K H a (ns.map V.int)) (hb : SqL K H b (ms.map V.int)) (q : Q (.bl (decide (ns = ms))) H) : rEqU K (.ref a) (.ref b) H Q :=
  c_eqD (dp_ints ha) (dp_ints hb) (PySem.W.ke_shaped_ints ns) (PySem.W.ke_shaped_ints ms) (by rw [PyData.eqv, eqvAll_ints]; exact q)
end
theorem map_snocI (ds : List Int) (z : Int) : ds.map V.int ++ [V.int z] = (ds ++ [z]).map V.int := by rw [List.map_append]; rfl
theorem take_succ' {α : Type} {xs : List α} {i : Nat} {x : α} (h : xs[i]? = some x) : xs.take (i + 1) = xs.take i ++ [x] := by
  rw [List.take_succ, h]; rfl
end Sa

namespace Sa
open PySem PySem.Spec PyProof.Rows L2
structure FnG (P : Program) (w : World) (K : PySem.W.Frag) (mg : Str → Option Value) (base : Heap) (CX : CXT) (k : Nat) (f : Addr) (fd : FuncData) (ps : List Str) (sp : Sp) : Prop where
  len : ∀ vs H Q E, sp vs H Q E → vs.length = ps.length
  go : ∀ (A : Around) (fs : List Env) (s : Shared) (H : Hp) (args : Args) (us : List Value) (vs : List V) (Q : VK) (E : XK),
    A.guards = some [] ∧ Room k A ∧ Env0 P w K mg base A fs s H ∧ BindsTo s fd args (ps.zip us) ∧ Vals vs us ∧ sp vs H Q E → codeAny (model P w) A (.call (.ref f) args) (CR CX fs P w H s Q E) s
theorem FnG.mono {P : Program} {w : World} {K : PySem.W.Frag} {mg : Str → Option Value} {base : Heap} {CX : CXT} {j k : Nat} {f : Addr} {fd : FuncData} {ps : List Str} {sp : Sp} (F : FnG P w K mg base CX j f fd ps sp) (h : j ≤ k) : FnG P w K mg base CX k f fd ps sp :=
  ⟨F.len, fun A fs s H args us vs Q E z => F.go A fs s H args us vs Q E ⟨z.1, z.2.1.mono h, z.2.2⟩⟩
section
variable {P : Program} {w : World} {K : PySem.W.Frag} {mg : Str → Option Value} {base : Heap} {CX : CXT} {k : Nat} {f : Addr} {x : Str} {st : Stmt} {N ps : List Str} {sp : Sp}
def BodyG (P : Program) (w : World) (K : PySem.W.Frag) (mg : Str → Option Value) (base : Heap) (x : Str) (st : Stmt) (N : List Str) (k : Nat) (sp : Sp) : Prop :=
  ∀ (cdv : Value) (A : Around) (fs : List Env) (s : Shared) (H : Hp) (vs : List V) (Q : VK) (E : XK), sp vs H Q E → let X : Cx := (cxOf CX0 P w K mg base N x (defScope st) (He.ga K x) cdv A fs s H E).nox
    Room k X.A → X.A.guards = some [] → ∃ t, PSs X (defBody st) t ∧ t { nx := fun _ H' => Q .non H', rt := Q } (start N vs) H
theorem fnG_of {fd : FuncData} (F : FunD K x x (defArgs st) (defBody st) (defScope st) [] [] (He.ga K x) fd) (S : FnScope N ps (defScope st)) (len : ∀ vs H Q E, sp vs H Q E → vs.length = ps.length) (body : BodyG P w K mg base x st N k sp) :
    FnG P w K mg base CX0 (k + 1) (He.ga K x) fd ps sp := by
  obtain ⟨oc, od, dV, kV, doc, pm, an, cdv, ct, osl, rfl, lk, hcd, _, _⟩ := F.ex
  refine ⟨len, ?_⟩
  rintro A fs s H args us vs Q E ⟨hg, hr, e0, hb, rv, hsp⟩
  have hlen := len _ _ _ _ hsp
  have inK : K.In s.heap := e0.mod.kin.keeps (fun b o e => (e0.bs b o e).1)
  have noL : s.heap.NoLimit := e0.mod.nolimit.keeps (fun b o e => (e0.bs b o e).1)
  have loc : ∀ y ∈ ps.zip us, (defScope st).names.lookup y.1 = some .local ∨ ((defScope st).names.lookup y.1 = some .cell ∧ ((cellsFrom (s.heap.objs.size + 1) (defScope st).names []).lookup y.1).isSome = true) := by
    rintro ⟨n, v⟩ hy
    exact (S.par n (List.of_mem_zip hy).1).imp id (fun q => ⟨q, PySem.W.cellsFrom_some _ _ _ (.inl q)⟩)
  refine codeAny_call_function hr.depth (inK _ _ lk) rfl S.co S.gen rfl (PySem.W.codeRec_of inK hcd) (hb _ _ _ _ (wpAny_newFunctionEnv_cells S.kind loc (fun env he s1 ic => ?_)))
  cases he
  refine ⟨noL.keeps ic.toInCall.keep, codeAny_func ?_⟩
  obtain ⟨t, ht, hq⟩ := body cdv A fs s H vs Q E hsp (hr.deeper _) hg
  have I := inv_start (CX := CX0) (P := P) (w := w) (K := K) (mg := mg) (base := base) (E := E) S hr.hd e0 hlen rv ic
  refine wpAny_mono (ht.nox.run [] s1 (start N vs) H _ I hq) (fun fl s' hs => ?_) (fun e s' hs => hs)
  have fin : ∀ {σ' H' v u}, Inv (cxOf CX0 P w K mg base N x (defScope st) (He.ga K x) cdv A fs s H E) [] σ' H' s' → RelV v u → Q v H' → CE fs P w H s Q u s' := by
    intro σ' H' v u J rv q
    exact ⟨v, H', J.os, J.bare, J.base, J.hok, rv, q⟩
  cases fl with
  | ret u => obtain ⟨v, σ', H', J, rv, q⟩ := hs; exact fin J rv q
  | next => obtain ⟨σ', H', J, q⟩ := hs; exact fin (v := V.non) (u := Value.none) J rfl q
  | brk => obtain ⟨_, _, _, q⟩ := hs; exact q.elim
  | cont => obtain ⟨_, _, _, q⟩ := hs; exact q.elim
end
structure DefG (P : Program) (w : World) (K : PySem.W.Frag) (mg : Str → Option Value) (base : Heap) (x : Str) (k : Nat) (ps : List Str) (sp : Sp) : Prop where
  gl : mg x = some (.ref (He.ga K x))
  kp : PySem.W.keepIn K (.ref (He.ga K x)) = true
  ok : ∃ fd, FnG P w K mg base CX0 k (He.ga K x) fd ps sp ∧ Binds K fd ps []
theorem defG_of {fa : List He.Fa} {fn : List He.DefD} {fx : List Fx} {P : Program} {w : World} {K : PySem.W.Frag} {mg : Str → Option Value} {base : Heap} (T : Tx fa fn fx K mg) (i j : Nat) {x : Str} {st : Stmt} {N ps : List Str} {k : Nat} {sp : Sp} (S : FnScope N ps (defScope st)) (B : BindN x st ps)
    (len : ∀ vs H Q E, sp vs H Q E → vs.length = ps.length) (body : BodyG P w K mg base x st N k sp) (hd : fn[i]? = some (dOf x st) := by rfl) (hg : fa[j]? = some (.glo x) := by rfl) : DefG P w K mg base x (k + 1) ps sp := by
  have gl := T.glo j hg
  obtain ⟨hp, X, G, c, _⟩ := T
  obtain ⟨fd, F⟩ := c.def_ i hd
  exact ⟨gl, F.kp, fd, fnG_of F S len body, F.bindsN B⟩
section
variable {X : Cx} {x : Str} {k j : Nat} {ps : List Str} {sp : Sp} {p pos : Pos} {e : Expr} {es : List Expr} {t : TA}
theorem pe_callG (D : DefG X.prog X.w X.K X.mg X.base x j ps sp) (hr : Room k X.A) (hgd : X.A.guards = some []) (ha : PA X (e :: es) t) (hjk : j ≤ k := by decide) (hg : Gl X x := by rfl)
    (hdb : (x == ("__debug__" : Str)) = false := by decide) (he : starEach (e :: es) X.env = (false, eval e X.env) :: starEach es X.env := by rfl) (hpl : (backTo pos (starEach es X.env)).any (·.1) = false := by rfl) :
    PE X (.Call (.Name x p) (e :: es) [] pos) (tCallA sp E0 t) := by
  obtain ⟨fd, F0, B⟩ := D.ok
  have F := F0.mono hjk
  refine ⟨fun pins s σ H Q I h => ?_⟩
  refine wpAny_Call_Name_kw (ld_glob I hg D.gl ?_ hdb)
  refine PySem.W.callWith_K (h₀ := X.base) I.ok.mod.kin D.kp (thn (ha.run pos pins s σ H _ I h) (fun us s1 z => ?_)) he hpl
  obtain ⟨vs, H1, I1, r, q⟩ := z
  refine ⟨I1.kIn, ?_⟩
  have n : (us ++ []).length = ps.length := by rw [List.append_nil, ← r.length]; exact F.len _ _ _ _ q
  have b := B s1 us I1.kIn n
  rw [List.append_nil] at b
  refine wpAny_call (codeAny_mono (F.go X.A X.stack s1 H1 ⟨us, []⟩ us vs Q E0 ⟨hgd, hr, I1.env0, b, r, q⟩) (fun r s' hq => ?_))
  cases r with
  | error e => exact False.elim hq
  | ok fl =>
    cases fl with
    | ret u => exact I1.after hq
    | next => exact False.elim hq
    | brk => exact False.elim hq
    | cont => exact False.elim hq
end
structure Nice (d : PyData) : Prop where
  lay : PyData.layable0 d = true
  shrt : PyData.intsShort 13 d = true
  show_ : PyData.showable d = true
theorem Nice.size {d : PyData} (h : Nice d) : d.shown.length ≤ sizeLine := by
  have z := shown_le13 h.lay h.shrt
  rw [sizeLine_eq]
  omega
theorem Nice.depth {d : PyData} (h : Nice d) : d.depth ≤ 64 := by
  have z := h.lay
  unfold PyData.layable0 at z
  simp only [Bool.and_eq_true, decide_eq_true_eq] at z
  exact z.1.2
def rReprD (K : PySem.W.Frag) : List V → Hp → VK → Prop := fun vs H Q => ∃ (x : V) (d : PyData), vs = [x] ∧ Dp K H x d ∧ Nice d ∧ Q (.str d.shown) H
theorem cr_reprD {X : Cx} {K : PySem.W.Frag} {A : Around} (hg : A.guards = some []) (hu : A.units + 100 < cLine) (hA : X.A = A := by rfl) (hK : X.K = K := by rfl) : CallR X (.builtin "repr") (rReprD K) := by
  subst hA hK
  intro pins s σ H vs us Q I r h
  obtain ⟨x, d, rfl, hd, nd, q⟩ := h
  obtain ⟨u, rfl, ru⟩ := vals1 r
  have hdp := nd.depth
  cases hd with
  | non => cases ru; exact PySem.P.repr_of_none ⟨.str _, H, I.tok _, ⟨_, rfl⟩, q⟩
  | bl b => cases ru; exact PySem.P.repr_of_bool ⟨.str _, H, I.tok _, ⟨_, rfl⟩, q⟩
  | int i => obtain ⟨t, rfl⟩ := ru; exact PySem.P.repr_of_int (of_decide_eq_true nd.show_) ⟨.str _, H, I.tok _, ⟨_, rfl⟩, q⟩
  | str z => obtain ⟨t, rfl⟩ := ru; exact PySem.P.repr_of_str ⟨.str _, H, I.tok _, ⟨_, rfl⟩, q⟩ nd.size
  | lst h1 h2 =>
    cases ru
    obtain ⟨as, hr⟩ := Dp.reads I _ _ _ (Dp.lst h1 h2) rfl
    exact repr_of_reads' hr nd.show_ (PyData.noDict_hsm (PyData.hasDict_of_layable nd.lay)) hg (by omega) (fun _ _ e => e) (fun h' u tk hk => ⟨.str _, H, I.kept hk, ⟨_, rfl⟩, q⟩) nd.size
  | tup h1 h2 =>
    cases ru
    obtain ⟨as, hr⟩ := Dp.reads I _ _ _ (Dp.tup h1 h2) rfl
    exact repr_of_reads' hr nd.show_ (PyData.noDict_hsm (PyData.hasDict_of_layable nd.lay)) hg (by omega) (fun _ _ e => e) (fun h' u tk hk => ⟨.str _, H, I.kept hk, ⟨_, rfl⟩, q⟩) nd.size
theorem c_repr {K : PySem.W.Frag} {H : Hp} {Q : VK} {x : V} {d : PyData} (h : Dp K H x d) (n : Nice d) (q : Q (.str d.shown) H) : rReprD K [x] H Q := ⟨x, d, rfl, h, n, q⟩

theorem run_end {P : Program} {w : World} {K : PySem.W.Frag} {mg mb : Str → Option Value} {k : Nat} {f a : Addr} {fd : FuncData} {x : Str} {sp : Sp} {s : Shared} {H : Hp}
    (KX : K.In s.heap) (hns : s.heap.Ns mainGlobals mg) (hb : s.heap.Ns builtinsNs mb) (hbb : ∀ x : Str, x ≠ "__name__" → mb x = bootBuiltins x) (hlim : s.heap.NoLimit) (hg : s.gens = #[]) (hr : Room k callerA)
    (F : ∀ base : Heap, K.In base → base.Ns mainGlobals mg → FnG P w K mg base CX0 k f fd [x] sp) (bind : BindsTo s fd ⟨[.ref a], []⟩ [(x, .ref a)]) (hsp : sp [.ref a] H (fun v _ => v = .bl true) fun _ _ _ => False)
    (only : Only H) (hok : HOk P w H s.heap) (one : ∀ b, H b ≠ none → b = a ∧ K.lookup a = none ∧ ∀ o, s.heap.get? a = some o → ∀ es ep, o.data ≠ .dict es ep) :
    codeAny (model P w) callerA (.call (.ref f) ⟨[.ref a], []⟩) (fun r s' => r = .ok (.ret (.bool true)) ∧ OldK s.heap s'.heap ∧ s'.os = s.os ∧ AllBare s'.gens) s := by
  have free : ∀ {b o es ep}, s.heap.get? b = some o → o.data = .dict es ep → H b = none := by
    intro b o es ep e d
    cases z : H b with
    | none => rfl
    | some u =>
      obtain ⟨e1, _, e3⟩ := one b (by rw [z]; intro q; cases q)
      subst e1
      exact absurd d (e3 o e es ep)
  have ns : ∀ {b m}, s.heap.Ns b m → (hidT s.heap H).Ns b m := by
    rintro b m ⟨o, es, ep, e, d, r⟩
    exact ⟨o, es, ep, hidT_get e (free e d), d, r⟩
  have KB : K.In (hidT s.heap H) := by
    intro b o e
    refine hidT_get (KX b o e) ?_
    cases z : H b with
    | none => rfl
    | some u =>
      obtain ⟨e1, e2, _⟩ := one b (by rw [z]; intro q; cases q)
      subst e1
      rw [e2] at e
      cases e
  have M : Mod K mg (hidT s.heap H) := ⟨KB, ns hns, ⟨mb, ns hb, hbb⟩, by obtain ⟨mc, h1, h2⟩ := hlim; exact ⟨mc, ns h1, h2⟩⟩
  have e0 : Env0 P w K mg (hidT s.heap H) callerA [] s H := ⟨rfl, M, fun b o e => of_hidT e, Nat.le_of_eq (hidT_size _ _), trivial, fun b hb => absurd hb (by simp [frs]), hok, .of_eq hg⟩
  refine codeAny_mono ((F _ KB (ns hns)).go callerA [] s H ⟨[.ref a], []⟩ [.ref a] [.ref a] _ _ ⟨rfl, hr, e0, bind, .cons rfl .nil, hsp⟩) (fun r s' z => ?_)
  cases r with
  | error e => exact False.elim z
  | ok fl =>
    cases fl with
    | next => exact False.elim z
    | brk => exact False.elim z
    | cont => exact False.elim z
    | ret u =>
      obtain ⟨v, H', os, bare, un, hok', rv, q⟩ := z
      cases (show v = .bl true from q)
      cases rv
      refine ⟨rfl, OldK.of_keep (fun b o e => ?_), os, bare⟩
      rcases only b with z | ⟨ob, xs, z⟩
      · exact un.keep b o e z (by simp [frs]) (by simp)
      · have e1 := (hok b _ z).1
        have e2 := (hok' b _ (un.frzs b ob _ z)).1
        rw [e] at e1
        cases e1
        exact e2
theorem law_end {l : PySem.W.OpenLaw} {n k : Nat} {q : Program} {loose : List Str} {XP : (Str → Option Value) → Heap → Prop} {YP : World → Heap → Prop} {d : DefRec} {x : Str}
    (hn : l.most = some n) (hn2 : n ≤ sizeLine) (hdf : d.params.defaults = []) (hr : Room k callerA)
    (F : ∀ (w : World) (mg : Str → Option Value) (fa : Addr) (h : Heap), YP w h → h.Ns mainGlobals mg → mg d.name = some (.ref fa) →
      ∃ (K : PySem.W.Frag) (fd : FuncData) (sp : Sp), K.In h ∧ (∀ (s : Shared) (u : Value), BindsTo s fd ⟨[u], []⟩ [(x, u)]) ∧
        (∀ (H : Hp) (a : Addr) (ns : List Int), SqL K H a (ns.map V.int) → sp [.ref a] H (fun v _ => v = .bl true) fun _ _ _ => False) ∧
        ∀ base : Heap, K.In base → base.Ns mainGlobals mg → FnG l.prog w K mg base CX0 k fa fd [x] sp) :
    PySem.W.WalkO q loose XP YP l.row.toRowW d [] (fun f vs => PySem.call f vs) := by
  refine Att.attach_call hn hdf (fun w s0 s mg mb fa o pm cd doc a vs ns G Y ho hd hcd hmg hobj hints hlen hg => ?_)
  obtain ⟨K, fd, sp, KX, bind, hsp, hF⟩ := F w mg fa _ Y G.T.g hmg
  have rv := vals_ints hints
  have len := hints.length
  have hz : ns.length ≤ sizeLine := Nat.le_trans hlen hn2
  cases hk : K.lookup a with
  | some ob =>
    have e := KX a ob hk
    rw [hobj] at e
    cases e
    exact run_end (H := fun _ => none) KX G.T.g G.T.b G.T.builtins G.T.nolimit hg hr hF (bind s _) (hsp _ a ns (.inr ⟨_, vs.toArray, _, hk, rfl, rfl, rfl, by rw [List.size_toArray, len]; exact hz, by simpa using rv⟩)) (fun _ => .inl rfl) (fun b u z => by cases z) (fun b z => absurd rfl z)
  | none =>
    have at_ : (fun b => if b = a then some (HO.frz { cls := .type "list", data := .seq vs.toArray } (.lst (ns.map V.int))) else none : Hp) a = some (HO.frz { cls := .type "list", data := .seq vs.toArray } (.lst (ns.map V.int))) := if_pos rfl
    refine run_end (H := fun b => if b = a then some (HO.frz { cls := .type "list", data := .seq vs.toArray } (.lst (ns.map V.int))) else none) KX G.T.g G.T.b G.T.builtins G.T.nolimit hg hr hF (bind s _) (hsp _ a ns (.inl (.inr ⟨_, at_⟩))) (fun b => ?_) (fun b u z => ?_) (fun b z => ?_)
    · by_cases h : b = a
      · exact .inr ⟨_, _, if_pos h⟩
      · exact .inl (if_neg h)
    · by_cases h : b = a
      · cases h
        cases (if_pos rfl).symm.trans z
        exact ⟨hobj, by rw [List.length_map]; exact hz, vs, _, rv, hobj⟩
      · cases (if_neg h).symm.trans z
    · by_cases h : b = a
      · refine ⟨h, hk, fun o2 e es ep dd => ?_⟩
        rw [hobj] at e
        cases e
        cases dd
      · exact absurd (if_neg h) z
theorem lawG_of {fa : List He.Fa} {fn : List He.DefD} {P : Program} {w : World} {K : PySem.W.Frag} {mg : Str → Option Value} {h : Heap} {f : Addr} {N : List Str} {x : Str} {st : Stmt} {k : Nat} {sp : Sp} (KX : K.In h) (G : h.Ns mainGlobals mg) (c : He.SaysD fa fn K)
    (hf : mg "law" = some (.ref f)) (i j : Nat) (S : FnScope N [x] (defScope st)) (B : BindN "law" st [x]) (len : ∀ vs H Q E, sp vs H Q E → vs.length = 1) (body : ∀ base, BodyG P w K mg base "law" st N k sp)
    (hd : fn[i]? = some (dOf "law" st) := by rfl) (hg : fa[j]? = some (.glo "law") := by rfl) :
    ∃ fd : FuncData, (∀ (s : Shared) (v : Value), BindsTo s fd ⟨[v], []⟩ [(x, v)]) ∧ ∀ base : Heap, K.In base → base.Ns mainGlobals mg → FnG P w K mg base CX0 (k + 1) f fd [x] sp := by
  obtain ⟨fd, F⟩ := c.def_ i hd
  have gl := He.glo_ok KX G (c.fact j hg)
  cases hf.symm.trans gl
  have b := F.bindsA (ps := [x]) B
  exact ⟨fd, fun s v => b s [v] rfl, fun base _ _ => fnG_of F S len (body base)⟩
end Sa

namespace Sa
open PySem L2
section
variable {X : Cx} {K : PySem.W.Frag} {σ : St} {H : Hp} {Q : VK} {a : Addr} {s z : Str} {to te : TE} {o e : Expr}
def rSplitU : V → List V → Hp → VK → Prop := fun x xs H Q => ∃ a b, x = .str a ∧ xs = [.str b] ∧ (b.length == 0) = false ∧ a.length + 2 ≤ sizeLine ∧ ∀ p, H p = none → Q (.ref p) (upd H p (.lst ((Txt.split a b).map V.str)))
theorem pe_splitU {apos pos : Pos} (ho : PE X o to) (he : PE X e te) (hs : starEach [e] X.env = [(false, eval e X.env)] := by rfl) (hbase : attributeBase o "split" X.env (eval o X.env) = eval o X.env := by rfl) (hline : (apos.endLine == pos.line) = true := by rfl) :
    PE X (.Call (.Attribute o "split" apos) [e] [] pos) (tM1 rSplitU to te) := pe_split ho he hs hbase hline
theorem c_split (h0 : (z.length == 0) = false) (hl : s.length + 2 ≤ sizeLine) (q : ∀ p H', New H p (.lst ((Txt.split s z).map V.str)) H' → Q (.ref p) H') : rSplitU (.str s) [.str z] H Q :=
  ⟨s, z, rfl, rfl, h0, hl, fun p hp => q p _ ⟨hp, rfl⟩⟩
def rStartsU : V → List V → Hp → VK → Prop := fun x xs H Q => ∃ a b, x = .str a ∧ xs = [.str b] ∧ Q (.bl (Txt.startswith a b)) H
theorem mt_startsU : MtR X "str.startswith" rStartsU := mt_startswith
theorem c_starts (q : Q (.bl (Txt.startswith s z)) H) : rStartsU (.str s) [.str z] H Q := ⟨s, z, rfl, rfl, q⟩
end
theorem join_len (y : Str) : ∀ ys : List Str, (ys.map (·.length)).sum + (ys.length - 1) * y.length = (Str.join y ys).length
  | [] => by show 0 + 0 * y.length = 0; omega
  | [x] => by show x.length + 0 + 0 * y.length = x.length; omega
  | x :: z :: r => by
    have ih := join_len y (z :: r)
    show _ = (x ++ y ++ Str.join y (z :: r)).length
    have l2 : ∀ a b : Str, (a ++ b).length = a.length + b.length := fun a b => by show (a.cps ++ b.cps).size = _; rw [Array.size_append]; rfl
    rw [l2, l2, ← ih]
    simp only [List.map_cons, List.sum_cons, List.length_cons, Nat.add_sub_cancel, Nat.add_mul, Nat.one_mul]
    omega
theorem split_len (x y : Str) : ((Txt.split x y).map (·.length)).sum + ((Txt.split x y).length - 1) * y.length = x.length := by
  rw [join_len, StrLaws.join_split]
theorem sum_mem {n : Nat} : ∀ {ns : List Nat}, n ∈ ns → n ≤ ns.sum
  | m :: r, h => by
    rw [List.sum_cons]
    rcases List.mem_cons.mp h with e | h
    · omega
    · have := sum_mem h
      omega
theorem split_part {x y z : Str} (h : z ∈ Txt.split x y) : z.length ≤ x.length := by
  have e := split_len x y
  have := sum_mem (List.mem_map_of_mem (f := fun s : Str => s.length) h)
  omega
theorem split_many {x : Str} (y : Str) (hy : 0 < y.length) : (Txt.split x y).length ≤ x.length + 1 := by
  have e := split_len x y
  have : (Txt.split x y).length - 1 ≤ ((Txt.split x y).length - 1) * y.length := Nat.le_mul_of_pos_right _ hy
  omega
theorem cut_starts (x y : Str) : decide (cutS x none (some (y.length : Int)) = y) = Txt.startswith x y := by
  rw [txt_of x, txt_of y, cutS_txt, txt_len]
  generalize x.cps.toList = xs
  generalize y.cps.toList = ys
  rw [sIx_of (by omega), Int.toNat_natCast]
  show decide (txt ((xs.drop (HT.sIx xs.length 0 none)).take (min ys.length xs.length - HT.sIx xs.length 0 none)) = txt ys) = _
  have e0 : HT.sIx xs.length 0 none = 0 := rfl
  rw [e0, List.drop_zero, Nat.sub_zero]
  unfold Txt.startswith
  rw [StrLaws.subAt_eq, txt_cps, txt_cps, txt_len, txt_len, List.drop_zero, Nat.zero_add]
  have e1 : xs.take (min ys.length xs.length) = xs.take ys.length := by
    by_cases h : ys.length ≤ xs.length
    · rw [Nat.min_eq_left h]
    · rw [Nat.min_eq_right (by omega), List.take_of_length_le (Nat.le_refl _), List.take_of_length_le (by omega)]
  rw [e1]
  by_cases h : xs.take ys.length = ys
  · have hl : ys.length ≤ xs.length := by have := congrArg List.length h; rw [List.length_take] at this; omega
    rw [h]
    simp [hl]
  · have hn : txt (xs.take ys.length) ≠ txt ys := fun e => h (txt_inj.mp e)
    simp [h, hn]
theorem str_app_len (a b : Str) : (a ++ b).length = a.length + b.length := by show (a.cps ++ b.cps).size = _; rw [Array.size_append]; rfl
theorem un100 {k : Nat} {A : Around} (r : Room k A) : A.units + 100 < cLine := by have := r.un; omega
section
variable {K : PySem.W.Frag} {σ : St} {H : Hp} {g : TG} {tt : TT} {te : TE} {a b d : Addr} {z : Str} {lo : Int} {n : Nat} {Q : VK} {vs : List Nat} {xs : List V}
theorem lcS (Pv : Addr → Nat → List V → Hp → Prop) (h0 : ∀ Dl, H Dl = none → Pv Dl 0 [] (upd H Dl (.lst [])))
    (hs : ∀ Dl i c acc H', H Dl = none → z.cps.toList[i]? = some c → H' Dl = some (.lst acc) → acc.length ≤ i → Pv Dl i acc H' → LcT g tt te vs σ Pv Dl i (.str ⟨#[c]⟩) H')
    (hd : ∀ Dl acc H', H Dl = none → H' Dl = some (.lst acc) → acc.length ≤ z.cps.toList.length → Pv Dl z.cps.toList.length acc H' → Q (.ref Dl) H') : LcJ (Its z) g tt te vs σ H Q := by
  intro Dl hD
  refine ⟨fun i m H' => m = z.cps.size - i ∧ i ≤ z.cps.size ∧ LcN Pv Dl i H', ⟨_, rfl, Nat.zero_le _, [], upd_same, Nat.zero_le _, h0 Dl hD⟩, ?_⟩
  rintro i m H1 ⟨rfl, hi, acc, h1, h2, h3⟩
  by_cases hlt : i < z.cps.size
  · refine .inr ⟨hlt, LcN Pv Dl (i + 1), fun H' p' => ⟨_, by omega, rfl, hlt, p'⟩, fun x H' y => ?_⟩
    obtain ⟨e, c, hc, e2⟩ := y
    subst e e2
    exact hs Dl i c acc _ hD (by rw [Array.getElem?_toList]; exact hc) h1 h2 h3
  · have e : i = z.cps.toList.length := by rw [Array.length_toList]; omega
    subst e
    exact .inl ⟨by rw [Array.length_toList] at hlt; exact Nat.le_of_not_lt hlt, hd Dl acc _ hD h1 h2 h3⟩
abbrev LcM (g : TG) (tt : TT) (te : TE) (vs : List Nat) (σ : St) (R : VK) (S : Hp → Prop) (x : V) (H' : Hp) : Prop :=
  g x (wipe σ vs) H' fun σ2 H2 => wipe σ2 vs = wipe σ vs ∧ tt σ2 H2 fun b H3 => if b = true then te σ2 H3 R else S H3
theorem lcS_map (f : Nat → V) (p : Nat → Bool) (hz : z.length ≤ 16777216)
    (hs : ∀ c H' R S, c ∈ z.cps.toList → Kp [] H H' → (p c = true → ∀ H4, Kp [] H' H4 → R (f c) H4) → (p c = false → ∀ H4, Kp [] H' H4 → S H4) → LcM g tt te vs σ R S (.str ⟨#[c]⟩) H')
    (hd : ∀ Dl H', H Dl = none → Kp [] H H' → H' Dl = some (.lst ((z.cps.toList.filter p).map f)) → Q (.ref Dl) H') : LcJ (Its z) g tt te vs σ H Q := by
  refine lcS (fun Dl i acc H' => Kp [] H H' ∧ acc = ((z.cps.toList.take i).filter p).map f) (fun Dl hD => ⟨Kp.new hD, rfl⟩) ?_ ?_
  · rintro Dl i c acc H' hD hc hacc hl ⟨e, rfl⟩
    have hi : i < z.cps.toList.length := (List.getElem?_eq_some_iff.mp hc).1
    have hz2 : z.cps.toList.length ≤ 16777216 := by rw [Array.length_toList]; exact hz
    refine hs c H' _ _ (List.mem_of_getElem? hc) e (fun hp H4 e4 => ?_) (fun hp H4 e4 => ?_)
    · exact lc_push (e4.at0 hacc) hl (by omega) ⟨(e.trans e4).fresh_mut hD, by rw [take_succ' hc, List.filter_append, List.map_append]; simp [hp]⟩
    · exact lc_skip (e4.at0 hacc) hl ⟨e.trans e4, by rw [take_succ' hc, List.filter_append, List.map_append]; simp [hp]⟩
  · rintro Dl acc H' hD hacc hl ⟨e, rfl⟩
    rw [List.take_length] at hacc
    exact hd Dl H' hD e hacc
theorem lcL_map {α : Type} {ys : List α} {u : α → V} (f : α → V) (p : α → Bool) (h : SqL K H a (ys.map u)) (hz : ys.length ≤ 16777216)
    (hs : ∀ y H' R S, y ∈ ys → Kp [] H H' → (p y = true → ∀ H4, Kp [] H' H4 → R (f y) H4) → (p y = false → ∀ H4, Kp [] H' H4 → S H4) → LcM g tt te vs σ R S (u y) H')
    (hd : ∀ Dl H', H Dl = none → Kp [] H H' → H' Dl = some (.lst ((ys.filter p).map f)) → Q (.ref Dl) H') : LcJ (Itl K a) g tt te vs σ H Q := by
  refine lcL (ys.map u) (fun Dl i acc H' => Kp [] H H' ∧ acc = ((ys.take i).filter p).map f) (fun Dl hD => ⟨Kp.new hD, rfl⟩) (fun Dl i acc H' hD e => SqL.kp e.1 h) ?_ ?_
  · rintro Dl i x acc H' hD hx hacc hl ⟨e, rfl⟩
    rw [List.getElem?_map] at hx
    obtain ⟨c, hc, rfl⟩ := Option.map_eq_some_iff.mp hx
    have hi : i < ys.length := (List.getElem?_eq_some_iff.mp hc).1
    refine hs c H' _ _ (List.mem_of_getElem? hc) e (fun hp H4 e4 => ?_) (fun hp H4 e4 => ?_)
    · exact lc_push (e4.at0 hacc) hl (by omega) ⟨(e.trans e4).fresh_mut hD, by rw [take_succ' hc, List.filter_append, List.map_append]; simp [hp]⟩
    · exact lc_skip (e4.at0 hacc) hl ⟨e.trans e4, by rw [take_succ' hc, List.filter_append, List.map_append]; simp [hp]⟩
  · rintro Dl acc H' hD hacc hl ⟨e, rfl⟩
    rw [List.length_map, List.take_length] at hacc
    exact hd Dl H' hD e hacc
theorem lcT_map {α : Type} {ys : List α} {u : α → V} (f : α → V) (p : α → Bool) (h : SqT K H a (ys.map u)) (hz : ys.length ≤ 16777216)
    (hs : ∀ y H' R S, y ∈ ys → Kp [] H H' → (p y = true → ∀ H4, Kp [] H' H4 → R (f y) H4) → (p y = false → ∀ H4, Kp [] H' H4 → S H4) → LcM g tt te vs σ R S (u y) H')
    (hd : ∀ Dl H', H Dl = none → Kp [] H H' → H' Dl = some (.lst ((ys.filter p).map f)) → Q (.ref Dl) H') : LcJ (Itt K a) g tt te vs σ H Q := by
  refine lcT (ys.map u) (fun Dl i acc H' => Kp [] H H' ∧ acc = ((ys.take i).filter p).map f) (fun Dl hD => ⟨Kp.new hD, rfl⟩) (fun Dl i acc H' hD e => SqT.kp e.1 h) ?_ ?_
  · rintro Dl i x acc H' hD hx hacc hl ⟨e, rfl⟩
    rw [List.getElem?_map] at hx
    obtain ⟨c, hc, rfl⟩ := Option.map_eq_some_iff.mp hx
    have hi : i < ys.length := (List.getElem?_eq_some_iff.mp hc).1
    refine hs c H' _ _ (List.mem_of_getElem? hc) e (fun hp H4 e4 => ?_) (fun hp H4 e4 => ?_)
    · exact lc_push (e4.at0 hacc) hl (by omega) ⟨(e.trans e4).fresh_mut hD, by rw [take_succ' hc, List.filter_append, List.map_append]; simp [hp]⟩
    · exact lc_skip (e4.at0 hacc) hl ⟨e.trans e4, by rw [take_succ' hc, List.filter_append, List.map_append]; simp [hp]⟩
  · rintro Dl acc H' hD hacc hl ⟨e, rfl⟩
    rw [List.length_map, List.take_length] at hacc
    exact hd Dl H' hD e hacc
theorem lcR_draw {α : Type} (f : α → V) (Pa : α → Prop) (B : Bx H b d) (hz : n ≤ 16777216)
    (hs : ∀ i H' R S, i < n → Kp [b] H H' → Bx H' b d → (∀ x H4, Pa x → Kp [b] H' H4 → Bx H4 b d → R (f x) H4) → LcM g tt te vs σ R S (.int (lo + (i : Nat))) H')
    (hd : ∀ Dl H' (as : List α), H Dl = none → as.length = n → (∀ x ∈ as, Pa x) → Kp [b] H H' → Bx H' b d → H' Dl = some (.lst (as.map f)) → Q (.ref Dl) H') : LcJ (Itr lo n) g tt te vs σ H Q := by
  refine lcR (fun Dl i acc H' => Kp [b] H H' ∧ Bx H' b d ∧ ∃ as : List α, acc = as.map f ∧ as.length = i ∧ ∀ x ∈ as, Pa x) (fun Dl hD => ⟨Kp.new hD, B.new hD, [], rfl, rfl, by simp⟩) ?_ ?_
  · rintro Dl i acc H' hD hi hacc hl ⟨e, B1, as, rfl, hlen, hP⟩
    have nD := B.ne_new hD
    refine hs i H' _ _ hi e B1 (fun x H4 hx e4 B4 => ?_)
    refine lc_push (e4.at1 nD.1 hacc) hl (by omega) ⟨(e.trans e4).fresh_mut hD, B4.other nD.1 nD.2, as ++ [x], by rw [List.map_append]; rfl, by rw [List.length_append, hlen]; rfl, fun y hy => ?_⟩
    rcases List.mem_append.mp hy with h | h
    · exact hP y h
    · rw [List.mem_singleton.mp h]; exact hx
  · rintro Dl acc H' hD hacc hl ⟨e, B1, as, rfl, hlen, hP⟩
    exact hd Dl H' as hD hlen hP e B1 hacc
end
theorem Bx.pick {H H1 H2 : Hp} {b d p : Addr} {xs : List V} {K : PySem.W.Frag} (B : Bx H b d) (N : New H p (.lst xs) H1) (e : Kp [b] H1 H2) : SqL K H2 p xs := .of (e.at1 (B.ne_new N.fr).1 N.at_)
theorem c_pick {K : PySem.W.Frag} {H : Hp} {a : Addr} {i : Int} {Q : VK} {xs : List V} (h : SqL K H a xs) (h0 : 0 ≤ i) (h1 : i < xs.length) (q : ∀ v ∈ xs, Q v H) : rIx K (.ref a) (.int i) H Q :=
  c_ixL h (atI_at h0 h1) (q _ (by
    rw [List.getD_eq_getElem?_getD, List.getElem?_eq_getElem (by omega)]
    exact List.getElem_mem _))
theorem c_pickM {α : Type} {K : PySem.W.Frag} {H : Hp} {a : Addr} {i : Int} {Q : VK} {u : α → V} (ys : List α) (h : SqL K H a (ys.map u)) (h0 : 0 ≤ i) (h1 : i < ys.length) (q : ∀ y ∈ ys, Q (u y) H) : rIx K (.ref a) (.int i) H Q :=
  c_pick h h0 (by rw [List.length_map]; exact h1) (fun v hv => by obtain ⟨y, hy, rfl⟩ := List.mem_map.mp hv; exact q y hy)
section
variable {K : PySem.W.Frag} {H : Hp} {Q : VK} {a b : Addr} {ns ms : List Int}
end
end Sa

namespace Sa
open PySem L2
section
variable {K : PySem.W.Frag} {H : Hp} {Q : VK} {a b : Addr} {ys zs : List Str}
def okS (z : Str) : Bool := PyData.strOk z
theorem dpAll_strs : ∀ ys : List Str, DpAll K H (ys.map V.str) (ys.map PyData.str)
  | [] => .nil
  | n :: r => .cons (.str n) (dpAll_strs r)
theorem dp_strs (h : SqL K H a (ys.map V.str)) : Dp K H (.ref a) (.list (ys.map PyData.str)) := .lst h (dpAll_strs ys)
theorem dp_strsT (h : SqT K H a (ys.map V.str)) : Dp K H (.ref a) (.tuple (ys.map PyData.str)) := .tup h (dpAll_strs ys)
theorem eqvAll_strs : ∀ ys zs : List Str, PyData.eqvAll (ys.map PyData.str) (zs.map PyData.str) = decide (ys = zs)
  | [], [] => by simp [PyData.eqvAll]
  | [], _ :: _ => by simp [PyData.eqvAll]
  | _ :: _, [] => by simp [PyData.eqvAll]
  | a :: r, b :: t => by
    simp only [List.map_cons, PyData.eqvAll, PyData.eqv, eqvAll_strs r t]
    by_cases h : a = b <;> by_cases h' : r = t <;> simp [h, h']
theorem layAll_strs : ∀ {ys : List Str}, (∀ y ∈ ys, okS y = true) → PyData.canLayAll0 (ys.map PyData.str) = true
  | [], _ => rfl
  | y :: r, h => by
    simp only [List.map_cons, PyData.canLayAll0, PyData.canLay0, Bool.and_eq_true]
    exact ⟨h y (List.mem_cons_self ..), layAll_strs fun z hz => h z (List.mem_cons_of_mem _ hz)⟩
theorem depthAll_strs : ∀ ys : List Str, PyData.depthAll (ys.map PyData.str) = 0
  | [] => rfl
  | y :: r => by simp [PyData.depthAll, PyData.depth, depthAll_strs r]
theorem shaped_strsL (h : ∀ y ∈ ys, okS y = true) : SeqAt.shaped (.list (ys.map PyData.str)) = true := by
  simp only [SeqAt.shaped, PyData.canLay0, PyData.depth, depthAll_strs, Bool.and_eq_true, decide_eq_true_eq]
  exact ⟨layAll_strs h, by omega⟩
theorem shaped_strsT (h : ∀ y ∈ ys, okS y = true) : SeqAt.shaped (.tuple (ys.map PyData.str)) = true := by
  simp only [SeqAt.shaped, PyData.canLay0, PyData.depth, depthAll_strs, Bool.and_eq_true, decide_eq_true_eq]
  exact ⟨layAll_strs h, by omega⟩
theorem c_eqLS (ha : SqL K H a (ys.map V.str)) (hb : SqL K H b (zs.map V.str)) (h1 : ∀ y ∈ ys, okS y = true) (h2 : ∀ y ∈ zs, okS y = true) (q : Q (.bl (decide (ys = zs))) H) : rEqU K (.ref a) (.ref b) H Q :=
  c_eqD (dp_strs ha) (dp_strs hb) (shaped_strsL h1) (shaped_strsL h2) (by rw [PyData.eqv, eqvAll_strs]; exact q)
theorem c_eqTS (ha : SqT K H a (ys.map V.str)) (hb : SqT K H b (zs.map V.str)) (h1 : ∀ y ∈ ys, okS y = true) (h2 : ∀ y ∈ zs, okS y = true) (q : Q (.bl (decide (ys = zs))) H) : rEqU K (.ref a) (.ref b) H Q :=
  c_eqD (dp_strsT ha) (dp_strsT hb) (shaped_strsT h1) (shaped_strsT h2) (by rw [PyData.eqv, eqvAll_strs]; exact q)
end
theorem cps_app (a b : Str) : (a ++ b).cps.toList = a.cps.toList ++ b.cps.toList := by show (a.cps ++ b.cps).toList = _; rw [Array.toList_append]
theorem okS_iff {z : Str} : okS z = true ↔ ∀ c ∈ z.cps.toList, c < 1114112 := by
  unfold okS PyData.strOk
  rw [Array.all_eq_true_iff_forall_mem]
  simp [Array.mem_toList_iff]
section
variable {σ : St} {H : Hp} {Q : VK} {te : TE}
theorem c_andK {c : Bool} (b : Bool) (h : ∀ R : VK, (∀ H', Kp [] H H' → R (.bl b) H') → te σ H R) (q : ∀ H', Kp [] H H' → Q (.bl (c && b)) H') : if c = true then te σ H Q else Q (.bl false) H := by
  cases c with
  | true => rw [if_pos rfl]; exact h Q q
  | false => rw [if_neg Bool.false_ne_true]; exact q H Kp.refl
theorem c_orK {c : Bool} (b : Bool) (h : ∀ R : VK, (∀ H', Kp [] H H' → R (.bl b) H') → te σ H R) (q : ∀ H', Kp [] H H' → Q (.bl (c || b)) H') : if c = true then Q (.bl true) H else te σ H Q := by
  cases c with
  | true => rw [if_pos rfl]; exact q H Kp.refl
  | false => rw [if_neg Bool.false_ne_true]; exact h Q q
end
end Sa

namespace Sa
open PySem L2
section
variable {P : Program} {w : World} {K : PySem.W.Frag} {mg : Str → Option Value} {base : Heap}
theorem Tx.oex {fa : List He.Fa} {fn : List He.DefD} {fx : List Fx} (T : Tx fa fn fx K mg) (i : Nat) {x : Str} (h : fx[i]? = some (.oex x) := by rfl) : OexC K (He.ga K x) := oexB_ok (T.fx i h)
theorem Tx.xfc {fa : List He.Fa} {fn : List He.DefD} {fx : List Fx} (T : Tx fa fn fx K mg) (i : Nat) {x : Str} (h : fx[i]? = some (.xf x) := by rfl) : XfC K (He.ga K x) := xfB_ok (T.fx i h)
theorem Tx.cst {fa : List He.Fa} {fn : List He.DefD} {fx : List Fx} (T : Tx fa fn fx K mg) (i : Nat) {x : Str} {d : PyData} (h : fx[i]? = some (.cst x d) := by rfl) (H : Hp) : Dp K H (.ref (He.ga K x)) d := cst_ref (T.fx i h) H
def BodyX (P : Program) (w : World) (K : PySem.W.Frag) (mg : Str → Option Value) (base : Heap) (x : Str) (st : Stmt) (N : List Str) (k : Nat) (sp : Sp) : Prop :=
  ∀ (cdv : Value) (A : Around) (outer : List Env) (s : Shared) (H : Hp) (vs : List V) (Q : VK) (E : XK), sp vs H Q E → let X : Cx := cxOf (L2.CX P w) P w K mg base N x (defScope st) (He.ga K x) cdv A outer s H E
    Room k X.A → Takes X (fun cls d _ H => E cls d H) → ∃ t, PSs X (defBody st) t ∧ t { nx := fun _ H' => Q .non H', rt := Q } (start N vs) H
theorem def_ofX {fa : List He.Fa} {fn : List He.DefD} {fx : List Fx} (T : Tx fa fn fx K mg) (i j : Nat) {x : Str} {st : Stmt} {N ps : List Str} {k : Nat} {sp : Sp} (S : FnScope N ps (defScope st)) (B : BindN x st ps) (len : ∀ vs H Q E, sp vs H Q E → vs.length = ps.length)
    (body : BodyX P w K mg base x st N k sp) (hd : fn[i]? = some (dOf x st) := by rfl) (hg : fa[j]? = some (.glo x) := by rfl) : DefAt P w K mg base (L2.CX P w) x (k + 1) ps sp := by
  have gl := T.glo j hg
  obtain ⟨hp, X, G, c, _⟩ := T
  obtain ⟨fd, F⟩ := c.def_ i hd
  exact ⟨gl, F.kp, fd, F.ok S len fun cdv A outer s H vs Q E hr h => body cdv A outer s H vs Q E h hr (takes_of rfl rfl rfl rfl), F.bindsN B⟩
end
theorem passE0 {X : Cx} : Passes (L2.CX X.prog X.w) X E0 := fun pins σ H s e s' I h => by
  obtain ⟨_, _, _, _, _, _, _, _, _, _, _, _, z⟩ := h
  exact z.elim
theorem takes_never {X : Cx} : Takes X (fun _ _ _ _ => False) := fun u s' h => by
  obtain ⟨_, _, _, _, _, _, _, _, _, _, _, _, _, _, _, _, z⟩ := h
  exact z.elim
section
variable {X : Cx} {x : Str} {k j : Nat} {ps : List Str} {sp : Sp} {W : WX} {p pos : Pos} {e : Expr} {es : List Expr} {t : TA}
theorem pe_callX (D : DefAt X.prog X.w X.K X.mg X.base (L2.CX X.prog X.w) x j ps sp) (hr : Room k X.A) (tk : Takes X W) (ha : PA X (e :: es) t) (hjk : j ≤ k := by decide) (hg : Gl X x := by rfl)
    (hdb : (x == ("__debug__" : Str)) = false := by decide) (he : starEach (e :: es) X.env = (false, eval e X.env) :: starEach es X.env := by rfl) (hpl : (backTo pos (starEach es X.env)).any (·.1) = false := by rfl) :
    PE X (.Call (.Name x p) (e :: es) [] pos) (tCallS sp (WE W) t) := by
  obtain ⟨fd, F, B⟩ := D.ok
  exact pe_callS (F.mono hjk) hr hg D.gl D.kp B (fun σ => passAt tk σ) ha hdb he hpl
theorem names_glo {c : Addr} (h : X.mg x = some (.ref c)) (hg : Gl X x := by rfl) (hd : (x == ("__debug__" : Str)) = false := by decide) : Names X x (.ref c) := ⟨hg, hd, .inl h⟩
theorem c_callX {H : Hp} {σ : St} {Q : VK} {tr : TA} (h : tr σ H fun vs H1 => sp vs H1 Q (WE W σ)) : tCallS sp (WE W) tr σ H Q := h
end
def dOfM (C m q : Str) (st : Stmt) : He.DefD := ⟨(C, some m), m, q, defArgs st, defBody st, defScope st, [], []⟩
def BindM (m q : Str) (st : Stmt) (ps : List Str) : Prop := ∀ (kV doc pm : Value) (an : Option Addr) (cdv ct : Value) (us : List Value), us.length = ps.length →
  bindArgs (PySem.W.fnOf m q (defArgs st) (defBody st) (defScope st) .none kV doc pm an cdv ct) ⟨us, []⟩ = pure (ps.zip us)
def clsStmts : Stmt → List Stmt
  | .ClassDef (body := b) .. => b
  | _ => []
def subAt (st : Stmt) (i : Nat) : Stmt := (clsStmts st).getD i (.Pass ⟨0, 0, 0, 0⟩)
section
variable {P : Program} {w : World} {K : PySem.W.Frag} {mg : Str → Option Value} {base : Heap}
structure MethAt (P : Program) (w : World) (K : PySem.W.Frag) (mg : Str → Option Value) (base : Heap) (CX : CXT) (C m : Str) (k : Nat) (ps : List Str) (sp : Sp) : Prop where
  me : Meth K (He.ga K C) m (He.ma K (He.ga K C) m)
  ok : ∃ fd, FnOk P w K mg base CX k (He.ma K (He.ga K C) m) fd ps sp ∧ Binds K fd ps []
def BodyM (P : Program) (w : World) (K : PySem.W.Frag) (mg : Str → Option Value) (base : Heap) (C m q : Str) (st : Stmt) (N : List Str) (k : Nat) (sp : Sp) : Prop :=
  ∀ (cdv : Value) (A : Around) (outer : List Env) (s : Shared) (H : Hp) (vs : List V) (Q : VK) (E : XK), sp vs H Q E → let X : Cx := (cxOf CX0 P w K mg base N q (defScope st) (He.ma K (He.ga K C) m) cdv A outer s H E).nox
    Room k X.A → ∃ t, PSs X (defBody st) t ∧ t { nx := fun _ H' => Q .non H', rt := Q } (start N vs) H
def BodyMX (P : Program) (w : World) (K : PySem.W.Frag) (mg : Str → Option Value) (base : Heap) (C m q : Str) (st : Stmt) (N : List Str) (k : Nat) (sp : Sp) : Prop :=
  ∀ (cdv : Value) (A : Around) (outer : List Env) (s : Shared) (H : Hp) (vs : List V) (Q : VK) (E : XK), sp vs H Q E → let X : Cx := cxOf (L2.CX P w) P w K mg base N q (defScope st) (He.ma K (He.ga K C) m) cdv A outer s H E
    Room k X.A → Takes X (fun cls d _ H => E cls d H) → ∃ t, PSs X (defBody st) t ∧ t { nx := fun _ H' => Q .non H', rt := Q } (start N vs) H
theorem meth_of {fa : List He.Fa} {fn : List He.DefD} {fx : List Fx} (T : Tx fa fn fx K mg) (i j : Nat) {C m q : Str} {st : Stmt} {N ps : List Str} {k : Nat} {sp : Sp} (S : FnScope N ps (defScope st)) (B : BindM m q st ps) (len : ∀ vs H Q E, sp vs H Q E → vs.length = ps.length)
    (body : BodyM P w K mg base C m q st N k sp) (hd : fn[i]? = some (dOfM C m q st) := by rfl) (hg : fa[j]? = some (.meth C m) := by rfl) : MethAt P w K mg base CX0 C m (k + 1) ps sp := by
  have me := He.meth_ok (T.fact j hg)
  obtain ⟨hp, X, G, c, _⟩ := T
  obtain ⟨fd, F⟩ := c.def_ i hd
  refine ⟨me, fd, F.ok S len fun cdv A outer s H vs Q E hr h => ?_, F.bindsN B⟩
  obtain ⟨t, h1, h2⟩ := body cdv A outer s H vs Q E h hr
  exact ⟨t, h1.nox, h2⟩
theorem meth_ofX {fa : List He.Fa} {fn : List He.DefD} {fx : List Fx} (T : Tx fa fn fx K mg) (i j : Nat) {C m q : Str} {st : Stmt} {N ps : List Str} {k : Nat} {sp : Sp} (S : FnScope N ps (defScope st)) (B : BindM m q st ps) (len : ∀ vs H Q E, sp vs H Q E → vs.length = ps.length)
    (body : BodyMX P w K mg base C m q st N k sp) (hd : fn[i]? = some (dOfM C m q st) := by rfl) (hg : fa[j]? = some (.meth C m) := by rfl) : MethAt P w K mg base (L2.CX P w) C m (k + 1) ps sp := by
  have me := He.meth_ok (T.fact j hg)
  obtain ⟨hp, X, G, c, _⟩ := T
  obtain ⟨fd, F⟩ := c.def_ i hd
  exact ⟨me, fd, F.ok S len fun cdv A outer s H vs Q E hr h => body cdv A outer s H vs Q E h hr (takes_of rfl rfl rfl rfl), F.bindsN B⟩
end
def spInit (K : PySem.W.Frag) (C : Addr) (f : Str) : Sp := fun vs H Q _ => ∃ (a : Addr) (v : V), vs = [.ref a, v] ∧ H a = some (exo a C none) ∧ ∀ dx, H dx = none → dx ≠ a → Q .non (upd (upd H dx (exd dx [(f, v)])) a (exo a C (some dx)))
theorem c_ost {K : PySem.W.Frag} {f : Str} {to te : TE} {D : Ends} {σ : St} {H : Hp} (h : te σ H fun y H1 => to σ H1 fun x H2 => ∃ a C : Addr, x = .ref a ∧ OexC K C ∧ PySem.W.findIn K (.ref C) f = some none ∧
  ((H2 a = some (exo a C none) ∧ ∀ dx, H2 dx = none → dx ≠ a → D.nx σ (upd (upd H2 dx (exd dx [(f, y)])) a (exo a C (some dx)))) ∨
    ∃ (dx : Addr) (fs : List (Str × V)), H2 a = some (exo a C (some dx)) ∧ H2 dx = some (exd dx fs) ∧ fs.length ≤ 900 ∧ D.nx σ (upd H2 dx (exd dx ((f, y) :: fs))))) : tOst K f to te D σ H := h
structure ErrC (P : Program) (w : World) (K : PySem.W.Frag) (mg : Str → Option Value) (base : Heap) (x f : Str) : Prop where
  gl : mg x = some (.ref (He.ga K x))
  cls : OexC K (He.ga K x)
  xf : XfC K (He.ga K x)
  no : PySem.W.findIn K (.ref (He.ga K x)) f = some none
  ok : ∃ ps, MethAt P w K mg base CX0 x "__init__" 2 ps (spInit K (He.ga K x) f)
def RaiseK (K : PySem.W.Frag) (x f : Str) (vs : List V) (H1 : Hp) (Q : XK) : Prop := vs.length ≤ 1000 ∧ ∀ a, H1 a = none → spInit K (He.ga K x) f (.ref a :: (vs ++ [])) (upd H1 a (exo a (He.ga K x) none))
  (fun v H2 => v = .non ∧ ∃ (d : Addr) (fs : List (Str × V)), H2 a = some (exo a (He.ga K x) (some d)) ∧ H2 d = some (exd d fs) ∧ H1 d = none ∧ Q (.ref (He.ga K x)) (some d) (upd (del H2 a) d (.xd fs))) (fun _ _ _ => False)
def tMkE (K : PySem.W.Frag) (x f : Str) (t : TA) : St → Hp → XK → Prop := fun σ H Q => t σ H fun vs H1 => RaiseK K x f vs H1 Q
def tRaiseE (K : PySem.W.Frag) (x f : Str) (W : WX) (t : TA) : TS := fun _ σ H => t σ H fun vs H1 => RaiseK K x f vs H1 fun cls d H' => W cls d σ H'
theorem c_err {K : PySem.W.Frag} {x f : Str} {v : V} {H1 : Hp} {Q : XK} (q : ∀ d H', New H1 d (.xd [(f, v)]) H' → Q (.ref (He.ga K x)) (some d) H') : RaiseK K x f [v] H1 Q := by
  refine ⟨by simp, fun a ha => ⟨a, v, rfl, upd_same, fun dx hdx hne => ⟨rfl, dx, [(f, v)], upd_same, ?_, ?_, ?_⟩⟩⟩
  · rw [upd_ne hne, upd_same]
  · rw [upd_ne hne] at hdx
    exact hdx
  · have hd1 : H1 dx = none := by rw [upd_ne hne] at hdx; exact hdx
    have e : upd (del (upd (upd (upd H1 a (exo a (He.ga K x) none)) dx (exd dx [(f, v)])) a (exo a (He.ga K x) (some dx))) a) dx (.xd [(f, v)]) = upd H1 dx (.xd [(f, v)]) := by
      funext b
      by_cases h1 : b = dx
      · rw [h1, upd_same, upd_same]
      · rw [upd_ne h1, upd_ne h1]
        by_cases h2 : b = a
        · rw [h2, del_same, ha]
        · rw [del_ne h2, upd_ne h2, upd_ne h1, upd_ne h2]
    rw [e]
    exact q dx _ ⟨hd1, rfl⟩
theorem c_raiseE {K : PySem.W.Frag} {x f : Str} {W : WX} {t : TA} {D : Ends} {σ : St} {H : Hp} (h : t σ H fun vs H1 => RaiseK K x f vs H1 fun cls d H' => W cls d σ H') : tRaiseE K x f W t D σ H := h
section
variable {X : Cx} {x f : Str} {k : Nat} {W : WX} {p pos pos2 : Pos} {e : Expr} {es : List Expr} {t : TA}
theorem pmk_err {K : PySem.W.Frag} (T : ErrC X.prog X.w X.K X.mg X.base x f) (hr : Room k X.A) (ha : PA X (e :: es) t) (hk : 3 ≤ k := by decide) (hK : X.K = K := by rfl) (hg : Gl X x := by rfl)
    (hdb : (x == ("__debug__" : Str)) = false := by decide) (he : starEach (e :: es) X.env = (false, eval e X.env) :: starEach es X.env := by rfl) (hpl : (backTo pos (starEach es X.env)).any (·.1) = false := by rfl) :
    PMk X (.Call (.Name x p) (e :: es) [] pos) (tMkE K x f t) := by
  subst hK
  obtain ⟨ps, M⟩ := T.ok
  obtain ⟨fd, F, B⟩ := M.ok
  have fnT : PySem.W.typeIn X.K (.ref (He.ma X.K (He.ga X.K x) "__init__")) = some (.type "function") := eq_of_beq M.me.fn
  exact pmk_oex (p := p) T.cls M.me.at_ fnT F (hr.mono hk) B .nil (fun _ _ _ _ _ _ _ h => h.elim) hg T.gl ha hdb he hpl
theorem ps_raiseE {K : PySem.W.Frag} (T : ErrC X.prog X.w X.K X.mg X.base x f) (hr : Room k X.A) (tk : Takes X W) (ha : PA X (e :: es) t) (hk : 3 ≤ k := by decide) (hK : X.K = K := by rfl) (hg : Gl X x := by rfl) (hc : X.calm = true := by rfl)
    (hdb : (x == ("__debug__" : Str)) = false := by decide) (he : starEach (e :: es) X.env = (false, eval e X.env) :: starEach es X.env := by rfl) (hpl : (backTo pos (starEach es X.env)).any (·.1) = false := by rfl) :
    PS X (.Raise (some (.Call (.Name x p) (e :: es) [] pos)) none pos2) (tRaiseE K x f W t) := ps_raise hc tk (pmk_err T hr ha hk hK hg hdb he hpl)
end
section
variable {K : PySem.W.Frag} {i : Nat} {ts : Addr → Value → Option Addr → TS} {Wout : WX} {D : Ends} {σ : St} {H : Hp} {cls : Value} {d : Option Addr} {c : Value}
theorem c_xf {a C : Addr} {f : Str} {te : TE} {Q : VK} (h : te σ H fun x H1 => x = .ref a ∧ cls = .ref C ∧ ∃ (dd : Addr) (fs : List (Str × V)) (v : V), d = some dd ∧ H1 dd = some (.xd fs) ∧ fs.lookup f = some v ∧ Q v H1) : tXf a cls d C f te σ H Q := h
end
section
variable {K : PySem.W.Frag} {H : Hp} {Q : VK} {a : Addr} {xs : List V} {T : String}
end
end Sa

namespace Sa
open PySem L2
structure Itn (J : It) (n : Nat) (ok : Hp → Prop) (Y : Nat → V → Hp → Hp → Prop) : Prop where
  go : ∀ i H, ok H → i < n → J.go i H
  stop : ∀ i H, ok H → n ≤ i → J.stop i H
  yld : ∀ i H x H', ok H → i < n → J.yld i H x H' → Y i x H H'
  kp : ∀ i x H H', Y i x H H' → Kp [] H H'
section
variable {K : PySem.W.Frag} {a : Addr} {α : Type} {ys : List α} {u : α → V} {lo c : Int} {n : Nat} {z : Str}
theorem itn_l : Itn (Itl K a) ys.length (fun H => SqL K H a (ys.map u)) (fun i x H H' => H' = H ∧ ∃ y, ys[i]? = some y ∧ x = u y) where
  go := fun i H ok hi => ⟨_, u (ys[i]), ok, by rw [List.getElem?_map, List.getElem?_eq_getElem hi]; rfl⟩
  stop := fun i H ok hi => ⟨_, ok, by rw [List.length_map]; exact hi⟩
  yld := fun i H x H' ok hi y => by
    obtain ⟨e, h⟩ := y
    have := h _ ok
    rw [List.getElem?_map] at this
    obtain ⟨y, h1, h2⟩ := Option.map_eq_some_iff.mp this
    exact ⟨e, y, h1, h2.symm⟩
  kp := fun i x H H' h => by rw [h.1]; exact Kp.refl
theorem itn_t : Itn (Itt K a) ys.length (fun H => SqT K H a (ys.map u)) (fun i x H H' => H' = H ∧ ∃ y, ys[i]? = some y ∧ x = u y) where
  go := fun i H ok hi => ⟨_, u (ys[i]), ok, by rw [List.getElem?_map, List.getElem?_eq_getElem hi]; rfl⟩
  stop := fun i H ok hi => ⟨_, ok, by rw [List.length_map]; exact hi⟩
  yld := fun i H x H' ok hi y => by
    obtain ⟨e, h⟩ := y
    have := h _ ok
    rw [List.getElem?_map] at this
    obtain ⟨y, h1, h2⟩ := Option.map_eq_some_iff.mp this
    exact ⟨e, y, h1, h2.symm⟩
  kp := fun i x H H' h => by rw [h.1]; exact Kp.refl
theorem itn_r : Itn (Itr lo n) n (fun _ => True) (fun i x H H' => H' = H ∧ x = .int (lo + (i : Nat))) where
  go := fun i H _ hi => hi
  stop := fun i H _ hi => hi
  yld := fun i H x H' _ hi y => y
  kp := fun i x H H' h => by rw [h.1]; exact Kp.refl
end
section
variable {K : PySem.W.Frag} {σ : St} {H : Hp} {g : TG} {tt : TT} {te : TE} {tb : TS} {Dn : Ends} {n : Nat} {Q : VK} {vs : List Nat} {J : It} {ok : Hp → Prop} {Y : Nat → V → Hp → Hp → Prop}
theorem lcQ (I : Itn J n ok Y) (Pv : Addr → Nat → List V → Hp → Prop) (h0 : ∀ Dl, H Dl = none → Pv Dl 0 [] (upd H Dl (.lst []))) (hok : ∀ Dl i acc H', H Dl = none → Pv Dl i acc H' → ok H')
    (hs : ∀ Dl i x acc H' H'', H Dl = none → i < n → H' Dl = some (.lst acc) → acc.length ≤ i → Pv Dl i acc H' → Y i x H' H'' → LcT g tt te vs σ Pv Dl i x H'')
    (hd : ∀ Dl acc H', H Dl = none → H' Dl = some (.lst acc) → acc.length ≤ n → Pv Dl n acc H' → Q (.ref Dl) H') : LcJ J g tt te vs σ H Q := by
  intro Dl hD
  refine ⟨fun i m H' => m = n - i ∧ i ≤ n ∧ LcN Pv Dl i H', ⟨_, rfl, Nat.zero_le _, [], upd_same, Nat.zero_le _, h0 Dl hD⟩, ?_⟩
  rintro i m H1 ⟨rfl, hi, acc, h1, h2, h3⟩
  have o := hok Dl i acc H1 hD h3
  by_cases hlt : i < n
  · exact .inr ⟨I.go i H1 o hlt, LcN Pv Dl (i + 1), fun H' p' => ⟨_, by omega, rfl, hlt, p'⟩, fun x H' y => hs Dl i x acc H1 H' hD hlt h1 h2 h3 (I.yld i H1 x H' o hlt y)⟩
  · have e : i = n := by omega
    subst e
    exact .inl ⟨I.stop i H1 o (Nat.le_refl _), hd Dl acc H1 hD h1 h2 h3⟩
theorem forQ (I : Itn J n ok Y) (Pv : Nat → St → Hp → Prop) (h0 : Pv 0 σ H) (hok : ∀ i σ H', Pv i σ H' → ok H')
    (hs : ∀ i x σ H' H'', i < n → Pv i σ H' → Y i x H' H'' → g x σ H'' fun σ2 H2 => tb { Dn with nx := Pv (i + 1), ct := Pv (i + 1), bk := Dn.nx } σ2 H2) (hd : ∀ σ H', Pv n σ H' → Dn.nx σ H') : ForJ J g tb Dn σ H := by
  refine ⟨fun i m σ H => m = n - i ∧ i ≤ n ∧ Pv i σ H, ⟨_, rfl, Nat.zero_le _, h0⟩, ?_⟩
  rintro i m σ H ⟨rfl, hi, p⟩
  have o := hok i σ H p
  by_cases hlt : i < n
  · exact .inr ⟨I.go i H o hlt, Pv (i + 1), fun σ' H' p' => ⟨_, by omega, rfl, hlt, p'⟩, fun x H' y => hs i x σ H H' hlt p (I.yld i H x H' o hlt y)⟩
  · have e : i = n := by omega
    subst e
    exact .inl ⟨I.stop i H o (Nat.le_refl _), hd σ H p⟩
theorem lcQ_map (I : Itn J n ok Y) (f : Nat → V) (hz : n ≤ 16777216) (hok : ∀ H', Kp [] H H' → ok H')
    (hs : ∀ i x H' H'' R S, i < n → Kp [] H H' → Y i x H' H'' → (∀ H4, Kp [] H'' H4 → R (f i) H4) → LcM g tt te vs σ R S x H'')
    (hd : ∀ Dl H', H Dl = none → Kp [] H H' → H' Dl = some (.lst ((List.range n).map f)) → Q (.ref Dl) H') : LcJ J g tt te vs σ H Q := by
  refine lcQ I (fun Dl i acc H' => Kp [] H H' ∧ acc = (List.range i).map f) (fun Dl hD => ⟨Kp.new hD, rfl⟩) (fun Dl i acc H' hD e => hok H' e.1) ?_ ?_
  · rintro Dl i x acc H' H'' hD hi hacc hl ⟨e, rfl⟩ y
    have k := I.kp i x H' H'' y
    refine hs i x H' H'' _ _ hi e y fun H4 e4 => ?_
    exact lc_push (e4.at0 (k.at0 hacc)) hl (by omega) ⟨((e.trans k).trans e4).fresh_mut hD, by rw [List.range_succ, List.map_append]; rfl⟩
  · rintro Dl acc H' hD hacc hl ⟨e, rfl⟩
    exact hd Dl H' hD e hacc
theorem lcQ_new (I : Itn J n ok Y) (ob : Nat → HO) (hz : n ≤ 16777216) (hok : ∀ H', Kp [] H H' → ok H')
    (hs : ∀ i x H' H'' R S, i < n → Kp [] H H' → Y i x H' H'' → (∀ q H4, H'' q = none → Kp [] H'' H4 → H4 q = some (ob i) → R (.ref q) H4) → LcM g tt te vs σ R S x H'')
    (hd : ∀ Dl (qs : List Addr) H', H Dl = none → Kp [] H H' → H' Dl = some (.lst (qs.map V.ref)) → qs.length = n → (∀ k q, qs[k]? = some q → H q = none ∧ H' q = some (ob k)) → Q (.ref Dl) H') : LcJ J g tt te vs σ H Q := by
  refine lcQ I (fun Dl i acc H' => Kp [] H H' ∧ ∃ qs : List Addr, acc = qs.map V.ref ∧ qs.length = i ∧ ∀ k q, qs[k]? = some q → H q = none ∧ q ≠ Dl ∧ H' q = some (ob k)) (fun Dl hD => ⟨Kp.new hD, [], rfl, rfl, fun k q h => by simp at h⟩) (fun Dl i acc H' hD e => hok H' e.1) ?_ ?_
  · rintro Dl i x acc H' H'' hD hi hacc hl ⟨e, qs, rfl, hq, hqs⟩ y
    have k := I.kp i x H' H'' y
    refine hs i x H' H'' _ _ hi e y fun q H4 hn e4 h4 => ?_
    have nq : q ≠ Dl := (ne_of_none (k.at0 hacc) hn).symm
    refine lc_push (e4.at0 (k.at0 hacc)) hl (by omega) ⟨((e.trans k).trans e4).fresh_mut hD, qs ++ [q], by rw [List.map_append]; rfl, by rw [List.length_append, hq]; rfl, fun j w hw => ?_⟩
    by_cases hj : j < qs.length
    · rw [List.getElem?_append_left hj] at hw
      obtain ⟨a1, a2, a3⟩ := hqs j w hw
      exact ⟨a1, a2, upd_other a2 (e4.at0 (k.at0 a3))⟩
    · rw [List.getElem?_append_right (by omega)] at hw
      have hj2 : j - qs.length = 0 := by
        cases h : j - qs.length with
        | zero => rfl
        | succ m => rw [h] at hw; simp at hw
      rw [hj2] at hw
      simp only [List.getElem?_cons_zero, Option.some.injEq] at hw
      subst hw
      have ej : j = i := by omega
      subst ej
      exact ⟨free0 (e.trans k) hn, nq, upd_other nq h4⟩
  · rintro Dl acc H' hD hacc hl ⟨e, qs, rfl, hq, hqs⟩
    exact hd Dl qs H' hD e hacc hq fun k q h => ⟨(hqs k q h).1, (hqs k q h).2.2⟩
end
section
variable {K : PySem.W.Frag} {σ : St} {H : Hp} {g : TG} {tt : TT} {te : TE} {tb : TS} {ta : TA} {D : Ends} {n : Nat} {Q : VK} {vs : List Nat} {R : It → Hp → Prop} {a : Addr} {xs : List V}
theorem c_rng3 (h : ta σ H fun vs H1 => ∃ (i j c : Int) (n : Nat), vs = [.int i, .int j, .int c] ∧ RgC i j c n ∧ R (Itc i c n) H1) : iRng3 ta σ H R := h
theorem c_enum (h : ta σ H fun vs H1 => ∃ a xs, vs = [.ref a] ∧ SqL K H1 a xs ∧ R (Ite K a) H1) : iEnum K ta σ H R := h
end
end Sa

namespace Sa
open PySem L2
def FldK (K : PySem.W.Frag) (f : Str) (x : V) (H : Hp) (Q : VK) : Prop := ∃ a C dx fs v, x = .ref a ∧ H a = some (.ins C dx fs) ∧ Cls K C ∧ NoAttr K C f ∧ fs.lookup f = some v ∧ Q v H
def tFldU (K : PySem.W.Frag) (ta : TE) (f : Str) : TE := fun σ H Q => ta σ H fun x H1 => FldK K f x H1 Q
def SetFldK (K : PySem.W.Frag) (f : Str) (x y : V) (H : Hp) (R : Hp → Prop) : Prop := ∃ a C dx fs, x = .ref a ∧ H a = some (.ins C dx fs) ∧ Cls K C ∧ NoAttr K C f ∧ fs.length < 1000 ∧ R (upd H a (.ins C dx (putF f y fs)))
def sFldU (K : PySem.W.Frag) (ta tv : TE) (f : Str) : TS := fun D σ H => tv σ H fun y H1 => ta σ H1 fun x H2 => SetFldK K f x y H2 fun H3 => D.nx σ H3
section
variable {X : Cx} {K : PySem.W.Frag} {σ : St} {H : Hp} {Q : VK} {D : Ends} {o e value : Expr} {ta tv : TE} {f : Str} {pos pos' : Pos} {a C dx : Addr} {fs : List (Str × V)} {v : V} {R : Hp → Prop}
theorem pe_fldU (he : PE X e ta) (hK : X.K = K := by rfl) (hb : attributeBase e f X.env (eval e X.env) = eval e X.env := by rfl) : PE X (.Attribute e f pos) (tFldU K ta f) := by
  subst hK
  exact pe_fld he hb
theorem ps_fldU (ha : PE X o ta) (hv : PE X value tv) (hK : X.K = K := by rfl) (hs : swapsWith value (some (.Attribute o f pos')) pos.line X.env = pure false := by rfl) : PS X (.Assign [.Attribute o f pos'] value pos) (sFldU K ta tv f) := by
  subst hK
  exact ps_fld ha hv hs
theorem c_fld (h : ta σ H fun x H1 => FldK K f x H1 Q) : tFldU K ta f σ H Q := h
theorem c_fldAt (h : H a = some (.ins C dx fs)) (c : Cls K C) (n : NoAttr K C f) (l : fs.lookup f = some v) (q : Q v H) : FldK K f (.ref a) H Q := ⟨a, C, dx, fs, v, rfl, h, c, n, l, q⟩
theorem c_setF (h : tv σ H fun y H1 => ta σ H1 fun x H2 => SetFldK K f x y H2 fun H3 => D.nx σ H3) : sFldU K ta tv f D σ H := h
theorem c_setFAt (h : H a = some (.ins C dx fs)) (c : Cls K C) (n : NoAttr K C f) (l : fs.length < 1000) (q : R (upd H a (.ins C dx (putF f v fs)))) : SetFldK K f (.ref a) v H R := ⟨a, C, dx, fs, rfl, h, c, n, l, q⟩
end
structure ClsAt (K : PySem.W.Frag) (mg : Str → Option Value) (x : Str) : Prop where
  gl : mg x = some (.ref (He.ga K x))
  cls : Cls K (He.ga K x)
def RecvK (K : PySem.W.Frag) (C m : Str) (x : V) (H : Hp) (R : Hp → Prop) : Prop := ∃ a dx fs, x = .ref a ∧ H a = some (.ins (He.ga K C) dx fs) ∧ fs.lookup m = none ∧ R H
def tMethA (K : PySem.W.Frag) (C m : Str) (sp : Sp) (E : St → XK) (ta : TE) (t : TA) : TE := fun σ H Q => ta σ H fun x H1 => RecvK K C m x H1 fun H2 => t σ H2 fun vs H3 => sp (x :: vs) H3 Q (E σ)
section
variable {X : Cx} {CX : CXT} {K : PySem.W.Frag} {C m : Str} {k j : Nat} {ps : List Str} {sp : Sp} {E : St → XK} {W : WX} {apos pos : Pos} {o e : Expr} {es : List Expr} {ta : TE} {t : TA} {pl : Sem Bool}
theorem pe_methS1 (M : MethAt X.prog X.w X.K X.mg X.base CX C m j ps sp) (c : ClsAt X.K X.mg C) (hr : Room k X.A) (hx : ∀ σ, PassesAt CX X σ (E σ)) (ho : PE X o ta) (ha : PA X (e :: es) t) (hjk : j ≤ k := by decide) (hK : X.K = K := by rfl)
    (hst : starEach (e :: es) X.env = (false, eval e X.env) :: starEach es X.env := by rfl) (hpl : (backTo pos (starEach es X.env)).any (·.1) = false := by rfl)
    (ht : eval (.Call (.Attribute o m apos) (e :: es) [] pos) X.env = (do
      let ov ← eval o X.env
      standAt apos.atName
      let (f, first) ← holding [ov] (getMethod ov m pl)
      callWith pos f first (backTo pos (starEach (e :: es) X.env)) (backToKw pos (keywordEach [] X.env))) := by rfl) :
    PE X (.Call (.Attribute o m apos) (e :: es) [] pos) (tMethA K C m sp E ta t) := by
  subst hK
  obtain ⟨fd, F, B⟩ := M.ok
  refine ⟨fun pins s σ H Q I h => ?_⟩
  refine PySem.W.methodCall_KW (pl := pl) (thn (ho.run pins s σ H _ I h) fun u s1 ⟨x, H1, I1, rx, a, dx, fs, ex, ea, l, q⟩ => ?_) ht
  subst ex
  obtain rfl : u = Value.ref a := rx
  refine getmeth_ok I1 ea c.cls M.me l (PySem.W.callWith_K (first := [.ref a]) (h₀ := X.base) I.ok.mod.kin M.me.kp (thn (ha.run pos pins s1 σ H1 _ I1 q) fun us s2 ⟨vs, H2, I2, r, q2⟩ => ⟨I2.kIn, ?_⟩) hst hpl)
  exact run_fnS (us := .ref a :: us) (vs := .ref a :: vs) (F.mono hjk) hr B (hx σ) I2 (.cons rfl r) q2
theorem pe_methS0 (M : MethAt X.prog X.w X.K X.mg X.base CX C m j ps sp) (c : ClsAt X.K X.mg C) (hr : Room k X.A) (hx : ∀ σ, PassesAt CX X σ (E σ)) (ho : PE X o ta) (hjk : j ≤ k := by decide) (hK : X.K = K := by rfl)
    (ht : eval (.Call (.Attribute o m apos) [] [] pos) X.env = (do
      let ov ← eval o X.env
      standAt apos.atName
      let (f, first) ← holding [ov] (getMethod ov m pl)
      callWith pos f first (backTo pos (starEach [] X.env)) (backToKw pos (keywordEach [] X.env))) := by rfl) :
    PE X (.Call (.Attribute o m apos) [] [] pos) (tMethA K C m sp E ta tNil) := by
  subst hK
  obtain ⟨fd, F, B⟩ := M.ok
  refine ⟨fun pins s σ H Q I h => ?_⟩
  refine PySem.W.methodCall_KW (pl := pl) (thn (ho.run pins s σ H _ I h) fun u s1 ⟨x, H1, I1, rx, a, dx, fs, ex, ea, l, q⟩ => ?_) ht
  subst ex
  obtain rfl : u = Value.ref a := rx
  exact getmeth_ok I1 ea c.cls M.me l (PySem.W.callWith_K0 (first := [.ref a]) I1.kIn M.me.kp (run_fnS (us := [.ref a]) (vs := [.ref a]) (F.mono hjk) hr B (hx σ) I1 (.cons rfl .nil) q))
end
theorem at0 {X : Cx} : ∀ σ : St, PassesAt CX0 X σ E0 := fun _ _ _ _ _ _ _ h => h.elim
theorem atE {X : Cx} : ∀ σ : St, PassesAt (L2.CX X.prog X.w) X σ E0 := fun σ pins H s e s' I h => by
  obtain ⟨_, _, _, _, _, _, _, _, _, _, _, _, z⟩ := h
  exact z.elim
theorem atW {X : Cx} {W : WX} (tk : Takes X W) : ∀ σ : St, PassesAt (L2.CX X.prog X.w) X σ (WE W σ) := fun σ => passAt tk σ
section
variable {K : PySem.W.Frag} {C m : Str} {σ : St} {H : Hp} {Q : VK} {sp : Sp} {E : St → XK} {ta : TE} {t : TA} {a dx : Addr} {fs : List (Str × V)} {R : Hp → Prop}
theorem c_meth (h : ta σ H fun x H1 => RecvK K C m x H1 fun H2 => t σ H2 fun vs H3 => sp (x :: vs) H3 Q (E σ)) : tMethA K C m sp E ta t σ H Q := h
theorem c_recv (h : H a = some (.ins (He.ga K C) dx fs)) (l : fs.lookup m = none) (q : R H) : RecvK K C m (.ref a) H R := ⟨a, dx, fs, rfl, h, l, q⟩
end
def NewK (K : PySem.W.Frag) (C : Str) (sp : Sp) (vs : List V) (H1 : Hp) (Q : VK) (E : XK) : Prop := ∀ x dx, H1 x = none → H1 dx = none → dx ≠ x →
  sp (.ref x :: vs) (upd (upd H1 dx (.own x)) x (.ins (He.ga K C) dx [])) (fun v H2 => v = .non ∧ Q (.ref x) H2) E
def tNewA (K : PySem.W.Frag) (C : Str) (sp : Sp) (E : St → XK) (t : TA) : TE := fun σ H Q => t σ H fun vs H1 => NewK K C sp vs H1 Q (E σ)
theorem c_newA {K : PySem.W.Frag} {C : Str} {sp : Sp} {E : St → XK} {t : TA} {σ : St} {H : Hp} {Q : VK} (h : t σ H fun vs H1 => NewK K C sp vs H1 Q (E σ)) : tNewA K C sp E t σ H Q := h
section
variable {X : Cx} {CX : CXT} {K : PySem.W.Frag} {C : Str} {k j : Nat} {ps : List Str} {sp : Sp} {E : St → XK} {p pos : Pos} {e : Expr} {es : List Expr} {t : TA}
theorem pe_newS (M : MethAt X.prog X.w X.K X.mg X.base CX C "__init__" j ps sp) (mk : Mk X.K (He.ga X.K C) (He.ma X.K (He.ga X.K C) "__init__")) (c : ClsAt X.K X.mg C) (hr : Room (k + 1) X.A) (hx : ∀ σ, PassesAt CX X σ (E σ)) (ha : PA X (e :: es) t)
    (hjk : j ≤ k := by decide) (hK : X.K = K := by rfl) (hg : Gl X C := by rfl)
    (hdb : (C == ("__debug__" : Str)) = false := by decide) (he : starEach (e :: es) X.env = (false, eval e X.env) :: starEach es X.env := by rfl) (hpl : (backTo pos (starEach es X.env)).any (·.1) = false := by rfl) :
    PE X (.Call (.Name C p) (e :: es) [] pos) (tNewA K C sp E t) := by
  subst hK
  obtain ⟨fd, F0, B⟩ := M.ok
  have F := F0.mono hjk
  refine ⟨fun pins s σ H Q I h => ?_⟩
  refine wpAny_Call_Name_kw (ld_glob I hg c.gl ?_ hdb)
  refine PySem.W.callWith_K (h₀ := X.base) I.ok.mod.kin mk.kp (thn (ha.run pos pins s σ H _ I h) fun us s1 ⟨vs, H1, I1, r, q⟩ => ⟨I1.kIn, ?_⟩) he hpl
  have hq := q (s1.heap.objs.size + 1) s1.heap.objs.size (I1.hok.fresh (Nat.le_succ _)) (I1.hok.fresh (Nat.le_refl _)) (Nat.ne_of_lt (Nat.lt_succ_self _))
  have I2 := Inv.made (C := He.ga X.K C) I1
  have r2 : Vals (V.ref (s1.heap.objs.size + 1) :: vs) (Value.ref (s1.heap.objs.size + 1) :: us) := .cons rfl r
  have hl : ((Value.ref (s1.heap.objs.size + 1) :: us) ++ []).length = ps.length := by
    rw [List.append_nil, ← r2.length]
    exact F.len _ _ _ _ hq
  have b := B _ (Value.ref (s1.heap.objs.size + 1) :: us) I2.kIn hl
  rw [List.append_nil] at b
  refine wpAny_call (make_map (f := He.ma X.K (He.ga X.K C) "__init__") I1.kIn mk.makes mk.init (beq_iff_eq.mp mk.fn) (codeAny_mono (F.run _ X.stack _ _ ⟨Value.ref (s1.heap.objs.size + 1) :: us, []⟩ (Value.ref (s1.heap.objs.size + 1) :: us) _ _ (E σ)
    (hr.make (He.ga X.K C) us []) (I2.env0.make (He.ga X.K C) us []) b r2 hq) fun rr s' hq' => ?_))
  cases rr with
  | error er => exact hx σ pins _ _ er s' I2 hq'
  | ok fl =>
    cases fl with
    | ret u =>
      obtain ⟨v, H', I3, rv, ev, q3⟩ := I2.after hq'
      subst ev
      exact ⟨rv, ⟨V.ref (s1.heap.objs.size + 1), H', I3, rfl, q3⟩⟩
    | next => exact False.elim hq'
    | brk => exact False.elim hq'
    | cont => exact False.elim hq'
end
end Sa

namespace Sa
open PySem PySem.Spec L2
structure Cl where
  c : Value
  i : Option Nat
  ts : Addr → Value → Option Addr → TS
inductive ClsOk (X : Cx) : List ExceptHandler → List Cl → Prop
  | nil : ClsOk X [] []
  | bare {x : Str} {c : Value} {ts : Addr → Value → Option Addr → TS} {b₀ : Stmt} {suite : List Stmt} {np pos' : Pos} {hds : List ExceptHandler} {l : List Cl} (hc : Names X x c)
      (hsu : ∀ (a : Addr) (oe : Obj) (cls : Value) (d : Option Addr) (pn : List (Addr × Obj)), Zc cls d oe → (∃ vs, oe.data = .fields vs) → PSs (X.suite a ((a, oe) :: pn)) (b₀ :: suite) (ts a cls d)) (r : ClsOk X hds l) :
      ClsOk X (.ExceptHandler (some (.Name x np)) none (b₀ :: suite) pos' :: hds) (⟨c, none, ts⟩ :: l)
  | named {x n : Str} {i : Nat} {c : Value} {ts : Addr → Value → Option Addr → TS} {b₀ : Stmt} {suite : List Stmt} {np pos' : Pos} {hds : List ExceptHandler} {l : List Cl} (hi : X.N[i]? = some n) (hln : X.env.kindOf n = some .local) (hc : Names X x c)
      (hsu : ∀ (a : Addr) (oe : Obj) (cls : Value) (d : Option Addr) (pn : List (Addr × Obj)), Zc cls d oe → (∃ vs, oe.data = .fields vs) → PSs (X.suite a ((a, oe) :: pn)) (b₀ :: suite) (ts a cls d)) (r : ClsOk X hds l) :
      ClsOk X (.ExceptHandler (some (.Name x np)) (some n) (b₀ :: suite) pos' :: hds) (⟨c, some i, ts⟩ :: l)
section
variable {X : Cx} {body : List Stmt} {h₀ : ExceptHandler} {hds : List ExceptHandler} {l : List Cl} {pos : Pos} {tb : WX → TS} {Wout : WX}
end
section
variable {K : PySem.W.Frag} {Wout : WX} {D : Ends} {σ : St} {H : Hp} {cls : Value} {d : Option Addr} {q : Cl} {r : List Cl}
end
end Sa

namespace Sa
open PySem PySem.Spec
def stepT (σ : List Str) (v : Str) : List Str := if σ.any (· == v) then σ else σ ++ [v]
def ded (xs : List Str) : List Str := xs.foldl stepT []
theorem stepT_any (σ : List Str) (v k : Str) : (stepT σ v).any (· == k) = (σ.any (· == k) || decide (k = v)) := by
  unfold stepT
  by_cases h : σ.any (· == v) = true
  · rw [if_pos h]
    by_cases e : k = v
    · subst e; rw [h]; simp
    · simp [e]
  · rw [if_neg h, List.any_append]
    by_cases e : k = v
    · subst e; simp
    · have hb : (v == k) = false := by simpa [beq_iff_eq] using (fun h' : v = k => e h'.symm)
      simp [hb, e]
theorem stepT_length (σ : List Str) (v : Str) : (stepT σ v).length = if σ.any (· == v) then σ.length else σ.length + 1 := by
  unfold stepT; split <;> simp
theorem ded_snoc (xs : List Str) (v : Str) : ded (xs ++ [v]) = stepT (ded xs) v := by unfold ded; rw [List.foldl_append]; rfl
theorem ded_take {xs : List Str} {i : Nat} (h : i < xs.length) : ded (xs.take (i + 1)) = stepT (ded (xs.take i)) (xs.getD i Str.empty) := by
  have e : xs[i]? = some (xs.getD i Str.empty) := by rw [List.getD_eq_getElem?_getD, List.getElem?_eq_getElem h]; rfl
  rw [take_succ' e, ded_snoc]
theorem ded_le (xs : List Str) : (ded xs).length ≤ xs.length := by
  suffices h : ∀ i, (ded (xs.take i)).length ≤ i by
    have := h xs.length
    rwa [List.take_length] at this
  intro i
  induction i with
  | zero => rw [List.take_zero]; exact Nat.le_refl _
  | succ i ih =>
    by_cases hi : i < xs.length
    · rw [ded_take hi, stepT_length]; split <;> omega
    · rw [List.take_of_length_le (by omega)] at ih ⊢
      omega
section
open PyProof.Rows
variable {prog : Program} {w : World} {A : Around} {R : Result → Shared → Prop} {I : Addr} {fp wr : List Addr} {G : Array GenState → Array GenState → Prop} {n : Nat} {P : Nat → Value → Prop} {St : Nat → Shared → Prop}
theorem set_loopT (W : WalksS prog w A.in1 I fp wr G n P St) (S : Addr) (hSf : S ∉ fp)
    (xs : List Str) (hval : ∀ i v, P i v → ∃ t, v = .str (xs.getD i Str.empty) t) (hsz : xs.length = n) (hb : n + 1 < scanBound) :
    ∀ (k i : Nat) (s : Shared), n - i = k → i ≤ n → St i s →
      s.heap.SetOf (strKind prog w) S (fun k' => (ded (xs.take i)).any (· == k')) (ded (xs.take i)).length →
      (∀ s', Moved (S :: wr) G s s' → s'.heap.SetOf (strKind prog w) S (fun k' => (ded (xs.take n)).any (· == k')) (ded (xs.take n)).length → R (.ok (.ret .none)) s') →
      codeAny (model prog w) A (.builtin "set.update.loop" ⟨[.ref S, .ref I], []⟩) R s := by
  have hSw : S ∉ wr := fun h => hSf (W.sub _ h)
  have hsub : ∀ b ∈ wr, b ∈ S :: wr := fun b hb => List.mem_cons_of_mem _ hb
  intro k
  induction k with
  | zero =>
    intro i s hk hi hst hS hR
    have hin : i = n := by omega
    subst hin
    refine codeAny_builtin PyProof.Rows.F.entry_set_update_loop ?_
    rw [Around.under_plainId PyProof.Rows.F.plain_set_update_loop _]
    show wpAny _ A.in1 (pyNext (.ref I) >>= _) _ _ s
    refine wpAny_bind (W.done s _ _ hst fun s' hm => ?_)
    show wpAny _ A.in1 (ret Value.none) _ _ s'
    exact wpAny_pure (hR s' (hm.mono hsub) (by
      obtain ⟨o, es, ep, t, ho, rest⟩ := hS
      exact ⟨o, es, ep, t, hm.heap S _ hSw ho, rest⟩))
  | succ k ih =>
    intro i s hk hi hst hS hR
    have hlt : i < n := by omega
    refine codeAny_builtin PyProof.Rows.F.entry_set_update_loop ?_
    rw [Around.under_plainId PyProof.Rows.F.plain_set_update_loop _]
    show wpAny _ A.in1 (pyNext (.ref I) >>= _) _ _ s
    refine wpAny_bind (W.item i s _ _ hlt hst fun v s' hP hst' hm => ?_)
    obtain ⟨t, rfl⟩ := hval i v hP
    have hS' : s'.heap.SetOf (strKind prog w) S (fun k' => (ded (xs.take i)).any (· == k')) (ded (xs.take i)).length := by
      obtain ⟨o, es, ep, tb, ho, rest⟩ := hS
      exact ⟨o, es, ep, tb, hm.heap S _ hSw ho, rest⟩
    show wpAny _ A.in1 (holding [Value.str (xs.getD i Str.empty) t] (setAdd S (.str (xs.getD i Str.empty) t)) >>= _) _ _ s'
    refine wpAny_bind (wpAny_holding ?_)
    unfold setAdd
    refine wpAny_holding ?_
    refine wpAny_bind ((strKind prog w).pyHash (k := xs.getD i Str.empty) (strKind_is _ _ _ _) ?_)
    have hroom : (ded (xs.take i)).length + 1 < scanBound := by have := ded_le (xs.take i); rw [List.length_take] at this; omega
    refine wpAny_setAddHashed_of (knd := strKind prog w) (s := { s' with toks := s'.toks + 1 }) (strKind_is _ _ _ _) rfl hS' hroom fun h' hsb hS2 => ?_

    have hSi : h'.SetOf (strKind prog w) S (fun k' => (ded (xs.take (i + 1))).any (· == k')) (ded (xs.take (i + 1))).length :=
      SetOf_congr hS2 (fun k' => by rw [ded_take (by omega), stepT_any]) (by rw [ded_take (by omega), stepT_length])
    refine wpAny_pure ⟨plainId_quiet PyProof.Rows.F.plain_set_update_loop _, ih (i + 1) _ (by omega) hlt (W.frame _ s' _ _ hst' (Nat.le_succ _) fun b hb o e => ?_) hSi fun s'' hm'' hS'' => ?_⟩
    · rw [hsb.2 b (fun h : b = S => hSf (by rw [← h]; exact hb))]; exact e
    · refine hR s'' (Moved.trans W.gtrans ((hm.mono hsub).then_heap (Nat.le_succ _) fun b o hb e => ?_) hm'') hS''
      rw [hsb.2 b (fun h : b = S => hb (by rw [h]; exact List.mem_cons_self))]; exact e
end
section
variable {prog : Program} {w : World} {A : Around} {E : Value → Shared → Prop} {s : Shared}
set_option maxRecDepth 100000 in
set_option maxHeartbeats 3200000 in
theorem call_set_texts {l : Addr} {items : Array Value} {xs : List Str} {Q : Value → Shared → Prop}
    (hh : A.handled = none) (hl : s.heap.IsList l items) (hi : PyProof.Rows.StrsAre items.toList xs) (hsz : xs.length = items.size) (hb : items.size + 1 < scanBound)
    (h : ∀ (h' : Heap) (tk : Nat), h'.SetOf (strKind prog w) s.heap.objs.size (fun k' => (ded (xs.take items.size)).any (· == k')) (ded (xs.take items.size)).length →
      (∀ b o, b < s.heap.objs.size → s.heap.get? b = some o → h'.get? b = some o) → Q (.ref s.heap.objs.size) { s with heap := h', toks := tk }) :
    wpAny (model prog w) A (call (.type "set") [.ref l]) Q E s := by
  obtain ⟨c, tl, hmro⟩ := F.called_set.mro
  have hmade := F.called_set.made
  have hsub := F.called_set.sub
  refine wpAny_call (codeAny_of_tree ?_)
  show wpAny _ _ (callAny (.type "set") _) _ _ _
  refine wpAny_pure ⟨Code.quiet_builtin _ (by decide +kernel), codeAny_builtin F.entry_type_call ?_⟩
  rw [Around.under_plain (weight_type_call_type "set" [.ref l] []) rfl]
  have h1 := F.called_set.notType
  have h2 := F.called_set.canCreate
  have hct := F.typeCall_set_1 (.ref l)
  repeat (any_goals (first | assumption | wp_step))

  refine codeAny_mono (code_set_new_1 (.ref l) (E := E) (Q₁ := fun obj s₁ => ∃ led : Bool, obj = .ref s.heap.objs.size ∧ s₁ = { s with heap := s.heap.push { cls := .type "set", dict := none, data := .set #[] 0 (.fresh 0 0 led) } }) fun led => ⟨led, rfl, rfl⟩) fun r s₁ hr => ?_
  cases r with
  | error e => exact hr
  | ok fl =>
    cases fl with
    | ret obj =>
      obtain ⟨led, rfl, rfl⟩ := hr
      have hS : (s.heap.push { cls := .type "set", dict := none, data := .set #[] 0 (.fresh 0 0 led) }).get? s.heap.objs.size = some { cls := .type "set", dict := none, data := .set #[] 0 (.fresh 0 0 led) } := Heap.get?_push_size _ rfl
      have hT : Shared.TypeIs { s with heap := s.heap.push { cls := .type "set", dict := none, data := .set #[] 0 (.fresh 0 0 led) } } (.ref s.heap.objs.size) "set" := ⟨_, hS, rfl⟩
      have hli := F.called_set.init.lookup
      have hbi := F.called_set.init.bind (.ref s.heap.objs.size)
      repeat (any_goals (first | assumption | wp_step))

      refine codeAny_mono (codeAny_call_builtin (R := wants (fun r s₂ => r = .none ∧ ∃ h' tk, s₂ = { s with heap := h', toks := tk } ∧
          h'.SetOf (strKind prog w) s.heap.objs.size (fun k' => (ded (xs.take items.size)).any (· == k')) (ded (xs.take items.size)).length ∧
          (∀ b o, b < s.heap.objs.size → s.heap.get? b = some o → h'.get? b = some o)) E) F.called_set.init.plain F.entry_set_init (check_set_init_1 hT ?_)) fun r₂ s₂ hr₂ => ?_
      · obtain ⟨ol, hol, hcl, nl, hdl⟩ := hl
        obtain ⟨ocls, odict, odata, oslots⟩ := ol
        simp only at hcl hdl
        subst hcl; subst hdl
        have hol' : (s.heap.push { cls := .type "set", dict := none, data := .set #[] 0 (.fresh 0 0 led) }).get? l = some { cls := .type "list", dict := odict, data := .seq items nl, slots := oslots } := Heap.get?_push_of_some _ hol
        have hsls := F.sub_list_set
        have hslf := F.sub_list_frozenset
        have hne : (Value.type "list" == Value.type "dict") = false := by decide
        have hl1 : (s.heap.push { cls := .type "set", dict := none, data := .set #[] 0 (.fresh 0 0 led) }).IsList l items := ⟨_, hol', rfl, nl, rfl⟩
        unfold Builtin.«set.__init__» noKeywords Builtin.Frozenset.updateFrom
        generalize hPI : pyIter = PI
        wp_walk
        subst hPI

        refine wpAny_pyIter_list hl1 ?_
        refine wpAny_bind (wpAny_runValue ?_)
        have hlS : l < s.heap.objs.size := Heap.lt_size hol
        have hh3 : A.in1.in1.in1.handled = none := by simp [hh]
        have hneI : l ≠ (s.heap.push { cls := .type "set", dict := none, data := .set #[] 0 (.fresh 0 0 led) }).objs.size := by
          rw [Heap.size_push]; exact Nat.ne_of_lt (Nat.lt_succ_of_lt hlS)
        have hSf : s.heap.objs.size ∉ [(s.heap.push { cls := .type "set", dict := none, data := .set #[] 0 (.fresh 0 0 led) }).objs.size, l] := by
          rw [Heap.size_push]; simp only [List.mem_cons, List.mem_singleton, List.not_mem_nil, or_false, not_or]
          exact ⟨Nat.ne_of_lt (Nat.lt_succ_self _), Nat.ne_of_gt hlS⟩
        have hval : ∀ (i : Nat) (v : Value), items[i]? = some v → ∃ t, v = .str (xs.getD i Str.empty) t := fun i v hv =>
          SS.strs_at hi i v (by rw [Array.getElem?_toList]; exact hv)
        refine set_loopT ((Walks.list hh3 _ l hneI items).toS) s.heap.objs.size
          hSf xs hval hsz hb (items.size - 0) 0 _ (by omega) (Nat.zero_le _)
          ⟨⟨_, Heap.get?_push_size _ rfl, rfl, rfl⟩, (hl1.push _)⟩ ?hS0 ?hR
        case hS0 =>
          have hget : ((s.heap.push { cls := .type "set", dict := none, data := .set #[] 0 (.fresh 0 0 led) }).push { cls := .type "list_iterator", data := .fields #[.ref l, .int 0 0] }).get? s.heap.objs.size
              = some { cls := .type "set", dict := none, data := .set #[] 0 (.fresh 0 0 led) } := Heap.get?_push_of_some _ hS
          exact PyProof.Rows.SetOf_congr ((PyProof.Rows.setObjOf_fresh (knd := strKind prog w) led).setOf hget (by unfold scanBound; omega)) (fun _ => by rw [List.take_zero]; rfl) (by rw [List.take_zero]; rfl)
        case hR =>
          intro s' hm hS'
          obtain ⟨h', g', d', tk', os'⟩ := s'
          have eg : g' = s.gens := hm.gens
          have ed : d' = s.drawn := hm.drawn
          have eo : os' = s.os := hm.os
          subst eg; subst ed; subst eo
          show wpAny _ _ _ _ _ _
          refine wpAny_pure ?_
          show wpAny _ _ (ret Value.none) _ _ _
          refine wpAny_pure ⟨rfl, h', tk', rfl, hS', fun b o hb e => ?_⟩
          have hb1 : b ≠ s.heap.objs.size := Nat.ne_of_lt hb
          have hb2 : b ≠ (s.heap.push { cls := .type "set", dict := none, data := .set #[] 0 (.fresh 0 0 led) }).objs.size := by
            rw [Heap.size_push]; exact Nat.ne_of_lt (Nat.lt_succ_of_lt hb)
          exact hm.heap b o (by simp only [List.mem_cons, List.mem_singleton, List.not_mem_nil, or_false, not_or]; exact ⟨hb1, hb2⟩) (Heap.get?_push_of_some _ (Heap.get?_push_of_some _ e))

      · cases r₂ with
        | error e => exact hr₂
        | ok fl₂ =>
          cases fl₂ with
          | ret r =>
            obtain ⟨rfl, h', tk, rfl, hS', hk'⟩ := hr₂
            repeat (any_goals (first | assumption | wp_step))
            exact h _ _ hS' hk'
          | _ => exact hr₂.elim
    | _ => exact hr.elim
end
end Sa

namespace Sa
open PySem L2
def tLenSetU (K : PySem.W.Frag) (ta : TE) : TE := fun σ H Q => ta σ H fun x H1 => ∃ (l : Addr) (xs : List Str), x = .ref l ∧ SqL K H1 l (xs.map V.str) ∧ xs.length ≤ 1000 ∧ Q (.int (ded xs).length) H1
theorem c_lenSet {K : PySem.W.Frag} {ta : TE} {σ : St} {H : Hp} {Q : VK} (h : ta σ H fun x H1 => ∃ (l : Addr) (xs : List Str), x = .ref l ∧ SqL K H1 l (xs.map V.str) ∧ xs.length ≤ 1000 ∧ Q (.int (ded xs).length) H1) : tLenSetU K ta σ H Q := h
theorem pe_lenSetU {X : Cx} {K : PySem.W.Frag} {a : Expr} {ta : TE} {p p2 q pos : Pos} (hc : X.calm = true) (hm : X.mg "len" = none) (hm2 : X.mg "set" = none) (ha : PE X a ta) (hK : X.K = K := by rfl) (hg : Gl X "len" := by rfl) (hg2 : Gl X "set" := by rfl)
    (na : starEach [a] X.env = (false, eval a X.env) :: starEach [] X.env := by rfl) : PE X (.Call (.Name "len" p) [.Call (.Name "set" p2) [a] [] q] [] pos) (tLenSetU K ta) := by
  subst hK
  constructor
  intro pins s σ H Q I h
  refine PyProof.Rows.Call_ (ld_blt I hg hm PySem.boot_len (PyProof.Rows.callWith_builtin1 (PyProof.Rows.args_cons ?_ rfl) rfl rfl))
  refine PyProof.Rows.Call_ (ld_blt I hg2 hm2 PySem.Pv.boot_set (PyProof.Rows.callWith_type1 (PyProof.Rows.args_cons (thn (ha.run pins s σ H _ I h) fun v s1 ⟨x, H1, I1, r1, q1⟩ => PyProof.Rows.args_nil ?_) na) na rfl))
  obtain ⟨l, xs, rfl, hq, h1, q1⟩ := q1
  cases r1
  obtain ⟨its, r, pl, hz⟩ := I1.list hq
  have hl : its.length = xs.length := by rw [← r.length, List.length_map]
  refine call_set_texts (xs := xs) (I1.ok.hd hc) pl.isList (by simpa using strsAre_of r) (by rw [List.size_toArray, hl]) (by rw [List.size_toArray, hl]; unfold scanBound; omega) fun h' tk hS hk => PyProof.Rows.args_nil ?_
  have hsz : its.toArray.size = xs.length := by rw [List.size_toArray, hl]
  rw [hsz, List.take_length] at hS
  obtain ⟨o, es, ep, t, ho, hex, hd, _, _, _, hf, hn⟩ := hS
  have I2 : Inv X pins σ H1 { s1 with heap := h', toks := tk } := I1.kept fun b o e => hk b o (Heap.lt_size e) e
  exact call_len_set ho hex hd hf (by rw [hn]; have := ded_le xs; omega) ⟨.int (ded xs).length, H1, I2.tok _, ⟨_, by rw [hn]⟩, q1⟩
def Sq (K : PySem.W.Frag) (H : Hp) (a : Addr) (xs : List V) : Prop := SqL K H a xs ∨ SqT K H a xs
def iSeq (K : PySem.W.Frag) (te : TE) : TI := fun σ H R => te σ H fun x H1 => ∃ a, x = .ref a ∧ (((∃ xs, SqL K H1 a xs) ∧ R (Itl K a) H1) ∨ ((∃ xs, SqT K H1 a xs) ∧ R (Itt K a) H1))
theorem pi_seq {X : Cx} {K : PySem.W.Frag} {tg e : Expr} {te : TE} (he : PE X e te) (hK : X.K = K := by rfl) : PI X tg e (iSeq K te) := by
  subst hK
  constructor
  intro pins s σ H R I h
  refine thn (he.run pins s σ H _ I h) fun v s1 ⟨x, H1, I1, r1, a, ex, z⟩ => ?_
  subst ex
  cases r1
  have fp : ∀ b ∈ [s1.heap.objs.size], FpOk X pins H1 b := fun b hb => by
    rw [List.mem_singleton.mp hb]
    exact I1.fpOk (Nat.le_refl _) (I1.hok.fresh (Nat.le_refl _))
  rcases z with ⟨⟨xs, hq⟩, q⟩ | ⟨⟨xs, hq⟩, q⟩
  · obtain ⟨its, rv, p, hz⟩ := I1.list hq
    exact wpAny_pyIter_list p.isList ⟨_, [s1.heap.objs.size], _, _, H1, rfl, I1.kept (t' := s1.toks) fun b o e => Heap.get?_push_of_some _ e, turn_list a _, ⟨_, Heap.get?_push_size _ rfl, rfl, rfl⟩, fp, q⟩
  · obtain ⟨its, rv, p, hz⟩ := I1.tuple hq
    exact wpAny_pyIter_tuple (show s1.heap.IsTuple a its.toArray from p) ⟨_, [s1.heap.objs.size], _, _, H1, rfl, I1.kept (t' := s1.toks) fun b o e => Heap.get?_push_of_some _ e, turn_tuple a _, ⟨_, Heap.get?_push_size _ rfl, rfl, rfl⟩, fp, q⟩
section
variable {K : PySem.W.Frag} {σ : St} {H : Hp} {R : It → Hp → Prop} {te : TE} {a : Addr} {xs : List V} {g : TG} {tt : TT} {tb : TS} {D : Ends} {vs : List Nat} {Q : VK}
theorem c_iSeq (h : te σ H fun x H1 => ∃ a, x = .ref a ∧ (((∃ xs, SqL K H1 a xs) ∧ R (Itl K a) H1) ∨ ((∃ xs, SqT K H1 a xs) ∧ R (Itt K a) H1))) : iSeq K te σ H R := h
end
def rSortedDU : List V → Hp → VK → Prop := fun xs H Q => ∃ (a : Addr) (kvs : List (Key × V)) (ks : List Str), xs = [.ref a] ∧ Rd H a (.dK kvs) ∧ kvs.map (·.1) = ks.map Sum.inr ∧ ks.length < 64 ∧ ∀ ys p, ys.Perm ks → PyProof.Rows.sortedS ys = true → H p = none → Q (.ref p) (upd H p (.lst (ys.map V.str)))
theorem cr_sortedDU {X : Cx} (hc : X.calm = true) : CallR X (.builtin "sorted") rSortedDU := call_sortedD hc
theorem pe_dgetU {X : Cx} {o e : Expr} {apos cpos : Pos} {td ty : TE} (hu : X.A.units + 1 < cLine) (ho : PE X o td) (he : PE X e ty) (hb : attributeBase o "get" X.env (eval o X.env) = eval o X.env := by rfl)
    (hf : ((backTo cpos (starEach [e] X.env)).all (fun x => !x.1) && (backToKw cpos (keywordEach [] X.env)).all (fun x => x.1.isSome) && decide (([e] : List Expr).length + ([] : List Keyword).length + (if ([] : List Keyword).isEmpty then 0 else 1) < 30)) = true := by rfl)
    (hl : (apos.endLine == cpos.line) = true := by rfl) (ht : backTo cpos (starEach [e] X.env) = [(false, eval e X.env)] := by rfl) : PE X (.Call (.Attribute o "get" apos) [e] [] cpos) (tDGet1 td ty) := pe_dget1 hu ho he ⟨hb, hf, hl, ht⟩
theorem c_dget {td ty : TE} {σ : St} {H : Hp} {Q : VK} (h : td σ H fun x H1 => ty σ H1 fun y H2 => ∃ a v, x = .ref a ∧ DGet H2 a y (some v) ∧ Q v H2) : tDGet td ty σ H Q := h
theorem c_dget1 {td ty : TE} {σ : St} {H : Hp} {Q : VK} (h : td σ H fun x H1 => ∃ a, x = .ref a ∧ IsD H1 a ∧ ty σ H1 fun y H2 => ∃ o, DGet H2 a y o ∧ Q (o.getD .non) H2) : tDGet1 td ty σ H Q := h
end Sa

namespace Sa
open PySem L2
def leS (a b : Str) : Prop := ¬ (b.cps.toList < a.cps.toList)
instance (a b : Str) : Decidable (leS a b) := inferInstanceAs (Decidable (¬ _))
theorem str_ext {a b : Str} (h : a.cps.toList = b.cps.toList) : a = b := by
  cases a; cases b
  congr 1
  exact Array.toList_inj.mp h
theorem leS_antisymm {a b : Str} (h1 : leS a b) (h2 : leS b a) : a = b := str_ext (List.le_antisymm (List.not_lt.mp h1) (List.not_lt.mp h2))
theorem leS_trans {a b c : Str} (h1 : leS a b) (h2 : leS b c) : leS a c := List.not_lt.mpr (List.le_trans (List.not_lt.mp h1) (List.not_lt.mp h2))
theorem leS_of_lt {a b : Str} (h : a.cps.toList < b.cps.toList) : leS a b := List.not_lt.mpr (List.le_of_lt h)
theorem rising_pair : ∀ (p : Str) (l : List Str), PyProof.Rows.risingS p l = true → (p :: l).Pairwise leS
  | p, [], _ => List.pairwise_singleton ..
  | p, x :: r, h => by
    unfold PyProof.Rows.risingS at h
    rw [Bool.and_eq_true, PyProof.Rows.ltCps_eq, Bool.not_eq_true', decide_eq_false_iff_not] at h
    have ih := rising_pair x r h.2
    refine List.pairwise_cons.mpr ⟨fun y hy => ?_, ih⟩
    rcases List.mem_cons.mp hy with e | hy
    · subst e; exact h.1
    · exact leS_trans h.1 ((List.pairwise_cons.mp ih).1 y hy)
theorem sorted_pair {l : List Str} (h : PyProof.Rows.sortedS l = true) : l.Pairwise leS := by
  cases l with
  | nil => exact .nil
  | cons x r => exact rising_pair x r h
theorem sorted_eq : ∀ {ys zs : List Str}, ys.Perm zs → ys.Pairwise leS → zs.Pairwise leS → ys = zs
  | [], zs, hp, _, _ => (List.Perm.nil_eq hp)
  | y :: r, [], hp, _, _ => by have := hp.length_eq; simp at this
  | y :: r, z :: t, hp, h1, h2 => by
    obtain ⟨a1, a2⟩ := List.pairwise_cons.mp h1
    obtain ⟨b1, b2⟩ := List.pairwise_cons.mp h2
    have e : y = z := by
      have m1 : y ∈ z :: t := hp.subset (List.mem_cons_self ..)
      have m2 : z ∈ y :: r := hp.symm.subset (List.mem_cons_self ..)
      rcases List.mem_cons.mp m1 with e | m1
      · exact e
      rcases List.mem_cons.mp m2 with e | m2
      · exact e.symm
      exact leS_antisymm (a1 z m2) (b1 y m1)
    subst e
    rw [sorted_eq (List.perm_cons y |>.mp hp) a2 b2]
section
variable {β : Type}
def insF (x : Str × β) : List (Str × β) → List (Str × β)
  | [] => [x]
  | y :: r => if x.1.cps.toList < y.1.cps.toList then x :: y :: r else y :: insF x r
def sortF (fs : List (Str × β)) : List (Str × β) := fs.foldr insF []
theorem insF_perm (x : Str × β) : ∀ fs : List (Str × β), (insF x fs).Perm (x :: fs)
  | [] => .refl _
  | y :: r => by
    unfold insF
    split
    · exact .refl _
    · exact ((insF_perm x r).cons y).trans (.swap ..)
theorem sortF_perm : ∀ fs : List (Str × β), (sortF fs).Perm fs
  | [] => .refl _
  | x :: r => (insF_perm x (sortF r)).trans ((sortF_perm r).cons x)
def Asc (fs : List (Str × β)) : Prop := (fs.map Prod.fst).Pairwise leS
theorem insF_asc (x : Str × β) : ∀ {fs : List (Str × β)}, Asc fs → Asc (insF x fs)
  | [], _ => List.pairwise_singleton ..
  | y :: r, h => by
    obtain ⟨h1, h2⟩ := List.pairwise_cons.mp (show (y.1 :: r.map Prod.fst).Pairwise leS from h)
    unfold insF
    split
    · rename_i hlt
      refine List.pairwise_cons.mpr ⟨fun z hz => ?_, h⟩
      rcases List.mem_cons.mp hz with e | hz
      · subst e; exact leS_of_lt hlt
      · exact leS_trans (leS_of_lt hlt) (h1 z hz)
    · rename_i hlt
      refine List.pairwise_cons.mpr ⟨fun z hz => ?_, insF_asc x (fs := r) h2⟩
      have : z ∈ (x :: r).map Prod.fst := ((insF_perm x r).map Prod.fst).subset hz
      rcases List.mem_cons.mp this with e | hz
      · subst e; exact hlt
      · exact h1 z hz
theorem sortF_asc : ∀ fs : List (Str × β), Asc (sortF fs)
  | [] => .nil
  | x :: r => insF_asc x (sortF_asc r)
theorem sorted_keys {fs : List (Str × β)} {ys : List Str} (h : ys.Perm (fs.map Prod.fst)) (hs : PyProof.Rows.sortedS ys = true) : ys = (sortF fs).map Prod.fst :=
  sorted_eq (h.trans ((sortF_perm fs).map Prod.fst).symm) (sorted_pair hs) (sortF_asc fs)
theorem sortF_len (fs : List (Str × β)) : (sortF fs).length = fs.length := (sortF_perm fs).length_eq
def Once (fs : List (Str × β)) : Prop := (fs.map Prod.fst).Nodup
theorem sortF_once {fs : List (Str × β)} (h : Once fs) : Once (sortF fs) := ((sortF_perm fs).map Prod.fst).symm.nodup h
theorem asc_perm_eq {fs gs : List (Str × β)} (hp : fs.Perm gs) (ho : Once fs) (h1 : Asc fs) (h2 : Asc gs) : fs = gs := by
  induction fs generalizing gs with
  | nil => exact List.Perm.nil_eq hp
  | cons x r ih =>
    cases gs with
    | nil => have := hp.length_eq; simp at this
    | cons y t =>
      have ek := sorted_eq (hp.map Prod.fst) h1 h2
      simp only [List.map_cons, List.cons.injEq] at ek
      have exy : x = y := by
        rcases List.mem_cons.mp (hp.subset (List.mem_cons_self ..)) with e | m
        · exact e
        · exfalso
          have hy : Once (y :: t) := (hp.map Prod.fst).nodup ho
          have : y.1 ∉ t.map Prod.fst := (List.nodup_cons.mp hy).1
          exact this (ek.1 ▸ List.mem_map_of_mem (f := Prod.fst) m)
      subst exy
      rw [ih ((List.perm_cons x).mp hp) (List.nodup_cons.mp ho).2 (List.pairwise_cons.mp h1).2 (List.pairwise_cons.mp h2).2]
theorem sortF_of_asc {fs : List (Str × β)} (ho : Once fs) (h : Asc fs) : sortF fs = fs := asc_perm_eq (sortF_perm fs) (sortF_once ho) (sortF_asc fs) h
theorem sortF_congr {fs gs : List (Str × β)} (hp : fs.Perm gs) (ho : Once fs) : sortF fs = sortF gs :=
  asc_perm_eq ((sortF_perm fs).trans (hp.trans (sortF_perm gs).symm)) (sortF_once ho) (sortF_asc _) (sortF_asc _)
def at? (fs : List (Str × β)) (p : Str) : Option β := (fs.find? fun f => decide (f.1 = p)).map Prod.snd
theorem at_some {fs : List (Str × β)} (ho : Once fs) {p : Str} {v : β} : at? fs p = some v ↔ (p, v) ∈ fs := by
  induction fs with
  | nil => simp [at?]
  | cons f r ih =>
    obtain ⟨h1, h2⟩ := List.nodup_cons.mp (show (f.1 :: r.map Prod.fst).Nodup from ho)
    have ih := ih h2
    unfold at? at ih ⊢
    rw [List.find?_cons]
    by_cases e : f.1 = p
    · rw [decide_eq_true e]
      constructor
      · intro h
        have h : f.2 = v := by simpa using h
        rw [← e, ← h]
        exact List.mem_cons_self ..
      · intro h
        rcases List.mem_cons.mp h with h | h
        · rw [← h]; rfl
        · exact absurd (List.mem_map_of_mem (f := Prod.fst) h) (by rw [← e]; exact h1)
    · rw [decide_eq_false e]
      rw [ih]
      constructor
      · exact List.mem_cons_of_mem _
      · intro h
        rcases List.mem_cons.mp h with h | h
        · exact absurd (by rw [← h]) e
        · exact h
theorem at_perm {fs gs : List (Str × β)} (ho : Once fs) (hp : fs.Perm gs) (p : Str) : at? fs p = at? gs p := by
  have hg : Once gs := (hp.map Prod.fst).nodup ho
  cases h : at? gs p with
  | none =>
    cases h2 : at? fs p with
    | none => rfl
    | some v => rw [(at_some hg).mpr (hp.subset ((at_some ho).mp h2))] at h; cases h
  | some v => exact (at_some ho).mpr (hp.symm.subset ((at_some hg).mp h))
end
end Sa

namespace Sa
open PySem L2
section
variable {K : PySem.W.Frag} {σ : St} {H : Hp} {wi : TI} {g : TG} {tt : TT} {tk tv : TE} {n : Nat} {Q : VK} {vs : List Nat} {J : It} {ok : Hp → Prop} {Y : Nat → V → Hp → Hp → Prop}
def DcJ (J : It) (g : TG) (tt : TT) (tk tv : TE) (vs : List Nat) (σ : St) (H1 : Hp) (Q : VK) : Prop := ∀ D, H1 D = none → ∃ W : Nat → Nat → Hp → Prop, (∃ m, W 0 m (upd H1 D (.dK []))) ∧ ∀ i m H, W i m H →
  (J.stop i H ∧ Q (.ref D) H) ∨ (J.go i H ∧ ∃ Nx : Hp → Prop, (∀ H', Nx H' → ∃ m', m' < m ∧ W (i + 1) m' H') ∧ ∀ x H', J.yld i H x H' → g x (wipe σ vs) H' fun σ2 H2 => wipe σ2 vs = wipe σ vs ∧ tt σ2 H2 fun b H3 =>
    if b = true then tk σ2 H3 fun y H4 => tv σ2 H4 fun z H5 => ∃ kvs k, y = kV k ∧ H5 D = some (.dK kvs) ∧ kvs.length < sizeLine ∧ Nx (upd H5 D (.dK (putK kvs k z))) else Nx H3)
theorem c_dc (h : wi σ H fun J H1 => DcJ J g tt tk tv vs σ H1 Q) : tDc wi g tt tk tv vs σ H Q := h
abbrev DcM (g : TG) (tt : TT) (tk tv : TE) (vs : List Nat) (σ : St) (R : V → V → Hp → Prop) (S : Hp → Prop) (x : V) (H' : Hp) : Prop :=
  g x (wipe σ vs) H' fun σ2 H2 => wipe σ2 vs = wipe σ vs ∧ tt σ2 H2 fun b H3 => if b = true then tk σ2 H3 fun y H4 => tv σ2 H4 fun z H5 => R y z H5 else S H3
theorem dcQ_map (I : Itn J n ok Y) (key : Nat → Str) (val : Nat → V) (hnd : ((List.range n).map key).Nodup) (hz : n ≤ 10000) (hok : ∀ H', Kp [] H H' → ok H')
    (hs : ∀ i x H' H'' R S, i < n → Kp [] H H' → Y i x H' H'' → (∀ H4, Kp [] H'' H4 → R (.str (key i)) (val i) H4) → DcM g tt tk tv vs σ R S x H'')
    (hd : ∀ D H', H D = none → Kp [] H H' → H' D = some (.dK ((List.range n).map fun i => (Sum.inr (key i), val i))) → Q (.ref D) H') : DcJ J g tt tk tv vs σ H Q := by
  intro D hD
  refine ⟨fun i m H' => m = n - i ∧ i ≤ n ∧ Kp [] H H' ∧ H' D = some (.dK ((List.range i).map fun i => (Sum.inr (key i), val i))), ⟨_, rfl, Nat.zero_le _, Kp.new hD, upd_same⟩, ?_⟩
  rintro i m H1 ⟨rfl, hi, e, h⟩
  have o := hok H1 e
  by_cases hlt : i < n
  · refine .inr ⟨I.go i H1 o hlt, fun H' => Kp [] H H' ∧ H' D = some (.dK ((List.range (i + 1)).map fun i => (Sum.inr (key i), val i))), fun H' p => ⟨_, by omega, rfl, hlt, p.1, p.2⟩, fun x H' y => ?_⟩
    have y' := I.yld i H1 x H' o hlt y
    have k := I.kp i x H1 H' y'
    refine hs i x H1 H' _ _ hlt e y' fun H4 e4 => ?_
    refine ⟨_, Sum.inr (key i), rfl, e4.at0 (k.at0 h), by rw [List.length_map, List.length_range, sizeLine_eq]; omega, ((e.trans k).trans e4).fresh_mut hD, ?_⟩
    rw [upd_same]
    congr 2
    unfold putK
    have hno : ((List.range i).map fun i => ((Sum.inr (key i) : Key), val i)).any (fun kv => decide (kv.1 = Sum.inr (key i))) = false := by
      rw [List.any_eq_false]
      intro kv hkv
      obtain ⟨j, hj, rfl⟩ := List.mem_map.mp hkv
      simp only [decide_eq_true_eq, Sum.inr.injEq]
      intro ej
      have hj : j < i := List.mem_range.mp hj
      have a1 : ((List.range n).map key)[j]? = some (key j) := by rw [List.getElem?_map, List.getElem?_range (by omega)]; rfl
      have a2 : ((List.range n).map key)[i]? = some (key i) := by rw [List.getElem?_map, List.getElem?_range (by omega)]; rfl
      have := (List.getElem?_inj (by rw [List.length_map, List.length_range]; omega) hnd).mp (a1.trans ((congrArg some ej).trans a2.symm))
      omega
    rw [hno, if_neg Bool.false_ne_true, List.range_succ, List.map_append]
    rfl
  · have ei : i = n := by omega
    subst ei
    exact .inl ⟨I.stop i H1 o (Nat.le_refl _), hd D H1 hD e h⟩
end
section
variable {K : PySem.W.Frag} {σ : St} {H : Hp} {g : TG} {tt : TT} {te tk tv : TE} {tb : TS} {D : Ends} {Q : VK} {vs : List Nat} {a : Addr} {α : Type} {ys : List α} {u : α → V}
abbrev Yq (ys : List α) (u : α → V) : Nat → V → Hp → Hp → Prop := fun i x H H' => H' = H ∧ ∃ y, ys[i]? = some y ∧ x = u y
theorem seq_any {R : It → Hp → Prop} (h : Sq K H a (ys.map u)) (q : ∀ J ok, Itn J ys.length ok (Yq ys u) → (∀ H', Kp [] H H' → ok H') → R J H) :
    ∃ b, V.ref a = .ref b ∧ (((∃ xs, SqL K H b xs) ∧ R (Itl K b) H) ∨ ((∃ xs, SqT K H b xs) ∧ R (Itt K b) H)) := by
  rcases h with h | h
  · exact ⟨a, rfl, .inl ⟨⟨_, h⟩, q _ _ itn_l fun H' e => SqL.kp e h⟩⟩
  · exact ⟨a, rfl, .inr ⟨⟨_, h⟩, q _ _ itn_t fun H' e => SqT.kp e h⟩⟩
theorem c_seqC (h : Sq K H a (ys.map u)) (q : ∀ J ok, Itn J ys.length ok (Yq ys u) → (∀ H', Kp [] H H' → ok H') → LcJ J g tt te vs σ H Q) :
    ∃ b, V.ref a = .ref b ∧ (((∃ xs, SqL K H b xs) ∧ LcJ (Itl K b) g tt te vs σ H Q) ∨ ((∃ xs, SqT K H b xs) ∧ LcJ (Itt K b) g tt te vs σ H Q)) := seq_any (R := fun J H => LcJ J g tt te vs σ H Q) h q
theorem c_seqF (h : Sq K H a (ys.map u)) (q : ∀ J ok, Itn J ys.length ok (Yq ys u) → (∀ H', Kp [] H H' → ok H') → ForJ J g tb D σ H) :
    ∃ b, V.ref a = .ref b ∧ (((∃ xs, SqL K H b xs) ∧ ForJ (Itl K b) g tb D σ H) ∨ ((∃ xs, SqT K H b xs) ∧ ForJ (Itt K b) g tb D σ H)) := seq_any (R := fun J H => ForJ J g tb D σ H) h q
theorem c_seqD (h : Sq K H a (ys.map u)) (q : ∀ J ok, Itn J ys.length ok (Yq ys u) → (∀ H', Kp [] H H' → ok H') → DcJ J g tt tk tv vs σ H Q) :
    ∃ b, V.ref a = .ref b ∧ (((∃ xs, SqL K H b xs) ∧ DcJ (Itl K b) g tt tk tv vs σ H Q) ∨ ((∃ xs, SqT K H b xs) ∧ DcJ (Itt K b) g tt tk tv vs σ H Q)) := seq_any (R := fun J H => DcJ J g tt tk tv vs σ H Q) h q
end
theorem range_getD {α β : Type} (ys : List α) (d : α) (f : α → β) : (List.range ys.length).map (fun i => f (ys.getD i d)) = ys.map f := by
  apply List.ext_getElem?
  intro i
  rw [List.getElem?_map, List.getElem?_map]
  by_cases h : i < ys.length
  · rw [List.getElem?_range h, List.getElem?_eq_getElem h]
    simp [List.getD_eq_getElem?_getD, List.getElem?_eq_getElem h]
  · rw [List.getElem?_eq_none (by rw [List.length_range]; omega), List.getElem?_eq_none (by omega)]
    rfl
theorem getD_of {α : Type} {ys : List α} {i : Nat} {y d : α} (h : ys[i]? = some y) : ys.getD i d = y := by rw [List.getD_eq_getElem?_getD, h]; rfl
abbrev File := Str × List Str
abbrev RowA := Addr × Addr × File
structure RowOk (K : PySem.W.Frag) (H : Hp) (r : RowA) : Prop where
  row : SqT K H r.1 [.str r.2.2.1, .ref r.2.1]
  lines : SqT K H r.2.1 (r.2.2.2.map V.str)
theorem RowOk.kp {K : PySem.W.Frag} {H H' : Hp} {r : RowA} (h : RowOk K H r) (e : Kp [] H H') : RowOk K H' r := ⟨SqT.kp e h.row, SqT.kp e h.lines⟩
def RowsAt (K : PySem.W.Frag) (H : Hp) (a : Addr) (fs : List File) : Prop := ∃ rs : List RowA, Sq K H a (rs.map fun r => V.ref r.1) ∧ rs.map (fun r => r.2.2) = fs ∧ ∀ r ∈ rs, RowOk K H r
theorem Sq.kp {K : PySem.W.Frag} {H H' : Hp} {a : Addr} {xs : List V} (h : Sq K H a xs) (e : Kp [] H H') : Sq K H' a xs := h.imp (SqL.kp e) (SqT.kp e)
theorem RowsAt.kp {K : PySem.W.Frag} {H H' : Hp} {a : Addr} {fs : List File} (h : RowsAt K H a fs) (e : Kp [] H H') : RowsAt K H' a fs := by
  obtain ⟨rs, h1, h2, h3⟩ := h
  exact ⟨rs, Sq.kp h1 e, h2, fun r hr => (h3 r hr).kp e⟩
def TreeAt (K : PySem.W.Frag) (H : Hp) (a : Addr) (fs : List File) : Prop := ∃ (dx d : Addr) (ls : List (Addr × File)), H a = some (.ins (He.ga K "Tree") dx [("_files", .ref d)]) ∧
  H d = some (.dK (ls.map fun l => (Sum.inr l.2.1, V.ref l.1))) ∧ (∀ l ∈ ls, SqT K H l.1 (l.2.2.map V.str)) ∧ Once (ls.map Prod.snd) ∧ fs = sortF (ls.map Prod.snd)
theorem TreeAt.kp {K : PySem.W.Frag} {H H' : Hp} {a : Addr} {fs : List File} (h : TreeAt K H a fs) (e : Kp [] H H') : TreeAt K H' a fs := by
  obtain ⟨dx, d, ls, h1, h2, h3, h4, h5⟩ := h
  exact ⟨dx, d, ls, e.at0 h1, e.at0 h2, fun l hl => SqT.kp e (h3 l hl), h4, h5⟩
def dOfMd (C m q : Str) (st : Stmt) (ds : List He.Dv) : He.DefD := ⟨(C, some m), m, q, defArgs st, defBody st, defScope st, ds, []⟩
def BindD (m q : Str) (st : Stmt) (ps : List Str) (nd : Nat) : Prop := ∀ (T : Addr) (kV doc pm : Value) (an : Option Addr) (cdv ct : Value) (us its : List Value), us.length = ps.length → its.length = nd →
  ∃ k, bindArgs (PySem.W.fnOf m q (defArgs st) (defBody st) (defScope st) (.ref T) kV doc pm an cdv ct) ⟨us, []⟩ = seqItems? (.ref T) >>= k ∧ k (some its.toArray) = pure (ps.zip us)
section
variable {P : Program} {w : World} {K : PySem.W.Frag} {mg : Str → Option Value} {base : Heap}
theorem meth_ofXD {fa : List He.Fa} {fn : List He.DefD} {fx : List Fx} (T : Tx fa fn fx K mg) (i j : Nat) {C m q : Str} {st : Stmt} {N ps : List Str} {k : Nat} {sp : Sp} {ds : List He.Dv} (S : FnScope N ps (defScope st)) (B : BindD m q st ps ds.length) (hne : ds ≠ [])
    (len : ∀ vs H Q E, sp vs H Q E → vs.length = ps.length) (body : BodyMX P w K mg base C m q st N k sp) (hd : fn[i]? = some (dOfMd C m q st ds) := by rfl) (hg : fa[j]? = some (.meth C m) := by rfl) : MethAt P w K mg base (L2.CX P w) C m (k + 1) ps sp := by
  have me := He.meth_ok (T.fact j hg)
  obtain ⟨hp, X, G, c, _⟩ := T
  obtain ⟨fd, F⟩ := c.def_ i hd
  have hl : (ds.map (He.Dv.v K)).length = ds.length := List.length_map ..
  obtain ⟨vs, r, b⟩ := F.binds1 (ps := ps) ps.length ds.length (by intro z; exact hne (List.map_eq_nil_iff.mp z)) (by show ps.length + ((ds.map (He.Dv.v K)).length - ds.length) = ps.length; rw [hl]; omega) (fun T kV doc pm an cdv ct us its h1 h2 => by
    have h2 : its.length = ds.length := h2.trans hl
    obtain ⟨k, e1, e2⟩ := B T kV doc pm an cdv ct us its h1 h2
    exact ⟨k, e1, by rw [List.drop_of_length_le (by omega), List.append_nil]; exact e2⟩)
  have ev : vs = [] := by
    have : (ds.map (He.Dv.v K)).drop ds.length = [] := List.drop_of_length_le (by omega)
    have r' : Vals ((ds.map (He.Dv.v K)).drop ds.length) vs := r
    rw [this] at r'
    cases r'
    rfl
  subst ev
  exact ⟨me, fd, F.ok S len fun cdv A outer s H vs Q E hr h => body cdv A outer s H vs Q E h hr (takes_of rfl rfl rfl rfl), b⟩
end
end Sa

namespace Sa
open PySem PySem.Spec PyProof.Rows L2
open Sem (wp)
theorem meets_enum_new1 {v : Value} {o : Obj} {H : Heap → Prop} (B : Begins v o H) :
    Meets (Builtin.«enumerate.__new__» ⟨[.type "enumerate", v], []⟩) (fun _ R s => H s.heap ∧
      R (.ok (.ret (.ref (s.heap.push o).objs.size))) { s with heap := (s.heap.push o).push { cls := .type "enumerate", data := .fields #[.none, .bool false, .ref s.heap.objs.size, rawInt 0, .none, .none] } }) :=
  .of_wp fun prog w A R s h => by
    obtain ⟨hp, g, d, tk, os⟩ := s; obtain ⟨h1, h⟩ := h
    have hsub := sub_enumerate
    have q1 : ∀ {A' : Around} {E : Value → Shared → Prop} {Q : Value → Shared → Prop}, Q (.ref hp.objs.size) ⟨hp.push o, g, d, tk, os⟩ → wpAny (model prog w) A' (pyIter v) Q E ⟨hp, g, d, tk, os⟩ :=
      fun q => B.iter prog w _ _ ⟨hp, g, d, tk, os⟩ _ h1 q
    wp_walk using q1
    refine wpAny_stack_any fun st => wpAny_pure ?_
    split
    · rename_i c _ _ _ _ _
      cases (c == Value.type "enumerate")
      · wp_walk using q1
        exact ⟨_, rfl, h⟩
      · wp_walk using q1
        exact ⟨_, rfl, h⟩
    · wp_walk using q1
      exact ⟨_, rfl, h⟩
theorem call_enum1 {prog : Program} {w : World} {A : Around} {E : Value → Shared → Prop} {s : Shared} {v : Value} {o : Obj} {H : Heap → Prop} {Q : Value → Shared → Prop} (B : Begins v o H) (h1 : H s.heap)
    (h : ∀ h', IsEnum h' (s.heap.objs.size + 1) s.heap.objs.size 0 .none → h'.get? s.heap.objs.size = some o → h'.objs.size = s.heap.objs.size + 2 →
      (∀ b o, s.heap.get? b = some o → h'.get? b = some o) → Q (.ref (s.heap.objs.size + 1)) { s with heap := h' }) :
    wpAny (model prog w) A (call (.type "enumerate") [v]) Q E s := by
  refine callType_new F.called_enumerate (by decide) (F.typeCall_enumerate_1 _) (F.newCall_enumerate_1 _) (fun obj => F.args_object_init_2 obj _) F.entry_enumerate_new
    (meets_enum_new1 B) ⟨h1, ?_⟩
  have hz : (s.heap.push o).objs.size = s.heap.objs.size + 1 := Heap.size_push ..
  show _ ∧ _
  rw [hz]
  have he : IsEnum ((s.heap.push o).push { cls := .type "enumerate", data := .fields #[.none, .bool false, .ref s.heap.objs.size, rawInt 0, .none, .none] }) (s.heap.objs.size + 1) s.heap.objs.size 0 .none := by
    have := Heap.get?_push_size (s.heap.push o) (o := { cls := .type "enumerate", data := .fields #[.none, .bool false, .ref s.heap.objs.size, rawInt 0, .none, .none] }) rfl
    rw [hz] at this; exact this
  refine ⟨⟨_, he, rfl⟩, h _ he (Heap.get?_push_of_some _ (Heap.get?_push_size _ B.free)) (by rw [Heap.size_push, hz]) fun b o x => Heap.get?_push_of_some _ (Heap.get?_push_of_some _ x)⟩
theorem pyNext_enum_endT {prog : Program} {w : World} {A : Around} {E : Value → Shared → Prop} {s : Shared} {e it t : Addr} {j : Int} {i : Nat} {items : Array Value} {old : Value} {Q : Option Value → Shared → Prop} (hh : A.handled = none)
    (he : IsEnum s.heap e it j old) (hit : s.heap.IsTupleIter it t i) (ht : s.heap.IsTuple t items) (hx : items[i]? = none)
    (hQ : ∀ h', Heap.ExtBut it s.heap h' → Q none { s with heap := h' }) : wpAny (model prog w) A (pyNext (.ref e)) Q E s := by
  have hT : s.TypeIs (.ref e) "enumerate" := ⟨_, he, rfl⟩
  unfold pyNext
  refine wpAny_bind (wpAny_attempt (wpAny_callSpecial?_slot (name := Str.ofString "__next__") hT F.slot_enumerate_next
    (wpAny_call_entry F.slot_enumerate_next hT F.entry_enumerate_next ?_ (F.args_enumerate_next_1 _))))
  show wpAny _ _ (field (.ref e) 2 >>= _) _ _ _
  refine wpAny_bind (wpAny_field he rfl (x := .ref it) rfl ?_)
  refine wpAny_bind (wpAny_nextOf_tuple_end (A := A.in1) hh hit ht hx fun h' x he' hx' => ?_)
  obtain ⟨o, ho, hc⟩ := hx'
  refine wpAny_bind (wpAny_isInstance (T := "StopIteration") (b := true) ⟨o, ho, hc⟩ isSubtype_stop ?_)
  exact wpAny_pure (hQ _ he')
def Iet (K : PySem.W.Frag) (a : Addr) : It :=
  ⟨fun i H => ∃ (xs : List V) (x : V), SqT K H a xs ∧ xs[i]? = some x, fun i H v H' => ∃ T x, v = .ref T ∧ H T = none ∧ H' = upd H T (.tup [.int (i : Nat), x]) ∧ ∀ xs, SqT K H a xs → xs[i]? = some x, fun i H => ∃ xs : List V, SqT K H a xs ∧ xs.length ≤ i⟩
theorem turn_enumT {P : Program} {w : World} {K : PySem.W.Frag} {elts : List Expr} {kk : Nat} {tpos : Pos} (a e it : Addr) :
    Turn P w K (.Tuple elts kk tpos) (Iet K a) [e, it] e (fun i h => (∃ old, IsEnum h e it ((i : Nat) : Int) old) ∧ h.IsTupleIter it a i ∧ e ≠ it ∧ e ≠ a ∧ a ≠ it) where
  mem := by simp
  obj := fun i h st b hb => by
    obtain ⟨⟨old, he⟩, ⟨o, ho, hc, hd⟩, _⟩ := st
    have e' : b = e ∨ b = it := by simpa using hb
    rcases e' with z | z
    · rw [z]; exact ⟨_, he, fun v q => nomatch q⟩
    · rw [z]; exact ⟨o, ho, fun v q => by rw [hd] at q; cases q⟩
  keep := fun i h h' st k => let ⟨⟨old, he⟩, hi, hne⟩ := st; ⟨⟨old, k e (by simp) _ he⟩, hi.at fun o q => k it (by simp) o q, hne⟩
  item := by
    intro X hP hw hK hc i pins s σ H E I hf st hg
    subst hP hw hK
    obtain ⟨⟨old, he⟩, hit, hne, hea, hai⟩ := st
    obtain ⟨xs, x, hq, hx⟩ := hg
    obtain ⟨its, rv, p, hz⟩ := I.tuple hq
    have p' : s.heap.IsTuple a its.toArray := p
    obtain ⟨u, hu, ru⟩ := rv.get hx
    have hel : e < s.heap.objs.size := Heap.lt_size he
    have hil : it < s.heap.objs.size := by obtain ⟨_, q, _⟩ := hit; exact Heap.lt_size q
    have hi : i < its.toArray.size := by rw [List.size_toArray]; exact (List.getElem?_eq_some_iff.mp hu).1
    refine wpAny_pyNext_enum_itemD (fp := [it, a]) (Draws.tuple (A := X.A.in1) (I.ok.hd hc) it a hai its.toArray) he ⟨hit, p'⟩ hi hne (by simp [hne, hea]) fun x2 h' tk hx2 ho hit' hT hsz hk => ?_
    have ex : x2 = u := by
      have : its.toArray[i]? = some x2 := hx2
      rw [List.getElem?_toArray, hu] at this
      exact (Option.some.inj this).symm
    subst ex
    refine ⟨_, rfl, wpAny_letOwnedTupleGo_enum (s := { s with heap := h', toks := tk + 1 }) ho fun h'' he' sb => ?_⟩
    have hT2 : h''.get? s.heap.objs.size = some { cls := .type "tuple", data := .seq #[.int i tk, x2] } := (sb.2 _ (Nat.ne_of_gt hel)).trans hT
    have new : ObjOk X.prog X.w (upd H s.heap.objs.size (.tup [.int (i : Nat), x])) h'' s.heap.objs.size (.tup [.int (i : Nat), x]) :=
      ⟨by show 2 ≤ sizeLine; decide, [.int i tk, x2], .cons ⟨_, rfl⟩ (.cons ru .nil), ⟨_, hT2, rfl, _, rfl⟩⟩
    have I1 : Inv X pins σ (upd H s.heap.objs.size (.tup [.int (i : Nat), x])) { s with heap := h'', toks := tk + 1 } :=
      I.turnedNew (ch := [e, it]) (fun b ob hb q => (sb.2 b (fun z => hb (by simp [z]))).trans (hk b ob (fun z => hb (by simp [z])) (fun z => hb (by simp [z])) q)) hf (Nat.le_refl _) new
    refine ⟨.ref s.heap.objs.size, _, I1, rfl, ⟨_, x, rfl, I.hok.fresh (Nat.le_refl _), rfl, fun ys hy => by rw [I.tuple_inj hy hq]; exact hx⟩, ⟨⟨x2, ?_⟩, hit'.1.at fun o q => (sb.2 it (Ne.symm hne)).trans q, hne, hea, hai⟩, fun b hb => ?_⟩
    · have e1 : ((i + 1 : Nat) : Int) = (i : Int) + 1 := by omega
      rw [e1]; exact he'
    · have hb' : b < s.heap.objs.size := by
        have e' : b = e ∨ b = it := by simpa using hb
        rcases e' with z | z
        · rw [z]; exact hel
        · rw [z]; exact hil
      rw [upd_ne (Nat.ne_of_lt hb')]
      exact (hf b hb).1
  done := by
    intro X hP hw hK hc i pins s σ H E I hf st hg
    subst hP hw hK
    obtain ⟨⟨old, he⟩, hit, hne, hea, hai⟩ := st
    obtain ⟨xs, hq, hx⟩ := hg
    obtain ⟨its, rv, p, hz⟩ := I.tuple hq
    have p' : s.heap.IsTuple a its.toArray := p
    obtain ⟨f0, f1, f2, f3, f4, f5⟩ := hf it (by simp)
    have hl := rv.length
    exact pyNext_enum_endT (A := X.A) (I.ok.hd hc) he hit p' (by rw [List.getElem?_toArray]; exact List.getElem?_eq_none (by omega)) fun h' eb => ⟨rfl, I.turned (t' := s.toks) (fun b o hb e => eb b o hb e) f0 f1 f3 f4 f5⟩
  self := fun A i s Q E st h => let ⟨⟨_, he⟩, _⟩ := st; wpAny_pyIter_enum he h
def iEnumT (K : PySem.W.Frag) (ta : TA) : TI := fun σ H R => ta σ H fun vs H1 => ∃ a xs, vs = [.ref a] ∧ SqT K H1 a xs ∧ R (Iet K a) H1
theorem pi_enumT {X : Cx} {K : PySem.W.Frag} {e : Expr} {ta : TA} {p pos tpos : Pos} {elts : List Expr} {kk : Nat} (hg : Gl X "enumerate") (hm : X.mg "enumerate" = none) (ha : PA X [e] ta) (hK : X.K = K := by rfl) (hs : starEach [e] X.env = [(false, eval e X.env)] := by rfl) :
    PI X (.Tuple elts kk tpos) (.Call (.Name "enumerate" p) [e] [] pos) (iEnumT K ta) := by
  subst hK
  refine ⟨fun pins s σ H R I h => ?_⟩
  refine Call_ (ld_blt I hg hm boot_enumerate (PyProof.Rows.callWith_type1 (thn (ha.run pos pins s σ H _ I h) fun us s1 ⟨vs, H1, I1, r1, q1⟩ => ?_) hs rfl))
  obtain ⟨a, xs, ex, hq, q⟩ := q1
  subst ex
  cases r1 with
  | cons r rr =>
    cases rr
    cases r
    obtain ⟨its, rv, p', hz⟩ := I1.tuple hq
    have p2 : s1.heap.IsTuple a its.toArray := p'
    have ha1 : a < s1.heap.objs.size := by obtain ⟨_, q, _⟩ := p2; exact Heap.lt_size q
    refine call_enum1 (begins_tuple a its.toArray) p2 fun h' he hit hsz hk => wpAny_pyIter_enum he ?_
    have I2 : Inv X pins σ H1 { s1 with heap := h' } := I1.kept (t' := s1.toks) hk
    refine ⟨s1.heap.objs.size + 1, [s1.heap.objs.size + 1, s1.heap.objs.size], _, _, H1, rfl, I2, turn_enumT a (s1.heap.objs.size + 1) s1.heap.objs.size, ⟨⟨.none, he⟩, ⟨_, hit, rfl, rfl⟩, Nat.succ_ne_self _, Nat.ne_of_gt (Nat.lt_succ_of_lt ha1), Nat.ne_of_lt ha1⟩, fun b hb => ?_, q⟩
    have e' : b = s1.heap.objs.size + 1 ∨ b = s1.heap.objs.size := by simpa using hb
    have hle : s1.heap.objs.size ≤ b := by
      rcases e' with z | z
      · rw [z]; exact Nat.le_add_right _ _
      · rw [z]; exact Nat.le_refl _
    exact I1.fpOk hle (I1.hok.fresh hle)
theorem itn_et {K : PySem.W.Frag} {a : Addr} {α : Type} {ys : List α} {u : α → V} : Itn (Iet K a) ys.length (fun H => SqT K H a (ys.map u)) (fun i x H H' => ∃ T y, x = .ref T ∧ New H T (.tup [.int (i : Nat), u y]) H' ∧ ys[i]? = some y) where
  go := fun i H ok hi => ⟨_, u (ys[i]), ok, by rw [List.getElem?_map, List.getElem?_eq_getElem hi]; rfl⟩
  stop := fun i H ok hi => ⟨_, ok, by rw [List.length_map]; exact hi⟩
  yld := fun i H x H' ok hi y => by
    obtain ⟨T, x', h1, h2, h3, h4⟩ := y
    have := h4 _ ok
    rw [List.getElem?_map] at this
    obtain ⟨y, e1, e2⟩ := Option.map_eq_some_iff.mp this
    subst e2
    exact ⟨T, y, h1, ⟨h2, h3⟩, e1⟩
  kp := fun i x H H' h => by
    obtain ⟨T, y, _, N, _⟩ := h
    exact N.kp
section
variable {K : PySem.W.Frag} {σ : L2.St} {H : Hp} {Q : VK} {R : It → Hp → Prop} {ta : TA} {a b : Addr} {xs ys : List V} {s z : Str}
theorem c_enumT (h : ta σ H fun vs H1 => ∃ a xs, vs = [.ref a] ∧ SqT K H1 a xs ∧ R (Iet K a) H1) : iEnumT K ta σ H R := h
theorem c_slT {lo hi : Option Int} (h : SqT K H a xs) (q : ∀ p H', Kp [] H H' → SqT K H' p (cutL xs lo hi) → Q (.ref p) H') : rSlU K (.ref a) lo hi H Q := by
  refine .inr (.inr ⟨a, xs, rfl, h, fun hw => ?_, fun _ p hp => ?_⟩)
  · refine q a H Kp.refl ?_
    have e : cutL xs lo hi = xs := by
      unfold cutL
      rw [hw.1, hw.2, List.drop_zero, Nat.sub_zero, List.take_length]
    rw [e]; exact h
  · exact q p _ (Kp.new hp) (SqT.of upd_same)
theorem c_addT (ha : SqT K H a xs) (hb : SqT K H b ys) (hl : xs.length + ys.length ≤ sizeLine) (q : ∀ p H', Kp [] H H' → SqT K H' p (xs ++ ys) → Q (.ref p) H') : rAddU K (.ref a) (.ref b) H Q := by
  refine .inr (.inr (.inr ⟨a, b, xs, ys, rfl, rfl, ha, hb, hl, fun h => ?_, fun _ h => ?_, fun _ _ p hp => q p _ (Kp.new hp) (SqT.of upd_same)⟩))
  · subst h; exact q b H Kp.refl hb
  · subst h; exact q a H Kp.refl (by rw [List.append_nil]; exact ha)
theorem inV_str (s : Str) : ∀ ys : List Str, inV (.str s) (ys.map V.str) = decide (s ∈ ys)
  | [] => by simp [inV]
  | y :: r => by
    have ih := inV_str s r
    unfold inV at ih ⊢
    rw [List.map_cons, List.any_cons, ih]
    by_cases h : s = y
    · subst h; simp [eqV]
    · have h2 : y ≠ s := fun e => h e.symm
      simp [eqV, h, h2]
theorem flat_strs (ys : List Str) : (ys.map V.str).all flatV = true := by rw [List.all_eq_true]; intro v hv; obtain ⟨y, _, rfl⟩ := List.mem_map.mp hv; rfl
theorem c_inSs {ys : List Str} (h : SqL K H a (ys.map V.str) ∨ SqT K H a (ys.map V.str)) (q : Q (.bl (decide (s ∈ ys))) H) : rInU K (.str s) (.ref a) H Q :=
  .inr (.inr ⟨a, _, rfl, h, rfl, flat_strs ys, by rw [inV_str]; exact q⟩)
theorem c_notInSs {ys : List Str} (h : SqL K H a (ys.map V.str) ∨ SqT K H a (ys.map V.str)) (q : Q (.bl (!decide (s ∈ ys))) H) : rNotInU K (.str s) (.ref a) H Q :=
  .inr (.inr ⟨a, _, rfl, h, rfl, flat_strs ys, by rw [inV_str]; exact q⟩)
def occS (j i : Str) : Bool := !(Builtin.Str.occurrences j i 0 j.length 1).isEmpty
theorem c_inT (q : Q (.bl (occS z s)) H) : rInU K (.str s) (.str z) H Q := .inr (.inl ⟨s, z, rfl, rfl, q⟩)
end
end Sa

namespace Sa
open PySem L2
def Kt (H H' : Hp) : Prop := ∀ a xs, Rd H a (.tup xs) → Rd H' a (.tup xs)
section
variable {K : PySem.W.Frag} {H H' H1 H2 : Hp} {a b : Addr} {v : V} {xs : List V} {d e : PyData} {ds : List PyData} {o : HO}
theorem Kt.refl : Kt H H := fun _ _ h => h
theorem Kt.trans (e : Kt H H1) (f : Kt H1 H2) : Kt H H2 := fun a xs h => f a xs (e a xs h)
theorem Kp.kt (e : Kp [] H H') : Kt H H' := fun a xs h => rd_at (fun o ho => e.at0 ho) h
def NoT (H : Hp) (b : Addr) : Prop := ∀ xs, ¬ Rd H b (.tup xs)
theorem NoT.none (h : H b = none) : NoT H b := fun xs r => by rcases r with r | ⟨o, r⟩ <;> rw [h] at r <;> cases r
theorem NoT.lst {ys : List V} (h : H b = some (.lst ys)) : NoT H b := fun xs r => by rcases r with r | ⟨o, r⟩ <;> rw [h] at r <;> cases r
theorem NoT.dK {ys : List (Key × V)} (h : H b = some (.dK ys)) : NoT H b := fun xs r => by rcases r with r | ⟨o, r⟩ <;> rw [h] at r <;> cases r
theorem NoT.ins {C dx : Addr} {fs : List (Str × V)} (h : H b = some (.ins C dx fs)) : NoT H b := fun xs r => by rcases r with r | ⟨o, r⟩ <;> rw [h] at r <;> cases r
theorem NoT.of (h : H b = some o) (h1 : ∀ xs, o ≠ .tup xs) (h2 : ∀ u xs, o ≠ .frz u (.tup xs)) : NoT H b := fun xs r => by
  rcases r with r | ⟨u, r⟩ <;> rw [h] at r <;> injection r with r
  · exact h1 xs r
  · exact h2 u xs r
theorem Kt.upd1 (n : NoT H b) : Kt H (upd H b o) := fun a xs h => by
  by_cases hz : a = b
  · subst hz; exact absurd h (n xs)
  · exact rd_at (fun o ho => by rw [upd_ne hz]; exact ho) h
theorem Kp.kt1 (e : Kp [b] H H') (n : NoT H b) : Kt H H' := fun a xs h => by
  by_cases hz : a = b
  · subst hz; exact absurd h (n xs)
  · exact rd_at (fun o ho => e.at1 hz ho) h
theorem Bx.noT {d : Addr} (B : Bx H b d) : NoT H b := by
  obtain ⟨_, _, h, _⟩ := B.ex
  exact NoT.lst h
theorem Bx.kt {d : Addr} (B : Bx H b d) (e : Kp [b] H H') : Kt H H' := e.kt1 B.noT
theorem SqT.kt (e : Kt H H') (h : SqT K H a xs) : SqT K H' a xs := h.imp (e a xs) id
mutual
inductive Dt (K : PySem.W.Frag) (H : Hp) : V → PyData → Prop
  | non : Dt K H .non .none
  | bl (b : Bool) : Dt K H (.bl b) (.bool b)
  | int (i : Int) : Dt K H (.int i) (.int i)
  | str (x : Str) : Dt K H (.str x) (.str x)
  | tup {a : Addr} {xs : List V} {ds : List PyData} : SqT K H a xs → DtAll K H xs ds → Dt K H (.ref a) (.tuple ds)
inductive DtAll (K : PySem.W.Frag) (H : Hp) : List V → List PyData → Prop
  | nil : DtAll K H [] []
  | cons {v : V} {vs : List V} {d : PyData} {ds : List PyData} : Dt K H v d → DtAll K H vs ds → DtAll K H (v :: vs) (d :: ds)
end
mutual
theorem Dt.kt : ∀ {v : V} {d : PyData}, Kt H H' → Dt K H v d → Dt K H' v d
  | _, _, _, .non => .non
  | _, _, _, .bl b => .bl b
  | _, _, _, .int i => .int i
  | _, _, _, .str x => .str x
  | _, _, k, .tup h hs => .tup (SqT.kt k h) (DtAll.kt k hs)
theorem DtAll.kt : ∀ {vs : List V} {ds : List PyData}, Kt H H' → DtAll K H vs ds → DtAll K H' vs ds
  | _, _, _, .nil => .nil
  | _, _, k, .cons h hs => .cons (Dt.kt k h) (DtAll.kt k hs)
end
mutual
theorem Dt.dp : ∀ {v : V} {d : PyData}, Dt K H v d → Dp K H v d
  | _, _, .non => .non
  | _, _, .bl b => .bl b
  | _, _, .int i => .int i
  | _, _, .str x => .str x
  | _, _, .tup h hs => .tup h (DtAll.dp hs)
theorem DtAll.dp : ∀ {vs : List V} {ds : List PyData}, DtAll K H vs ds → DpAll K H vs ds
  | _, _, .nil => .nil
  | _, _, .cons h hs => .cons (Dt.dp h) (DtAll.dp hs)
end
mutual
def tupD : PyData → Bool
  | .none | .bool _ | .int _ | .str _ => true
  | .tuple ds => tupDs ds
  | .list _ | .dict _ => false
def tupDs : List PyData → Bool
  | [] => true
  | d :: ds => tupD d && tupDs ds
end
mutual
theorem Dt.of : ∀ {v : V} {d : PyData}, Dp K H v d → tupD d = true → Dt K H v d
  | _, _, .non, _ => .non
  | _, _, .bl b, _ => .bl b
  | _, _, .int i, _ => .int i
  | _, _, .str x, _ => .str x
  | _, _, .lst h hs, z => by unfold tupD at z; cases z
  | _, _, .tup h hs, z => .tup h (DtAll.of hs (by unfold tupD at z; exact z))
theorem DtAll.of : ∀ {vs : List V} {ds : List PyData}, DpAll K H vs ds → tupDs ds = true → DtAll K H vs ds
  | _, _, .nil, _ => .nil
  | _, _, .cons h hs, z => by
    unfold tupDs at z
    rw [Bool.and_eq_true] at z
    exact .cons (Dt.of h z.1) (DtAll.of hs z.2)
end
theorem Dt.kp (h : Dt K H v d) (e : Kp [] H H') : Dt K H' v d := Dt.kt e.kt h
theorem DtAll.kp (h : DtAll K H xs ds) (e : Kp [] H H') : DtAll K H' xs ds := DtAll.kt e.kt h
theorem dt_tup (h : Dt K H v (.tuple ds)) : ∃ a xs, v = .ref a ∧ SqT K H a xs ∧ DtAll K H xs ds := by
  cases h with
  | tup h1 h2 => exact ⟨_, _, rfl, h1, h2⟩
theorem dt_str {s : Str} (h : Dt K H v (.str s)) : v = .str s := by cases h; rfl
theorem dta_nil (h : DtAll K H xs []) : xs = [] := by cases h; rfl
theorem dta_cons (h : DtAll K H xs (d :: ds)) : ∃ v vs, xs = v :: vs ∧ Dt K H v d ∧ DtAll K H vs ds := by
  cases h with
  | cons h1 h2 => exact ⟨_, _, rfl, h1, h2⟩
theorem dta_strs : ∀ {ys : List Str} {xs : List V}, DtAll K H xs (ys.map PyData.str) → xs = ys.map V.str
  | [], xs, h => dta_nil h
  | y :: r, xs, h => by
    obtain ⟨v, vs, rfl, h1, h2⟩ := dta_cons h
    rw [dt_str h1, dta_strs h2]
    rfl
theorem dta_of_strs : ∀ ys : List Str, DtAll K H (ys.map V.str) (ys.map PyData.str)
  | [] => .nil
  | y :: r => .cons (.str y) (dta_of_strs r)
theorem dta_len : ∀ {ds : List PyData} {xs : List V}, DtAll K H xs ds → xs.length = ds.length
  | [], xs, h => by rw [dta_nil h]; rfl
  | d :: r, xs, h => by
    obtain ⟨v, vs, rfl, h1, h2⟩ := dta_cons h
    rw [List.length_cons, List.length_cons, dta_len h2]
theorem dta_app {ys : List V} {es : List PyData} : ∀ {xs : List V} {ds : List PyData}, DtAll K H xs ds → DtAll K H ys es → DtAll K H (xs ++ ys) (ds ++ es)
  | [], ds, h, g => by cases h; exact g
  | x :: r, ds, h, g => by
    cases h with
    | cons h1 h2 => exact .cons h1 (dta_app h2 g)
theorem dta_snoc {xs : List V} {ds : List PyData} (h : DtAll K H xs ds) (g : Dt K H v d) : DtAll K H (xs ++ [v]) (ds ++ [d]) := dta_app h (.cons g .nil)
def strsD (ys : List Str) : PyData := .tuple (ys.map PyData.str)
theorem dt_strs {ys : List Str} (h : SqT K H a (ys.map V.str)) : Dt K H (.ref a) (strsD ys) := .tup h (dta_of_strs ys)
theorem strsD_of {ys : List Str} (h : Dt K H v (strsD ys)) : ∃ a, v = .ref a ∧ SqT K H a (ys.map V.str) := by
  obtain ⟨a, xs, rfl, h1, h2⟩ := dt_tup h
  rw [dta_strs h2] at h1
  exact ⟨a, rfl, h1⟩
theorem strsD_at {ys : List Str} (h : Dt K H (.ref a) (strsD ys)) : SqT K H a (ys.map V.str) := by
  obtain ⟨b, e, h1⟩ := strsD_of h
  injection e with e
  subst e
  exact h1
end
def sortS (ys : List Str) : List Str := (sortF (ys.map fun y => (y, ()))).map Prod.fst
theorem map_fst (ys : List Str) : (ys.map fun y => (y, ())).map Prod.fst = ys := by rw [List.map_map]; exact List.map_id ys
theorem sortS_perm (ys : List Str) : (sortS ys).Perm ys := by
  have := (sortF_perm (ys.map fun y => (y, ()))).map Prod.fst
  rw [map_fst] at this
  exact this
theorem sortS_asc (ys : List Str) : (sortS ys).Pairwise leS := sortF_asc _
theorem sortS_of {ys zs : List Str} (h : ys.Perm zs) (hs : PyProof.Rows.sortedS ys = true) : ys = sortS zs := sorted_eq (h.trans (sortS_perm zs).symm) (sorted_pair hs) (sortS_asc zs)
theorem sortS_len (ys : List Str) : (sortS ys).length = ys.length := (sortS_perm ys).length_eq
theorem c_sortedS {K : PySem.W.Frag} {H : Hp} {Q : VK} {a : Addr} {xs : List Str} (h : SqL K H a (xs.map V.str)) (hl : xs.length < 64) (q : ∀ p H', New H p (.lst ((sortS xs).map V.str)) H' → Q (.ref p) H') : rSortedS K [.ref a] H Q :=
  ⟨a, xs, rfl, h, hl, fun ys p hp hs hf => by rw [sortS_of hp hs]; exact q p _ ⟨hf, rfl⟩⟩
section
variable {K : PySem.W.Frag} {σ : St} {H : Hp} {g : TG} {tt : TT} {te : TE} {n : Nat} {Q : VK} {vs : List Nat} {J : It} {ok : Hp → Prop} {Y : Nat → V → Hp → Hp → Prop}
theorem range_filter_succ (p : Nat → Bool) (i : Nat) : (List.range (i + 1)).filter p = (List.range i).filter p ++ (if p i = true then [i] else []) := by
  rw [List.range_succ, List.filter_append]
  congr 1
  by_cases h : p i = true <;> simp [h]
theorem lcQ_dt (I : Itn J n ok Y) (f : Nat → PyData) (p : Nat → Bool) (hz : n ≤ 16777216) (hok : ∀ H', Kp [] H H' → ok H')
    (hs : ∀ i x H' H'' R S, i < n → Kp [] H H' → Y i x H' H'' → (p i = true → ∀ v H4, Kp [] H'' H4 → Dt K H4 v (f i) → R v H4) → (p i = false → ∀ H4, Kp [] H'' H4 → S H4) → LcM g tt te vs σ R S x H'')
    (hd : ∀ Dl ws H', H Dl = none → Kp [] H H' → H' Dl = some (.lst ws) → DtAll K H' ws (((List.range n).filter p).map f) → Q (.ref Dl) H') : LcJ J g tt te vs σ H Q := by
  refine lcQ I (fun Dl i acc H' => Kp [] H H' ∧ DtAll K H' acc (((List.range i).filter p).map f)) (fun Dl hD => ⟨Kp.new hD, .nil⟩) (fun Dl i acc H' hD e => hok H' e.1) ?_ ?_
  · rintro Dl i x acc H' H'' hD hi hacc hl ⟨e, hds⟩ y
    have k := I.kp i x H' H'' y
    refine hs i x H' H'' _ _ hi e y (fun hp v H4 e4 hv => ?_) (fun hp H4 e4 => ?_)
    · have ha4 := e4.at0 (k.at0 hacc)
      have kt : Kt H4 (upd H4 Dl (.lst (acc ++ [v]))) := Kt.upd1 (NoT.lst ha4)
      refine lc_push ha4 hl (by omega) ⟨((e.trans k).trans e4).fresh_mut hD, ?_⟩
      rw [range_filter_succ, if_pos hp, List.map_append]
      exact dta_snoc (DtAll.kt ((k.kt.trans e4.kt).trans kt) hds) (Dt.kt kt hv)
    · have ha4 := e4.at0 (k.at0 hacc)
      refine lc_skip ha4 hl ⟨(e.trans k).trans e4, ?_⟩
      rw [range_filter_succ, hp, if_neg Bool.false_ne_true, List.append_nil]
      exact DtAll.kt (k.kt.trans e4.kt) hds
  · rintro Dl acc H' hD hacc hl ⟨e, hds⟩
    exact hd Dl acc H' hD e hacc hds
theorem lcQ_fil (I : Itn J n ok Y) (f : Nat → V) (p : Nat → Bool) (hz : n ≤ 16777216) (hok : ∀ H', Kp [] H H' → ok H')
    (hs : ∀ i x H' H'' R S, i < n → Kp [] H H' → Y i x H' H'' → (p i = true → ∀ H4, Kp [] H'' H4 → R (f i) H4) → (p i = false → ∀ H4, Kp [] H'' H4 → S H4) → LcM g tt te vs σ R S x H'')
    (hd : ∀ Dl H', H Dl = none → Kp [] H H' → H' Dl = some (.lst (((List.range n).filter p).map f)) → Q (.ref Dl) H') : LcJ J g tt te vs σ H Q := by
  refine lcQ I (fun Dl i acc H' => Kp [] H H' ∧ acc = ((List.range i).filter p).map f) (fun Dl hD => ⟨Kp.new hD, rfl⟩) (fun Dl i acc H' hD e => hok H' e.1) ?_ ?_
  · rintro Dl i x acc H' H'' hD hi hacc hl ⟨e, rfl⟩ y
    have k := I.kp i x H' H'' y
    refine hs i x H' H'' _ _ hi e y (fun hp H4 e4 => ?_) (fun hp H4 e4 => ?_)
    · refine lc_push (e4.at0 (k.at0 hacc)) hl (by omega) ⟨((e.trans k).trans e4).fresh_mut hD, ?_⟩
      rw [range_filter_succ, if_pos hp, List.map_append]
      rfl
    · refine lc_skip (e4.at0 (k.at0 hacc)) hl ⟨(e.trans k).trans e4, ?_⟩
      rw [range_filter_succ, hp, if_neg Bool.false_ne_true, List.append_nil]
  · rintro Dl acc H' hD hacc hl ⟨e, rfl⟩
    exact hd Dl H' hD e hacc
end
section
variable {X : Cx} {H : Hp} {Q : VK} {s z : Str} {to te : TE} {o e : Expr}
def rPartU : V → List V → Hp → VK → Prop := fun x xs H Q => ∃ a b, x = .str a ∧ xs = [.str b] ∧ (b.length == 0) = false ∧ a.length ≤ sizeLine ∧
  ∀ p, H p = none → Q (.ref p) (upd H p (.tup [.str (Txt.partition a b).1, .str (Txt.partition a b).2.1, .str (Txt.partition a b).2.2]))
theorem pe_partitionU {apos pos : Pos} (ho : PE X o to) (he : PE X e te) (hs : starEach [e] X.env = [(false, eval e X.env)] := by rfl) (hbase : attributeBase o "partition" X.env (eval o X.env) = eval o X.env := by rfl) (hline : (apos.endLine == pos.line) = true := by rfl) :
    PE X (.Call (.Attribute o "partition" apos) [e] [] pos) (tM1 rPartU to te) := pe_partition ho he hs hbase hline
theorem c_parti (h0 : (z.length == 0) = false) (hl : s.length ≤ sizeLine) (q : ∀ p H', New H p (.tup [.str (Txt.partition s z).1, .str (Txt.partition s z).2.1, .str (Txt.partition s z).2.2]) H' → Q (.ref p) H') : rPartU (.str s) [.str z] H Q :=
  ⟨s, z, rfl, rfl, h0, hl, fun p hp => q p _ ⟨hp, rfl⟩⟩
theorem cutS_len (x : Str) (lo hi : Option Int) : (cutS x lo hi).length ≤ x.length := by
  rw [txt_of x, cutS_txt, txt_len, txt_len, List.length_take, List.length_drop]
  omega
end
end Sa

namespace Sa
open PySem L2
section
variable {K : PySem.W.Frag} {H H' H1 : Hp} {d a : Addr} {u : HO} {od : Obj} {kvs : List (Key × V)}
theorem lock_kp (h : H d = some u) (e : Kp [] (upd H d (.frz od u)) H') : Kp [] H (upd H' d u) := fun b o _ hb => by
  by_cases z : b = d
  · subst z; rw [upd_same, ← hb, h]
  · rw [upd_ne z]; exact e.at0 (by rw [upd_ne z]; exact hb)
theorem lock_kpm {b : Addr} (h : H d = some u) (n : d ≠ b) (e : Kp [b] (upd H d (.frz od u)) H') : Kp [b] H (upd H' d u) := fun c o hc hb => by
  by_cases z : c = d
  · subst z; rw [upd_same, ← hb, h]
  · rw [upd_ne z]; exact e c o hc (by rw [upd_ne z]; exact hb)
theorem itn_k {α : Type} {ys : List α} {f : α → Key} {g : α → V} : Itn (Itk d od (ys.map fun y => (f y, g y))) ys.length (fun H => H d = some (.frz od (.dK (ys.map fun y => (f y, g y))))) (Yq ys fun y => kV (f y)) where
  go := fun i H ok hi => ⟨ok, by rw [List.length_map]; exact hi⟩
  stop := fun i H ok hi => ⟨ok, by rw [List.length_map]; exact hi⟩
  yld := fun i H x H' ok hi y => by
    obtain ⟨e, k, v, h1, h2⟩ := y
    rw [List.getElem?_map] at h1
    obtain ⟨z, hz, e2⟩ := Option.map_eq_some_iff.mp h1
    injection e2 with e3 e4
    exact ⟨e, z, hz, by rw [h2, ← e3]⟩
  kp := fun i x H H' h => by rw [h.1]; exact Kp.refl
theorem Kt.lock {kvs : List (Key × V)} (h : H d = some (.dK kvs)) : Kt H (upd H d (.frz od (.dK kvs))) := Kt.upd1 (NoT.dK h)
theorem c_lockF {t : TS} {D : Ends} {σ : St} {kvs : List (Key × V)} (h : H d = some (.dK kvs)) (q : ∀ od, t ⟨fun σ' H' => H' d = some (.frz od (.dK kvs)) ∧ D.nx σ' (upd H' d (.dK kvs)), fun v H' => H' d = some (.frz od (.dK kvs)) ∧ D.rt v (upd H' d (.dK kvs)),
    fun σ' H' => H' d = some (.frz od (.dK kvs)) ∧ D.bk σ' (upd H' d (.dK kvs)), fun σ' H' => H' d = some (.frz od (.dK kvs)) ∧ D.ct σ' (upd H' d (.dK kvs))⟩ σ (upd H d (.frz od (.dK kvs)))) : tLock t D σ H := ⟨d, .dK kvs, h, trivial, q⟩
theorem c_iKeys {td : TE} {R : It → Hp → Prop} {σ : St} (h : td σ H fun x H1 => ∃ d o, x = .ref d ∧ ((∃ kvs, H1 d = some (.frz o (.dK kvs)) ∧ R (Itk d o kvs) H1) ∨ ∃ kvs, H1 d = some (.frz o (.dT kvs)) ∧ R (Itkt d o kvs) H1)) : iKeys td σ H R := h
theorem c_keysAt {g : TG} {tb : TS} {D : Ends} {σ : St} {od : Obj} {kvs : List (Key × V)} (h : H d = some (.frz od (.dK kvs))) (q : ForJ (Itk d od kvs) g tb D σ H) :
    ∃ d' o, V.ref d = .ref d' ∧ ((∃ kvs, H d' = some (.frz o (.dK kvs)) ∧ ForJ (Itk d' o kvs) g tb D σ H) ∨ ∃ kvs, H d' = some (.frz o (.dT kvs)) ∧ ForJ (Itkt d' o kvs) g tb D σ H) := ⟨d, od, rfl, .inl ⟨kvs, h, q⟩⟩
theorem c_keysAtC {g : TG} {tt : TT} {te : TE} {vs : List Nat} {Q : VK} {σ : St} {od : Obj} {kvs : List (Key × V)} (h : H d = some (.frz od (.dK kvs))) (q : LcJ (Itk d od kvs) g tt te vs σ H Q) :
    ∃ d' o, V.ref d = .ref d' ∧ ((∃ kvs, H d' = some (.frz o (.dK kvs)) ∧ LcJ (Itk d' o kvs) g tt te vs σ H Q) ∨ ∃ kvs, H d' = some (.frz o (.dT kvs)) ∧ LcJ (Itkt d' o kvs) g tt te vs σ H Q) := ⟨d, od, rfl, .inl ⟨kvs, h, q⟩⟩
def DinK (neg : Bool) (x y : V) (H : Hp) (Q : VK) : Prop := ∃ a o, x = .ref a ∧ DGet H a y o ∧ Q (.bl (if neg then !o.isSome else o.isSome)) H
theorem c_din {ty td : TE} {σ : St} {Q : VK} (h : ty σ H fun y H1 => td σ H1 fun x H2 => DinK false x y H2 Q) : tDIn ty td σ H Q := h
theorem c_dnotin {ty td : TE} {σ : St} {Q : VK} (h : ty σ H fun y H1 => td σ H1 fun x H2 => DinK true x y H2 Q) : tDNotIn ty td σ H Q := h
def DGetK (x y : V) (H : Hp) (Q : VK) : Prop := ∃ a v, x = .ref a ∧ DGet H a y (some v) ∧ Q v H
theorem c_dgetK {H : Hp} {td ty : TE} {σ : St} {Q : VK} (h : td σ H fun x H1 => ty σ H1 fun y H2 => DGetK x y H2 Q) : tDGet td ty σ H Q := h
theorem c_dput {td ty tv : TE} {D : Ends} {σ : St} (h : tv σ H fun v H1 => td σ H1 fun x H2 => ty σ H2 fun y H3 => ∃ a H4, x = .ref a ∧ DPut H3 a y v H4 ∧ D.nx σ H4) : sDPut td ty tv D σ H := h
theorem c_dputAt {v : V} {k : Str} {kvs : List (Key × V)} {R : Hp → Prop} (h : H d = some (.dK kvs)) (hl : kvs.length < sizeLine) (q : R (upd H d (.dK (putK kvs (Sum.inr k) v)))) : ∃ a H4, V.ref d = .ref a ∧ DPut H a (.str k) v H4 ∧ R H4 := ⟨d, _, rfl, .inl ⟨kvs, Sum.inr k, h, rfl, hl, rfl⟩, q⟩
theorem c_dnew {Q : VK} {σ : St} (q : ∀ p H', New H p (.dK []) H' → Q (.ref p) H') : tDNewK σ H Q := fun p hp => q p _ ⟨hp, rfl⟩
theorem c_pNil {σ : St} {Q : List (V × V) → Hp → Prop} (h : Q [] H) : tPairs [] σ H Q := h
theorem c_pCons {tk tv : TE} {r : List (TE × TE)} {σ : St} {Q : List (V × V) → Hp → Prop} (h : tk σ H fun x H1 => tv σ H1 fun y H2 => tPairs r σ H2 fun ps H3 => Q ((x, y) :: ps) H3) : tPairs ((tk, tv) :: r) σ H Q := h
theorem c_neLS {K : PySem.W.Frag} {Q : VK} {a b : Addr} {ys zs : List Str} (ha : SqL K H a (ys.map V.str)) (hb : SqL K H b (zs.map V.str)) (h1 : ∀ y ∈ ys, okS y = true) (h2 : ∀ y ∈ zs, okS y = true) (q : Q (.bl (!decide (ys = zs))) H) : rNeU K (.ref a) (.ref b) H Q :=
  c_neD (dp_strs ha) (dp_strs hb) (shaped_strsL h1) (shaped_strsL h2) (by rw [PyData.eqv, eqvAll_strs]; exact q)
end
end Sa

namespace Sa
open PySem L2
def BindD0 (m q : Str) (st : Stmt) (ps : List Str) : Prop := ∀ (T : Addr) (kV doc pm : Value) (an : Option Addr) (cdv ct : Value) (us its : List Value), us.length = 1 → its.length = 1 →
  ∃ k, bindArgs (PySem.W.fnOf m q (defArgs st) (defBody st) (defScope st) (.ref T) kV doc pm an cdv ct) ⟨us, []⟩ = seqItems? (.ref T) >>= k ∧ k (some its.toArray) = pure (ps.zip (us ++ its))
structure MethD (P : Program) (w : World) (K : PySem.W.Frag) (mg : Str → Option Value) (base : Heap) (CX : CXT) (C m : Str) (k : Nat) (ps : List Str) (sp : Sp) (dv : V) : Prop where
  me : Meth K (He.ga K C) m (He.ma K (He.ga K C) m)
  ok : ∃ fd u, FnOk P w K mg base CX k (He.ma K (He.ga K C) m) fd ps sp ∧ Binds K fd ps [u] ∧ RelV dv u
section
variable {P : Program} {w : World} {K : PySem.W.Frag} {mg : Str → Option Value} {base : Heap}
theorem Tx.cstA {fa : List He.Fa} {fn : List He.DefD} {fx : List Fx} (T : Tx fa fn fx K mg) (i : Nat) {p : PySem.W.Frag → Addr} {d : PyData} (h : fx[i]? = some (.cstA p d)) (H : Hp) : Dp K H (.ref (p K)) d := cst_ref (T.fx i h) H
theorem meth_ofXD0 {fa : List He.Fa} {fn : List He.DefD} {fx : List Fx} (T : Tx fa fn fx K mg) (i j : Nat) {C m q : Str} {st : Stmt} {N ps : List Str} {k : Nat} {sp : Sp} {d : He.Dv} (S : FnScope N ps (defScope st)) (B : BindD0 m q st ps) (h2 : ps.length = 2)
    (len : ∀ vs H Q E, sp vs H Q E → vs.length = ps.length) (body : BodyMX P w K mg base C m q st N k sp) (hd : fn[i]? = some (dOfMd C m q st [d]) := by rfl) (hg : fa[j]? = some (.meth C m) := by rfl) : MethD P w K mg base (L2.CX P w) C m (k + 1) ps sp (He.Dv.v K d) := by
  have me := He.meth_ok (T.fact j hg)
  obtain ⟨hp, X, G, c, _⟩ := T
  obtain ⟨fd, F⟩ := c.def_ i hd
  obtain ⟨vs, r, b⟩ := F.binds1 (ps := ps) 1 0 (List.cons_ne_nil _ _) (by show 1 + (1 - 0) = ps.length; rw [h2]) (fun T kV doc pm an cdv ct us its h1 h2 => by
    obtain ⟨k, e1, e2⟩ := B T kV doc pm an cdv ct us its h1 h2
    exact ⟨k, e1, e2⟩)
  have r' : Vals [He.Dv.v K d] vs := r
  cases r' with
  | cons r1 r2 =>
    cases r2
    exact ⟨me, fd, _, F.ok S len fun cdv A outer s H vs Q E hr h => body cdv A outer s H vs Q E h hr (takes_of rfl rfl rfl rfl), b, r1⟩
end
def tNewD (K : PySem.W.Frag) (C : Str) (sp : Sp) (dv : V) (E : St → XK) : TE := fun σ H Q => NewK K C sp [dv] H Q (E σ)
theorem c_newD {K : PySem.W.Frag} {C : Str} {sp : Sp} {dv : V} {E : St → XK} {σ : St} {H : Hp} {Q : VK} (h : NewK K C sp [dv] H Q (E σ)) : tNewD K C sp dv E σ H Q := h
section
variable {X : Cx} {CX : CXT} {K : PySem.W.Frag} {C : Str} {k j : Nat} {ps : List Str} {sp : Sp} {dv : V} {E : St → XK} {p pos : Pos}
theorem pe_newD (M : MethD X.prog X.w X.K X.mg X.base CX C "__init__" j ps sp dv) (mk : Mk X.K (He.ga X.K C) (He.ma X.K (He.ga X.K C) "__init__")) (c : ClsAt X.K X.mg C) (hr : Room (k + 1) X.A) (hx : ∀ σ, PassesAt CX X σ (E σ))
    (hjk : j ≤ k := by decide) (hK : X.K = K := by rfl) (hg : Gl X C := by rfl)
    (hdb : (C == ("__debug__" : Str)) = false := by decide) :
    PE X (.Call (.Name C p) [] [] pos) (tNewD K C sp dv E) := by
  subst hK
  obtain ⟨fd, u0, F0, B, rd⟩ := M.ok
  have F := F0.mono hjk
  refine ⟨fun pins s σ H Q I q => ?_⟩
  refine wpAny_Call_Name_kw (ld_glob I hg c.gl ?_ hdb)
  refine PySem.W.callWith_K0 I.kIn mk.kp ?_
  have hq := q (s.heap.objs.size + 1) s.heap.objs.size (I.hok.fresh (Nat.le_succ _)) (I.hok.fresh (Nat.le_refl _)) (Nat.ne_of_lt (Nat.lt_succ_self _))
  have I2 := Inv.made (C := He.ga X.K C) I
  have r2 : Vals [V.ref (s.heap.objs.size + 1), dv] [Value.ref (s.heap.objs.size + 1), u0] := .cons rfl (.cons rd .nil)
  have hl : ([Value.ref (s.heap.objs.size + 1)] ++ [u0]).length = ps.length := by
    have := F.len _ _ _ _ hq
    rw [← this]
    rfl
  have b := B _ [Value.ref (s.heap.objs.size + 1)] I2.kIn hl
  refine wpAny_call (make_map (f := He.ma X.K (He.ga X.K C) "__init__") I.kIn mk.makes mk.init (beq_iff_eq.mp mk.fn) (codeAny_mono (F.run _ X.stack _ _ ⟨[Value.ref (s.heap.objs.size + 1)], []⟩ [Value.ref (s.heap.objs.size + 1), u0] _ _ (E σ)
    (hr.make (He.ga X.K C) [] []) (I2.env0.make (He.ga X.K C) [] []) b r2 hq) fun rr s' hq' => ?_))
  cases rr with
  | error er => exact hx σ pins _ _ er s' I2 hq'
  | ok fl =>
    cases fl with
    | ret u =>
      obtain ⟨v, H', I3, rv, ev, q3⟩ := I2.after hq'
      subst ev
      exact ⟨rv, ⟨V.ref (s.heap.objs.size + 1), H', I3, rfl, q3⟩⟩
    | next => exact False.elim hq'
    | brk => exact False.elim hq'
    | cont => exact False.elim hq'
end
end Sa

namespace Sa
open PySem L2
structure ExcO (K : PySem.W.Frag) (mg : Str → Option Value) (x : Str) : Prop where
  gl : mg x = some (.ref (He.ga K x))
  ex : PySem.W.excIn K (He.ga K x) He.veBase "ValueError.__new__" = true
  kp : PySem.W.keepIn K (.ref (He.ga K x)) = true
  sb : PySem.W.subIn K (.ref (He.ga K x)) (.type "BaseException") = some true
  ty : PySem.W.typeIn K (.ref (He.ga K x)) = some (.type "type")
theorem Tx.exo {fa : List He.Fa} {fn : List He.DefD} {fx : List Fx} {K : PySem.W.Frag} {mg : Str → Option Value} (T : Tx fa fn fx K mg) (i j : Nat) {x : Str} (h : fa[i]? = some (.glo x) := by rfl) (h2 : fa[j]? = some (.exc x) := by rfl) : ExcO K mg x := by
  obtain ⟨a, b, c, d⟩ := He.exc_ok (T.fact j h2)
  exact ⟨T.glo i h, a, b, c, d⟩
def tRaiseO (K : PySem.W.Frag) (x : Str) (W : WX) : TS := fun _ σ H => W (.ref (He.ga K x)) none σ H
theorem c_raiseO {K : PySem.W.Frag} {x : Str} {W : WX} {D : Ends} {σ : St} {H : Hp} (h : W (.ref (He.ga K x)) none σ H) : tRaiseO K x W D σ H := h
theorem exiB_ok {K : PySem.W.Frag} {D : Addr} (h : exiB K D = true) : ExcC K D := by
  unfold exiB at h
  simp only [Bool.and_eq_true, decide_eq_true_eq] at h
  obtain ⟨h1, h2, h3, h4, h5, h6, h7, h8⟩ := h
  exact ⟨h1, h2, h3, h4, h5, h6, h7, h8⟩
theorem Tx.exi {fa : List He.Fa} {fn : List He.DefD} {fx : List Fx} {K : PySem.W.Frag} {mg : Str → Option Value} (T : Tx fa fn fx K mg) (i : Nat) {x : Str} (h : fx[i]? = some (.exi x) := by rfl) : ExcC K (He.ga K x) := exiB_ok (T.fx i h)
theorem Tx.kit {fa : List He.Fa} {fn : List He.DefD} {fx : List Fx} {K : PySem.W.Frag} {mg : Str → Option Value} (T : Tx fa fn fx K mg) (i : Nat) {x y : Str} {b : Bool} (h : fx[i]? = some (.kit x y b) := by rfl) : PySem.W.kitOne K (.ref (He.ga K x)) (.ref (He.ga K y)) = some b := of_decide_eq_true (T.fx i h)
end Sa

namespace Sa
open PySem L2 PySem.Spec PyProof.Rows
section
variable {X : Cx} {K : PySem.W.Frag} {o e : Expr} {to te : TE} {apos cpos : Pos}
end
end Sa

namespace Sa
open PySem L2 PyProof.Rows
section
variable {H : Hp} {Q : VK} {a b : Bool}
end
end Sa
namespace Sa.Kis
open PySem PySem.W PySem.Spec PySem.Calls PyProof.Rows L2
variable {K : Frag} {D x : Addr} {od : Option Obj} {ox : Obj}
end Sa.Kis
namespace Sa
open PySem L2
end Sa

namespace Sa.Srt
open PySem PySem.W PySem.Calls PyProof.Rows
section
variable {prog : Program} {w : World} {A : Around} {E : Value → Shared → Prop} {s : Shared}
end
end Sa.Srt
namespace Sa
open PySem L2 PySem.W PyProof.Rows
section
variable {X : Cx} {pins : List (Addr × Obj)} {σ : L2.St} {H : Hp} {s : Shared}
end
section
variable {X : Cx} {K : PySem.W.Frag} {H : Hp} {Q : VK} {σ : L2.St} {e : Expr} {te : TE} {k : Nat} {p1 p2 p3 pos : Pos}
end
end Sa
namespace Sa
open PySem L2 PyProof.Rows
end Sa

namespace Sa
open PySem L2 PySem.Spec PyProof.Rows
theorem Tx.gaeq {fa : List He.Fa} {fn : List He.DefD} {fx : List Fx} {K : PySem.W.Frag} {mg : Str → Option Value} (T : Tx fa fn fx K mg) (i : Nat) {x y : Str} (h : fx[i]? = some (.gaeq x y) := by rfl) : He.ga K x = He.ga K y := of_decide_eq_true (T.fx i h)
section
variable {X : Cx} {K : PySem.W.Frag} {o e : Expr} {to te : TE} {apos cpos : Pos}
end
theorem pe_dpopU {X : Cx} {o e : Expr} {apos cpos : Pos} {td ty : TE} (ho : PE X o td) (he : PE X e ty) (hb : attributeBase o "pop" X.env (eval o X.env) = eval o X.env := by rfl)
    (hf : ((backTo cpos (starEach [e] X.env)).all (fun x => !x.1) && (backToKw cpos (keywordEach [] X.env)).all (fun x => x.1.isSome) && decide (([e] : List Expr).length + ([] : List Keyword).length + (if ([] : List Keyword).isEmpty then 0 else 1) < 30)) = true := by rfl)
    (hl : (apos.endLine == cpos.line) = true := by rfl) (ht : backTo cpos (starEach [e] X.env) = [(false, eval e X.env)] := by rfl) : PE X (.Call (.Attribute o "pop" apos) [e] [] cpos) (tDPop1 td ty) := pe_dpop1 ho he ⟨hb, hf, hl, ht⟩
theorem c_dpop1 {td ty : TE} {σ : L2.St} {H : Hp} {Q : VK} (h : td σ H fun x H1 => ∃ a, x = .ref a ∧ IsD H1 a ∧ ty σ H1 fun y H2 => ∃ kvs k v, H2 a = some (.dK kvs) ∧ y = kV k ∧ valV kvs k = some v ∧ Q v (upd H2 a (.dK (dropK kvs k)))) : tDPop1 td ty σ H Q := h
end Sa

namespace Sa
open PySem L2
def spInit3 (K : PySem.W.Frag) (C : Addr) (f g h : Str) : Sp := fun vs H Q _ => ∃ (a : Addr) (u v w : V), vs = [.ref a, u, v, w] ∧ H a = some (exo a C none) ∧ ∀ dx, H dx = none → dx ≠ a →
  Q .non (upd (upd (upd (upd H dx (exd dx [(f, u)])) a (exo a C (some dx))) dx (exd dx [(g, v), (f, u)])) dx (exd dx [(h, w), (g, v), (f, u)]))
structure ErrC3 (P : Program) (w : World) (K : PySem.W.Frag) (mg : Str → Option Value) (base : Heap) (x f g h : Str) : Prop where
  gl : mg x = some (.ref (He.ga K x))
  cls : OexC K (He.ga K x)
  xf : XfC K (He.ga K x)
  nof : PySem.W.findIn K (.ref (He.ga K x)) f = some none
  nog : PySem.W.findIn K (.ref (He.ga K x)) g = some none
  noh : PySem.W.findIn K (.ref (He.ga K x)) h = some none
  ok : ∃ ps, MethAt P w K mg base CX0 x "__init__" 2 ps (spInit3 K (He.ga K x) f g h)
def RaiseK3 (K : PySem.W.Frag) (x f g h : Str) (vs : List V) (H1 : Hp) (Q : XK) : Prop := vs.length ≤ 1000 ∧ ∀ a, H1 a = none → spInit3 K (He.ga K x) f g h (.ref a :: (vs ++ [])) (upd H1 a (exo a (He.ga K x) none))
  (fun v H2 => v = .non ∧ ∃ (d : Addr) (fs : List (Str × V)), H2 a = some (exo a (He.ga K x) (some d)) ∧ H2 d = some (exd d fs) ∧ H1 d = none ∧ Q (.ref (He.ga K x)) (some d) (upd (del H2 a) d (.xd fs))) (fun _ _ _ => False)
def tMkE3 (K : PySem.W.Frag) (x f g h : Str) (t : TA) : St → Hp → XK → Prop := fun σ H Q => t σ H fun vs H1 => RaiseK3 K x f g h vs H1 Q
def tRaiseE3 (K : PySem.W.Frag) (x f g h : Str) (W : WX) (t : TA) : TS := fun _ σ H => t σ H fun vs H1 => RaiseK3 K x f g h vs H1 fun cls d H' => W cls d σ H'
theorem c_err3 {K : PySem.W.Frag} {x f g h : Str} {u v w : V} {H1 : Hp} {Q : XK} (q : ∀ d H', New H1 d (.xd [(h, w), (g, v), (f, u)]) H' → Q (.ref (He.ga K x)) (some d) H') : RaiseK3 K x f g h [u, v, w] H1 Q := by
  refine ⟨by simp, fun a ha => ⟨a, u, v, w, rfl, upd_same, fun dx hdx hne => ⟨rfl, dx, [(h, w), (g, v), (f, u)], ?_, upd_same, ?_, ?_⟩⟩⟩
  · rw [upd_ne hne.symm, upd_ne hne.symm, upd_same]
  · rw [upd_ne hne] at hdx
    exact hdx
  · have hd1 : H1 dx = none := by rw [upd_ne hne] at hdx; exact hdx
    have e : upd (del (upd (upd (upd (upd (upd H1 a (exo a (He.ga K x) none)) dx (exd dx [(f, u)])) a (exo a (He.ga K x) (some dx))) dx (exd dx [(g, v), (f, u)])) dx (exd dx [(h, w), (g, v), (f, u)])) a) dx (.xd [(h, w), (g, v), (f, u)]) =
        upd H1 dx (.xd [(h, w), (g, v), (f, u)]) := by
      funext b
      by_cases h1 : b = dx
      · rw [h1, upd_same, upd_same]
      · rw [upd_ne h1, upd_ne h1]
        by_cases h2 : b = a
        · rw [h2, del_same, ha]
        · rw [del_ne h2, upd_ne h1, upd_ne h1, upd_ne h2, upd_ne h1, upd_ne h2]
    rw [e]
    exact q dx _ ⟨hd1, rfl⟩
theorem c_raiseE3 {K : PySem.W.Frag} {x f g h : Str} {W : WX} {t : TA} {D : Ends} {σ : St} {H : Hp} (hh : t σ H fun vs H1 => RaiseK3 K x f g h vs H1 fun cls d H' => W cls d σ H') : tRaiseE3 K x f g h W t D σ H := hh
section
variable {X : Cx} {x f g h : Str} {k : Nat} {W : WX} {p pos pos2 : Pos} {e : Expr} {es : List Expr} {t : TA}
theorem pmk_err3 {K : PySem.W.Frag} (T : ErrC3 X.prog X.w X.K X.mg X.base x f g h) (hr : Room k X.A) (ha : PA X (e :: es) t) (hk : 3 ≤ k := by decide) (hK : X.K = K := by rfl) (hg : Gl X x := by rfl)
    (hdb : (x == ("__debug__" : Str)) = false := by decide) (he : starEach (e :: es) X.env = (false, eval e X.env) :: starEach es X.env := by rfl) (hpl : (backTo pos (starEach es X.env)).any (·.1) = false := by rfl) :
    PMk X (.Call (.Name x p) (e :: es) [] pos) (tMkE3 K x f g h t) := by
  subst hK
  obtain ⟨ps, M⟩ := T.ok
  obtain ⟨fd, F, B⟩ := M.ok
  have fnT : PySem.W.typeIn X.K (.ref (He.ma X.K (He.ga X.K x) "__init__")) = some (.type "function") := eq_of_beq M.me.fn
  exact pmk_oex (p := p) T.cls M.me.at_ fnT F (hr.mono hk) B .nil (fun _ _ _ _ _ _ _ h => h.elim) hg T.gl ha hdb he hpl
theorem ps_raiseE3 {K : PySem.W.Frag} (T : ErrC3 X.prog X.w X.K X.mg X.base x f g h) (hr : Room k X.A) (tk : Takes X W) (ha : PA X (e :: es) t) (hk : 3 ≤ k := by decide) (hK : X.K = K := by rfl) (hg : Gl X x := by rfl) (hc : X.calm = true := by rfl)
    (hdb : (x == ("__debug__" : Str)) = false := by decide) (he : starEach (e :: es) X.env = (false, eval e X.env) :: starEach es X.env := by rfl) (hpl : (backTo pos (starEach es X.env)).any (·.1) = false := by rfl) :
    PS X (.Raise (some (.Call (.Name x p) (e :: es) [] pos)) none pos2) (tRaiseE3 K x f g h W t) := ps_raise hc tk (pmk_err3 T hr ha hk hK hg hdb he hpl)
end
theorem c_while {c : TT} {tb : TS} {D : Ends} {σ : St} {H : Hp} (W : Nat → St → Hp → Prop) (m : Nat) (h0 : W m σ H)
    (hs : ∀ m σ H, W m σ H → c σ H fun b H1 => if b = true then ∃ N : St → Hp → Prop, (∀ σ' H', N σ' H' → ∃ m', m' < m ∧ W m' σ' H') ∧ tb { D with nx := N, ct := N, bk := D.nx } σ H1 else D.nx σ H1) : tWhile c tb D σ H :=
  ⟨W, ⟨m, h0⟩, hs⟩
theorem c_turn {tb : TS} {D : Ends} {σ : St} {H : Hp} {W : Nat → St → Hp → Prop} {m : Nat} (h : tb { D with nx := fun σ' H' => ∃ m', m' < m ∧ W m' σ' H', ct := fun σ' H' => ∃ m', m' < m ∧ W m' σ' H', bk := D.nx } σ H) :
    ∃ N : St → Hp → Prop, (∀ σ' H', N σ' H' → ∃ m', m' < m ∧ W m' σ' H') ∧ tb { D with nx := N, ct := N, bk := D.nx } σ H := ⟨_, fun _ _ h => h, h⟩
end Sa

namespace Sa
open PySem PySem.Spec L2
def wTup (K : PySem.W.Frag) (Wout : WX) (D : Ends) (c1 c2 : Value) (ts : Addr → Value → Option Addr → TS) : WX :=
  fun cls d σ H => ∃ b, PySem.W.exmAny K cls [c1, c2] = some b ∧ (b = true → ∀ a, H a = none → ts a cls d D σ H) ∧ (b = false → Wout cls d σ H)
theorem flyZ_keeps {B : Heap} {l : List Env} {a : Addr} {Z : Obj → Prop} {h h' : Heap} (f : HandSPX.FlyingZ B l a Z h) (k : ∀ b o, h.get? b = some o → h'.get? b = some o) : HandSPX.FlyingZ B l a Z h' := by
  obtain ⟨f1, f2, f3, oe, vs, T, oT, ts, g1, g2, g3, g4, g5, g6, g7, g8, g9⟩ := f
  refine ⟨fun b o e => k _ _ (f1 _ _ e), f2, f3.of_keeps fun b o e _ => ⟨o, k _ _ e, rfl⟩, oe, vs, T, oT, ts, k _ _ g1, g2, g3, g4, g5, g6, k _ _ g7, g8, g9⟩
section
variable {X : Cx} {body : List Stmt} {pos pos' np1 np2 tpos : Pos} {kk : Nat} {x1 x2 : Str} {c1 c2 : Value} {b₀ : Stmt} {suite : List Stmt} {ts : Addr → Value → Option Addr → TS} {tb : WX → TS} {Wout : WX}
theorem ps_tryTup (hs : X.stack = X.env :: X.outer) (hf : X.env.frame = some X.env.locals) (tk : Takes X Wout)
    (hb : ∀ (W : WX) (pn : List (Addr × Obj)) (xe : Value → Shared → Prop), Takes (X.tr pn xe) W → PassesOwn (model X.prog X.w) X.A X.env xe → PSs (X.tr pn xe) body (tb W))
    (hc1 : Names X x1 c1) (hc2 : Names X x2 c2)
    (hsu : ∀ (a : Addr) (oe : Obj) (cls : Value) (d : Option Addr) (pn : List (Addr × Obj)), Zc cls d oe → (∃ vs, oe.data = .fields vs) → PSs (X.suite a ((a, oe) :: pn)) (b₀ :: suite) (ts a cls d)) :
    PS X (.Try body [.ExceptHandler (some (.Tuple [.Name x1 np1, .Name x2 np2] kk tpos)) none (b₀ :: suite) pos'] [] [] pos) (fun D σ H => tb (wTup X.K Wout D c1 c2 ts) D σ H) := by
  constructor
  intro pins s σ H D I h
  have ok := I.ok
  have hfr : X.A.frames = some (X.env :: X.outer) := by rw [ok.frames, hs]
  refine wpAny_Try_except (wpAny_mono ((hb (wTup X.K Wout D c1 c2 ts) (X.pn ++ pins) (fun e s₁ => wpAny (model X.prog X.w) X.A (noteFrame e X.env) (fun _ s₂ => wpAny (model X.prog X.w) X.A (setFlight e none) (fun _ s₃ =>
    wpAny (model X.prog X.w) X.A (handleBy e X.env [.ExceptHandler (some (.Tuple [.Name x1 np1, .Name x2 np2] kk tpos)) none (b₀ :: suite) pos']) (SP X pins D) X.xe s₃) X.xe s₂) X.xe s₁) (fun u s' xx => ?_) PassesOwn.looking).run [] s σ H D (I.toTry _) h) (fun f s1 hsp => ?_) (fun e s1 he => he))
  · obtain ⟨a, B, sI, pins', σ', H', cls, d, rfl, J', nb, up, sky, na, os, ag, w⟩ := xx
    have J : Inv X pins σ' H' sI := J'.ofTry ok
    have sky' : Sky B (X.env :: X.outer) a (Zc cls d) X.env.locals s'.heap := by rw [← hs]; exact sky
    show wpAny (model X.prog X.w) X.A (noteFrame (.ref a) X.env) _ _ _
    refine Sky.land Zc.steady hfr hf sky' fun h3 fl3 up3 => ?_
    have J3 : Inv X pins σ' H' { s' with heap := h3 } := J.landed nb fl3.1 (up.trans up3) os ag
    obtain ⟨oe3, vs3, he3, hz3, hd3⟩ := fl3.there
    have nfr : a ∉ frs (X.env :: X.outer) := fun hm => by
      obtain ⟨_, o', e', hnf⟩ := fl3.2.2.1.mem hm
      rw [he3] at e'
      cases e'
      exact hnf _ hd3
    have nL : a ≠ X.env.locals := fun z => nfr (List.mem_filterMap.mpr ⟨X.env, List.mem_cons_self, by rw [hf, z]⟩)
    have nF : a ∉ X.fs := fun hm => by
      obtain ⟨e, he, q⟩ := List.mem_filterMap.mp hm
      exact nfr (List.mem_filterMap.mpr ⟨e, List.mem_cons_of_mem _ he, q⟩)
    have S3 := J3.suite he3 hd3 na nL nF
    have LT : PySem.W.Looks (model X.prog X.w) h3 (typeOf (.ref a)) cls := fun A Q E s k q => wpAny_typeOf_ref (k _ _ he3) (by rw [hz3.1]; exact q)
    have test : ∀ {x : Str} {c : Value} {np : Pos} {Q : Value → Shared → Prop} {E : Value → Shared → Prop}, Names X x c → Q c { s' with heap := h3 } → wpAny (model X.prog X.w) (X.A.mark (some (.ref a))) (eval (.Name x np) X.env) Q E { s' with heap := h3 } := by
      intro x c np Q E hc q
      obtain ⟨hg, hdbg, hm | ⟨hm, hv, hnn⟩⟩ := hc
      · exact ld_glob (X := X.suite a ((a, oe3) :: (X.pn ++ pins))) S3 hg hm q hdbg
      · exact ld_blt (X := X.suite a ((a, oe3) :: (X.pn ++ pins))) S3 hg hm hv q hnn hdbg
    obtain ⟨b, hb1, hyes, hno⟩ := w
    refine wpAny_handleBy_cons (codeAny_handlers_test ?_) (by intro q; cases q)
    refine PyProof.Rows.Tuple_ (PyProof.Rows.spliced_more (test hc1 (PyProof.Rows.spliced_more (test hc2 (PyProof.Rows.spliced_none ?_)))))
    refine wpAny_newObj_type ?_
    have kp : ∀ bb o, h3.get? bb = some o → (h3.push { cls := .type "tuple", dict := none, data := .seq [c1, c2].toArray }).get? bb = some o := fun bb o e => Heap.get?_push_of_some _ e
    have kin := J3.kIn
    refine ((PySem.W.exm_tup2 (M := model X.prog X.w) (K := X.K) (tp := h3.objs.size) (h := h3.push { cls := .type "tuple", dict := none, data := .seq [c1, c2].toArray }) (PySem.W.Frag.In.keeps kin kp) (LT.keeps kp) (Heap.get?_push_size _ rfl) hb1).here ?_)
    have fl5 := flyZ_keeps fl3 kp
    have up5 := up3.trans (Heap.UpToSlots.of_keeps kp)
    cases b with
    | true =>
      refine codeAny_handlers_suite (HandSPX.lands_againZ fl5 fun h4 fl4 up4 => ?_)
      have J4 : Inv X pins σ' H' { s' with heap := h4 } := J.landed nb fl4.1 ((up.trans up5).trans up4) os ag
      obtain ⟨oe4, vs4, he4, hz4, hd4⟩ := fl4.there
      refine wpAny_mono ((hsu a oe4 cls d (X.pn ++ pins) hz4 ⟨_, hd4⟩).run [] _ _ H' _ (J4.suite he4 hd4 na nL nF) (hyes rfl a na)) (fun f s6 hsp => ?_) (fun _ _ z => False.elim z)
      cases f with
      | next => obtain ⟨σ6, H6, S6, q6⟩ := hsp; exact ⟨_, _, S6.unsuite ok, q6⟩
      | brk => obtain ⟨σ6, H6, S6, q6⟩ := hsp; exact ⟨_, _, S6.unsuite ok, q6⟩
      | cont => obtain ⟨σ6, H6, S6, q6⟩ := hsp; exact ⟨_, _, S6.unsuite ok, q6⟩
      | ret u => obtain ⟨v6, σ6, H6, S6, r6, q6⟩ := hsp; exact ⟨_, _, _, S6.unsuite ok, r6, q6⟩
    | false =>
      refine wpAny_handleBy_nil ?_
      obtain ⟨k1, k2, k3, oe, vs, T, oT, ts', he, hz, hd, h1, hr⟩ := id fl5
      unfold PySem.passOn
      refine wpAny_bind (wpAny_field he hd h1 ?_)
      rw [if_neg (show ¬ ((Value.ref T == Value.none) = true) from by simp)]
      have fin : wpAny (model X.prog X.w) X.A (setFlight (.ref a) X.env.frame) (fun _ s4 => wpAny (model X.prog X.w) X.A (throw (.ref a) : Sem Flow) (SP X pins D) X.xe s4) X.xe { s' with heap := h3.push { cls := .type "tuple", dict := none, data := .seq [c1, c2].toArray } } := by
        rw [hf]
        exact HandSPX.setFlight_upZ fl5 fun h4 hh4 up4 => wpAny_throw (tk _ _ ⟨a, B, sI, pins, σ', H', cls, d, rfl, J, nb, (up.trans up5).trans up4, .inr (.inr (by rw [hs]; exact hh4)), na, os, ag, hno rfl⟩)
      first
        | exact wpAny_bind (wpAny_pure (wpAny_bind fin))
        | exact wpAny_bind fin
  · cases f with
    | next => obtain ⟨σ', H', J', q⟩ := hsp; exact wpAny_execs_nil ⟨σ', H', J'.ofTry ok, q⟩
    | brk => obtain ⟨σ', H', J', q⟩ := hsp; exact ⟨σ', H', J'.ofTry ok, q⟩
    | cont => obtain ⟨σ', H', J', q⟩ := hsp; exact ⟨σ', H', J'.ofTry ok, q⟩
    | ret u => obtain ⟨v, σ', H', J', r, q⟩ := hsp; exact ⟨v, σ', H', J'.ofTry ok, r, q⟩
end
section
variable {K : PySem.W.Frag} {Wout : WX} {D : Ends} {σ : St} {H : Hp} {cls : Value} {d : Option Addr} {c1 c2 : Value} {ts : Addr → Value → Option Addr → TS}
theorem exmAny2 {b1 b2 : Bool} (h1 : PySem.W.exmOne K cls c1 = some b1) (h2 : PySem.W.exmOne K cls c2 = some b2) : PySem.W.exmAny K cls [c1, c2] = some (b1 || b2) := by
  unfold PySem.W.exmAny PySem.W.exmAny PySem.W.exmAny
  rw [h1, h2]
  cases b1 <;> cases b2 <;> rfl
theorem c_tupHit {b1 b2 : Bool} (h1 : PySem.W.exmOne K cls c1 = some b1) (h2 : PySem.W.exmOne K cls c2 = some b2) (hb : (b1 || b2) = true) (h : ∀ a, H a = none → ts a cls d D σ H) : wTup K Wout D c1 c2 ts cls d σ H :=
  ⟨true, by rw [exmAny2 h1 h2, hb], fun _ => h, fun z => by cases z⟩
end
def tJoinS (ts : List TE) : TE := fun σ H Q => tJs ts Str.empty σ H fun out H1 => Q (.str out) H1
theorem pe_joinedU {X : Cx} {v1 v2 : Expr} {rest : List Expr} {ts : List TE} {pos : Pos} (h : PJ X (v1 :: v2 :: rest) ts) : PE X (.JoinedStr (v1 :: v2 :: rest) pos) (tJoinS ts) := pe_joined h
section
variable {σ : St} {H : Hp} {Q : VK} {R : Str → Hp → Prop} {t : TE} {ts : List TE} {acc y : Str}
theorem c_joinS (h : tJs ts Str.empty σ H fun out H1 => Q (.str out) H1) : tJoinS ts σ H Q := h
theorem c_jsC (h : t σ H fun x H1 => ∃ y : Str, x = .str y ∧ (acc ++ y).length ≤ sizeLine ∧ tJs ts (acc ++ y) σ H1 R) : tJs (t :: ts) acc σ H R := h
theorem c_jsN (h : R acc H) : tJs [] acc σ H R := h
end
end Sa

open PySem L2 Sa
-- heap look-ups
local macro_rules | `(tactic| walk_at "ne") => `(tactic| first | assumption | (apply Ne.symm; assumption) | (refine ne_of2 ?_ ?_ <;> assumption) | (apply Ne.symm; refine ne_of2 ?_ ?_ <;> assumption))
local macro_rules | `(tactic| walk_at "lk") => `(tactic| first
  | assumption
  | exact upd_same
  | ((with_reducible refine upd_new ?_ ?_); (· assumption); walk_at "lk")
  | ((with_reducible refine upd_other ?_ ?_); (· walk_at "ne"); walk_at "lk")
  | (with_reducible exact New.at_ (by assumption))
  | ((with_reducible refine New.keep (by assumption) ?_); walk_at "lk")
  | ((with_reducible refine New.sqL (by assumption) ?_); walk_at "lk")
  | ((with_reducible refine New.sqT (by assumption) ?_); walk_at "lk")
  | ((with_reducible refine Kp.at0 (by assumption) ?_); walk_at "lk")
  | ((with_reducible apply SqL.of); walk_at "lk")
  | ((with_reducible apply SqT.of); walk_at "lk")
  | ((with_reducible refine SqL.new ?_ ?_); (· assumption); walk_at "lk")
  | ((with_reducible refine SqT.new ?_ ?_); (· assumption); walk_at "lk"))
-- arithmetic of lengths
local macro_rules | `(tactic| walk_at "sz") => `(tactic| first | assumption | decide | (exact Nat.zero_le _) | (simp only [sizeLine_eq, List.length_cons, List.length_nil, List.length_append, List.length_map, List.length_replicate] at *; omega))
-- one step of a reading
local macro_rules | `(tactic| walk_at "s1") => `(tactic| first
  | (with_reducible apply c_seq)
  | ((with_reducible apply c_var); (exact rfl))
  | (with_reducible apply c_c)
  | (with_reducible apply c_op)
  | (with_reducible apply c_addI) | (with_reducible apply c_subI) | (with_reducible apply c_bandI)
  | (with_reducible refine c_bl ?_) | (with_reducible refine c_int ?_)
  | (with_reducible apply c_asg) | (with_reducible apply c_gName) | (with_reducible apply c_ret) | (with_reducible apply c_retN) | (with_reducible apply c_ifs) | (with_reducible apply c_drop)
  | (with_reducible apply c_test) | (with_reducible apply c_tB) | (with_reducible apply c_not) | (with_reducible apply c_and) | (with_reducible apply c_or)
  | (with_reducible apply c_eqI) | (with_reducible apply c_neI) | (with_reducible apply c_ltI) | (with_reducible apply c_leI) | (with_reducible apply c_gtI) | (with_reducible apply c_geI)
  | (with_reducible apply c_nil) | (with_reducible apply c_cons) | (with_reducible apply c_call) | (with_reducible apply c_cb) | (with_reducible apply c_tup) | (with_reducible apply c_lst)
  | (with_reducible apply c_sl) | (with_reducible apply c_noPart) | (with_reducible apply c_part) | (with_reducible apply c_bm) | (with_reducible apply c_bm0) | (with_reducible apply c_m1) | (with_reducible apply c_isStr)
  | (with_reducible apply c_chain) | (with_reducible apply c_andV) | (with_reducible apply c_orV) | (with_reducible apply c_notV) | (with_reducible apply c_if)
  | (with_reducible apply c_intI) | (with_reducible apply c_ord) | (with_reducible apply c_max2) | (with_reducible apply c_min2)
  | ((with_reducible apply c_mulI); (first | (exact Or.inr ⟨by decide, by decide⟩) | (exact Or.inl ⟨by decide, by decide⟩)))
  | ((with_reducible apply c_divI); (exact ⟨by decide, by decide⟩))
  | ((with_reducible apply c_modI); (first | decide | assumption | omega))
  | (with_reducible apply c_eqS) | (with_reducible apply c_neS) | (with_reducible apply c_eqB) | (with_reducible apply c_neB) | (with_reducible apply c_isN) | (with_reducible apply c_notN)
  | (with_reducible apply c_inC) | (with_reducible apply c_notInC)
  | (with_reducible refine c_truB ?_)
  | (with_reducible apply c_gSub)
  | (with_reducible apply c_next)
  | (with_reducible apply c_for) | (with_reducible apply c_lc) | (with_reducible apply c_rng1) | (with_reducible apply c_rng2) | (with_reducible apply c_iList) | (with_reducible apply c_iTup) | (with_reducible apply c_iStr)
  | ((with_reducible refine c_r1F ?_ ?_); (· first | decide | omega)) | ((with_reducible refine c_r2F ?_ ?_); (· first | decide | omega))
  | ((with_reducible apply c_itLF); (· walk_at "lk")) | ((with_reducible apply c_itTF); (· walk_at "lk")) | (with_reducible apply c_itSF)
  | ((with_reducible refine c_r1C ?_ ?_); (· first | decide | omega)) | ((with_reducible refine c_r2C ?_ ?_); (· first | decide | omega))
  | ((with_reducible apply c_itLC); (· walk_at "lk")) | ((with_reducible apply c_itTC); (· walk_at "lk")) | (with_reducible apply c_itSC)
  | ((with_reducible apply c_append); (· walk_at "lk"); (· walk_at "sz"))
  | (with_reducible apply c_yes)
  | (with_reducible apply c_newD) | (with_reducible apply c_dgetK) | (with_reducible apply c_din) | (with_reducible apply c_dnotin) | (with_reducible apply c_dput) | (with_reducible apply c_iKeys) | (with_reducible apply c_pNil) | (with_reducible apply c_pCons) | (with_reducible apply c_enumT) | (with_reducible apply c_iSeq) | (with_reducible apply c_lenSet) | (with_reducible apply c_dc) | (with_reducible apply c_fld) | (with_reducible apply c_setF) | (with_reducible apply c_meth) | (with_reducible apply c_newA) | (with_reducible apply c_dget1) | (with_reducible apply c_dget)
  | (with_reducible apply c_raiseE) | (with_reducible apply c_rng3) | (with_reducible apply c_enum) | (with_reducible apply c_callX) | (with_reducible apply c_xf)
  | (with_reducible apply c_it1) | (with_reducible apply c_it2) | (with_reducible apply c_it3) | (with_reducible apply c_it4)
  | (with_reducible apply c_gCons) | (with_reducible apply c_gNil)
  | ((with_reducible apply c_unL); (· walk_at "lk"); (· exact rfl)) | ((with_reducible apply c_unT); (· walk_at "lk"); (· exact rfl))
  | ((with_reducible apply c_lenS); (· walk_at "sz"))
  | ((with_reducible apply c_lenL); (· walk_at "lk"))
  | ((with_reducible apply c_lenT); (· walk_at "lk"))
  | ((with_reducible apply c_ixL); (· walk_at "lk"); (· exact rfl))
  | ((with_reducible apply c_ixT); (· walk_at "lk"); (· exact rfl))
  | ((with_reducible apply c_setL); (· walk_at "lk"); (· exact rfl))
  | ((with_reducible apply c_tyA); (· walk_at "lk")))
local macro_rules | `(tactic| walk_at "nw") => `(tactic| ((with_reducible refine c_nw ?_ ?_); (· walk_at "sz")))
local macro_rules | `(tactic| walk_at "st") => `(tactic| repeat (walk_at "s1"))
-- steps and ways, as far as they go
local macro_rules | `(tactic| walk_at "go") => `(tactic| repeat' (first | walk_at "s1" | ((with_reducible refine c_iteT ?_ ?_); (· exact rfl)) | ((with_reducible refine c_iteF ?_ ?_); (· exact rfl)) | ((with_reducible refine c_ite ?_ ?_) <;> intro hcnd) | ((with_reducible refine c_iteN ?_ ?_) <;> intro hcnd) | ((with_reducible refine c_iteNB ?_ ?_) <;> intro hcnd) | ((with_reducible refine c_iteB ?_ ?_) <;> intro hcnd) | fail))
-- ways that are settled by what is written
local macro_rules | `(tactic| walk_at "dc") => `(tactic| repeat' (first | walk_at "s1" | ((with_reducible refine c_iteF ?_ ?_); (· decide +kernel)) | ((with_reducible refine c_iteT ?_ ?_); (· decide +kernel)) | ((with_reducible refine c_iteF ?_ ?_); (· exact rfl)) | ((with_reducible refine c_iteT ?_ ?_); (· exact rfl)) | fail))
local macro_rules | `(tactic| walk_at "len") => `(tactic| first | (intro vs H Q E h; obtain ⟨_, e, _⟩ := h; subst e; rfl) | (intro vs H Q E h; obtain ⟨_, _, e, _⟩ := h; subst e; rfl) | (intro vs H Q E h; obtain ⟨_, _, _, e, _⟩ := h; subst e; rfl) | (intro vs H Q E h; obtain ⟨_, _, _, _, e, _⟩ := h; subst e; rfl) | (intro vs H Q E h; obtain ⟨_, _, _, _, _, e, _⟩ := h; subst e; rfl) | (intro vs H Q E h; obtain ⟨_, _, _, _, _, _, e, _⟩ := h; subst e; rfl) | (intro vs H Q E h; obtain ⟨_, _, _, _, _, _, _, e, _⟩ := h; subst e; rfl) | (intro vs H Q E h; obtain ⟨_, _, _, _, _, _, _, _, e, _⟩ := h; subst e; rfl) | (intro vs H Q E h; obtain ⟨_, _, _, _, _, _, _, _, _, e, _⟩ := h; subst e; rfl) | (intro vs H Q E h; obtain ⟨_, _, _, _, _, _, _, _, _, _, e, _⟩ := h; subst e; rfl) | (intro vs H Q E h; obtain ⟨_, _, _, _, _, _, _, _, _, _, _, e, _⟩ := h; subst e; rfl) | (intro vs H Q E h; obtain ⟨_, _, _, _, _, _, _, _, _, _, _, _, e, _⟩ := h; subst e; rfl))

namespace K45
open PySem L2 Sa
def top (i : Nat) : Stmt := PySem.Challenge.pw_sameanswers_k45_records_written_and_read.main.body.getD i (.Pass ⟨0, 0, 0, 0⟩)
abbrev s_is_name : Stmt := top 13
abbrev s_is_path : Stmt := top 14
abbrev s_is_place : Stmt := top 15
abbrev s__is_plain : Stmt := top 16
abbrev s_is_line : Stmt := top 17
abbrev s_is_word : Stmt := top 18
abbrev s_is_lines : Stmt := top 19
abbrev s_is_inside : Stmt := top 20
abbrev s__are_files : Stmt := top 23
abbrev s_is_question : Stmt := top 30
abbrev s__check : Stmt := top 31
abbrev s_check_action : Stmt := top 32
abbrev s_places_of : Stmt := top 33
abbrev s__names : Stmt := top 34
abbrev s__rows : Stmt := top 35
abbrev s__ask : Stmt := top 36
abbrev s__is_blocked : Stmt := top 37
abbrev s__write : Stmt := top 38
abbrev s__move : Stmt := top 39
abbrev s__splice : Stmt := top 40
abbrev s_act : Stmt := top 41
abbrev s_run : Stmt := top 43
abbrev s__write_item : Stmt := top 49
abbrev s__write_action : Stmt := top 50
abbrev s_write_actions : Stmt := top 51
abbrev s__quote_end : Stmt := top 52
abbrev s__word_end : Stmt := top 53
abbrev s__split : Stmt := top 54
abbrev s_read_actions : Stmt := top 56
abbrev s_write_record : Stmt := top 64
abbrev s__read_number : Stmt := top 65
abbrev s__read_accept : Stmt := top 66
abbrev s__read_actions : Stmt := top 67
abbrev s_read_record : Stmt := top 68
abbrev s__law_cell : Stmt := top 70
abbrev s__law_digits : Stmt := top 71
abbrev s__law_draw : Stmt := top 72
abbrev s__law_alike : Stmt := top 73
abbrev s__law_path : Stmt := top 74
abbrev s__law_place : Stmt := top 75
abbrev s__law_lines : Stmt := top 76
abbrev s__law_question : Stmt := top 77
abbrev s__law_action : Stmt := top 78
abbrev s__law_table : Stmt := top 79
abbrev s__law_inside : Stmt := top 80
abbrev s__law_barred : Stmt := top 81
abbrev s__law_names : Stmt := top 82
abbrev s__law_found : Stmt := top 83
abbrev s__law_told : Stmt := top 84
abbrev s__law_with : Stmt := top 85
abbrev s__law_spliced : Stmt := top 86
abbrev s__law_act : Stmt := top 87
abbrev s__law_files : Stmt := top 88
abbrev s__law_said : Stmt := top 89
abbrev s__law_record_text : Stmt := top 90
abbrev s__law_accept : Stmt := top 91
abbrev s__law_record : Stmt := top 92
abbrev s__law_plain : Stmt := top 93
abbrev s__law_written : Stmt := top 94
abbrev s__law_spoilt : Stmt := top 95
abbrev s__law_fair : Stmt := top 96
abbrev s_law : Stmt := top 97
abbrev s_TextFault___init__ : Stmt := subAt (top 3) 0
abbrev s_OutOfRange___init__ : Stmt := subAt (top 4) 0
abbrev s_Tree___init__ : Stmt := subAt (top 24) 0
abbrev s_Tree_files : Stmt := subAt (top 24) 1
abbrev s_Tree_lines : Stmt := subAt (top 24) 2
abbrev s_Tree_paths : Stmt := subAt (top 24) 3
abbrev s_Tree_above : Stmt := subAt (top 24) 4
abbrev s_Tree_is_folder : Stmt := subAt (top 24) 5
abbrev s_Tree_with_file : Stmt := subAt (top 24) 6
abbrev s_Tree_without : Stmt := subAt (top 24) 7
abbrev s_Reader___init__ : Stmt := subAt (top 55) 0
abbrev s_Reader_kind : Stmt := subAt (top 55) 1
abbrev s_Reader_refuse : Stmt := subAt (top 55) 2
abbrev s_Reader_is_sign : Stmt := subAt (top 55) 3
abbrev s_Reader_expect : Stmt := subAt (top 55) 4
abbrev s_Reader_take : Stmt := subAt (top 55) 5
abbrev s_Reader_back : Stmt := subAt (top 55) 6
abbrev s_Reader_word : Stmt := subAt (top 55) 7
abbrev s_Reader_path : Stmt := subAt (top 55) 8
abbrev s_Reader_place : Stmt := subAt (top 55) 9
abbrev s_Reader_quoted_word : Stmt := subAt (top 55) 10
abbrev s_Reader_lines : Stmt := subAt (top 55) 11
abbrev s_Reader_action : Stmt := subAt (top 55) 12
def fa : List He.Fa := [.free "all", .str "LETTERS" "abcdefghijklmnopqrstuvwxyz0123456789", .free "len", .int "NAME_MOST" 8, .glo "is_name", .int "DEPTH_MOST" 3, .glo "is_path", .glo "is_place", .free "ord", .int "PERCENT" 37, .glo "_is_plain", .int "LINE_MOST" 20, .glo "is_line", .int "WORD_MOST" 12, .glo "is_word", .int "LINES_MOST" 12, .glo "is_lines", .glo "is_inside", .free "any", .free "set", .int "FILES_MOST" 20, .glo "_are_files", .glo "QUESTIONS", .glo "is_question", .glo "OutOfRange", .glo "_check", .glo "check_action", .free "range", .free "tuple", .glo "places_of", .free "sorted", .glo "_names", .free "enumerate", .free "list", .glo "_rows", .glo "NONE", .glo "_ask", .glo "_is_blocked", .glo "DONE", .glo "_write", .glo "_move", .glo "_splice", .glo "act", .glo "run", .glo "_write_item", .str "ROOT" ".", .glo "_write_action", .glo "write_actions", .glo "TextFault", .glo "_quote_end", .str "ENDS" " \n()[]\"", .glo "_word_end", .str "SIGNS" "()[]", .glo "_split", .glo "Reader", .int "TEXT_MOST" 8000, .glo "read_actions", .str "ACCEPT" "accept", .str "FIRST" "first", .str "EPOCH" "epoch", .glo "write_record", .free "int", .str "DIGITS" "0123456789", .glo "_read_number", .int "SERIAL_MOST" 9999, .int "DESKS_MOST" 3, .glo "_read_accept", .glo "_read_actions", .glo "Tree", .glo "read_record", .glo "_law_cell", .glo "_law_digits", .glo "_law_draw", .free "repr", .glo "_law_alike", .glo "_law_path", .glo "_law_place", .glo "_law_lines", .glo "_law_question", .glo "_law_action", .glo "_law_table", .glo "_law_inside", .glo "_law_barred", .glo "_law_names", .glo "_law_found", .glo "_law_told", .glo "_law_with", .glo "_law_spliced", .glo "_law_act", .glo "_law_files", .glo "_law_said", .free "str", .glo "_law_record_text", .glo "_law_accept", .glo "_law_record", .glo "_law_plain", .glo "_law_written", .glo "_law_spoilt", .glo "_law_fair", .glo "law", .meth "TextFault" "__init__", .meth "OutOfRange" "__init__", .meth "Tree" "__init__", .meth "Tree" "files", .meth "Tree" "lines", .meth "Tree" "paths", .meth "Tree" "above", .meth "Tree" "is_folder", .meth "Tree" "with_file", .meth "Tree" "without", .meth "Reader" "__init__", .meth "Reader" "kind", .meth "Reader" "refuse", .meth "Reader" "is_sign", .meth "Reader" "expect", .meth "Reader" "take", .meth "Reader" "back", .glo "DEEDS", .meth "Reader" "word", .meth "Reader" "path", .meth "Reader" "place", .meth "Reader" "quoted_word", .meth "Reader" "lines", .meth "Reader" "action", .noat "OutOfRange" "name", .cls "Tree", .mkr "Tree", .noat "Tree" "_files", .noat "TextFault" "line", .noat "TextFault" "column", .noat "TextFault" "words", .cls "Reader", .mkr "Reader", .noat "Reader" "_tokens", .noat "Reader" "_at", .exm "OutOfRange" "TextFault" false, .exm "OutOfRange" "OutOfRange" true, .exm "TextFault" "TextFault" true, .exm "TextFault" "OutOfRange" false]
def fn : List He.DefD := [dOf "is_name" s_is_name, dOf "is_path" s_is_path, dOf "is_place" s_is_place, dOf "_is_plain" s__is_plain, dOf "is_line" s_is_line, dOf "is_word" s_is_word, dOf "is_lines" s_is_lines, dOf "is_inside" s_is_inside, dOf "_are_files" s__are_files, dOf "is_question" s_is_question, dOf "_check" s__check, dOf "check_action" s_check_action, dOf "places_of" s_places_of, dOf "_names" s__names, dOf "_rows" s__rows, dOf "_ask" s__ask, dOf "_is_blocked" s__is_blocked, dOf "_write" s__write, dOf "_move" s__move, dOf "_splice" s__splice, dOf "act" s_act, dOf "run" s_run, dOf "_write_item" s__write_item, dOf "_write_action" s__write_action, dOf "write_actions" s_write_actions, dOf "_quote_end" s__quote_end, dOf "_word_end" s__word_end, dOf "_split" s__split, dOf "read_actions" s_read_actions, dOf "write_record" s_write_record, dOf "_read_number" s__read_number, dOf "_read_accept" s__read_accept, dOf "_read_actions" s__read_actions, dOf "read_record" s_read_record, dOf "_law_cell" s__law_cell, dOf "_law_digits" s__law_digits, dOf "_law_draw" s__law_draw, dOf "_law_alike" s__law_alike, dOf "_law_path" s__law_path, dOf "_law_place" s__law_place, dOf "_law_lines" s__law_lines, dOf "_law_question" s__law_question, dOf "_law_action" s__law_action, dOf "_law_table" s__law_table, dOf "_law_inside" s__law_inside, dOf "_law_barred" s__law_barred, dOf "_law_names" s__law_names, dOf "_law_found" s__law_found, dOf "_law_told" s__law_told, dOf "_law_with" s__law_with, dOf "_law_spliced" s__law_spliced, dOf "_law_act" s__law_act, dOf "_law_files" s__law_files, dOf "_law_said" s__law_said, dOf "_law_record_text" s__law_record_text, dOf "_law_accept" s__law_accept, dOf "_law_record" s__law_record, dOf "_law_plain" s__law_plain, dOf "_law_written" s__law_written, dOf "_law_spoilt" s__law_spoilt, dOf "_law_fair" s__law_fair, dOf "law" s_law, dOfM "TextFault" "__init__" "TextFault.__init__" s_TextFault___init__, dOfM "OutOfRange" "__init__" "OutOfRange.__init__" s_OutOfRange___init__, dOfMd "Tree" "__init__" "Tree.__init__" s_Tree___init__ [.adr (He.dflAt ("Tree", some "__init__") 0)], dOfM "Tree" "files" "Tree.files" s_Tree_files, dOfM "Tree" "lines" "Tree.lines" s_Tree_lines, dOfM "Tree" "paths" "Tree.paths" s_Tree_paths, dOfM "Tree" "above" "Tree.above" s_Tree_above, dOfM "Tree" "is_folder" "Tree.is_folder" s_Tree_is_folder, dOfM "Tree" "with_file" "Tree.with_file" s_Tree_with_file, dOfM "Tree" "without" "Tree.without" s_Tree_without, dOfM "Reader" "__init__" "Reader.__init__" s_Reader___init__, dOfM "Reader" "kind" "Reader.kind" s_Reader_kind, dOfM "Reader" "refuse" "Reader.refuse" s_Reader_refuse, dOfM "Reader" "is_sign" "Reader.is_sign" s_Reader_is_sign, dOfM "Reader" "expect" "Reader.expect" s_Reader_expect, dOfM "Reader" "take" "Reader.take" s_Reader_take, dOfM "Reader" "back" "Reader.back" s_Reader_back, dOfM "Reader" "word" "Reader.word" s_Reader_word, dOfM "Reader" "path" "Reader.path" s_Reader_path, dOfM "Reader" "place" "Reader.place" s_Reader_place, dOfM "Reader" "quoted_word" "Reader.quoted_word" s_Reader_quoted_word, dOfM "Reader" "lines" "Reader.lines" s_Reader_lines, dOfM "Reader" "action" "Reader.action" s_Reader_action]
def fx : List Fx := [.cst "DONE" (.tuple [(.str "done")]), .cst "NONE" (.tuple [(.str "none")]), .cst "QUESTIONS" (.tuple [(.str "read"), (.str "kind"), (.str "list"), (.str "find"), (.str "count")]), .cst "DEEDS" (.tuple [(.str "write"), (.str "remove"), (.str "move"), (.str "splice")]), .cstA (He.dflAt ("Tree", some "__init__") 0) (.tuple []), .oex "OutOfRange", .xf "OutOfRange", .oex "TextFault", .xf "TextFault"]
abbrev TX (K : PySem.W.Frag) (mg : Str → Option Value) : Prop := Tx fa fn fx K mg
end K45
namespace K45
open PySem L2 Sa
abbrev R : PySem.W.OpenRow := PySem.W.OpenLaw.row PySem.Challenge.rw_sameanswers_k45_records_written_and_read
abbrev qv : Program := PySem.W.view R.prog [97]
def asL : List Addr := PySem.mainGlobals :: List.range 1200
theorem saysL_of {ex : PySem.W.Frag → Bool} {w : World} {h : Heap} (e : (He.obsT fa fn [] (He.frT h.get? asL), ex (He.frT h.get? asL)) = (He.valT fn [] w, true)) : He.SaysX fa fn [] [] ex w h (He.frT h.get? asL) :=
  ⟨congrArg (fun z : He.AlX => z.1) e, congrArg (fun z : He.AlX => z.2) e, (fun _ hp => nomatch hp), (fun _ hp => nomatch hp), (fun _ hp => nomatch hp)⟩
def hk : PySem.W.Hook where
  α := He.AlX
  obs := fun s => (He.obsT fa fn [] (He.frT s.heap.get? asL), exs fx (He.frT s.heap.get? asL))
  val := fun w => (He.valT fn [] w, true)
  says := fun w h => ∃ K : PySem.W.Frag, K.In h ∧ He.SaysX fa fn [] [] (exs fx) w h K
  of := fun _ _ e => ⟨_, He.frT_in, saysL_of e⟩
  keeps := fun _ _ _ ⟨K, hK, c⟩ k => ⟨K, PySem.W.Frag.In.keeps hK k, ⟨c.t, c.more, c.hd, c.out, fun p hp => k _ _ (c.empty p hp)⟩⟩
def ob (s : PySem.W.SharedT) : He.AlX := (He.obsT fa fn [] (He.frT (HandSHeadRun.getT s) asL), exs fx (He.frT (HandSHeadRun.getT s) asL))
theorem ob_eq (s : PySem.W.SharedT) : ob s = hk.obs s.abs := by
  have e : HandSHeadRun.getT s = s.abs.heap.get? := funext (HandSHeadRun.getT_eq s)
  unfold ob
  rw [e]
  rfl
def loose0 : List PySem.Str := ["_wall", "TrunkError", "TextFault", "OutOfRange", "NAME_MOST", "DEPTH_MOST", "LINE_MOST", "LINES_MOST", "WORD_MOST", "LETTERS", "PERCENT", "is_name", "is_path", "is_place", "_is_plain", "is_line", "is_word", "is_lines", "is_inside", "FILES_MOST", "_are_files", "Tree", "QUESTIONS", "DEEDS", "NONE", "DONE", "is_question", "_check", "check_action", "places_of"]
def loose1 : List PySem.Str := ["_names", "_rows", "_ask", "_is_blocked", "_write", "_move", "_splice", "act", "run", "TEXT_MOST", "ROOT", "SIGNS", "ENDS", "_write_item", "_write_action", "write_actions", "_quote_end", "_word_end", "_split", "Reader", "read_actions", "DESKS_MOST", "SERIAL_MOST", "DIGITS", "FIRST", "EPOCH", "ACCEPT", "write_record", "_read_number", "_read_accept"]
def loose2 : List PySem.Str := ["_read_actions", "read_record", "_law_cell", "_law_digits", "_law_draw", "_law_alike", "_law_path", "_law_place", "_law_lines", "_law_question", "_law_action", "_law_table", "_law_inside", "_law_barred", "_law_names", "_law_found", "_law_told", "_law_with", "_law_spliced", "_law_act", "_law_files", "_law_said", "_law_record_text", "_law_accept", "_law_record", "_law_plain", "_law_written", "_law_spoilt", "_law_fair"]
def loose : List PySem.Str := loose0 ++ loose1 ++ loose2
theorem map3 {α β γ δ : Type _} {o : Option α} {f : α → β} {g : α → γ} {h : α → δ} {a : β} {b : γ} {c : δ} (e1 : o.map f = some a) (e2 : o.map g = some b) (e3 : o.map h = some c) : o.map (fun s => (f s, g s, h s)) = some (a, b, c) := by
  cases o with
  | none => cases e1
  | some x => rw [Option.some.inj e1.symm, Option.some.inj e2.symm, Option.some.inj e3.symm]; rfl
section
open PySem PySem.W PySem.Calls PyProof.Rows
noncomputable def ends (w : World) (os : OsState) : Option SharedT := HandSHeadRun.endF (HandSHeadRun.stepQ (HandSHeadRun.denQ HandSHeadRun.tabQ) R.prog w) 7000 R.prog w os
noncomputable def lookF (w : World) (s : SharedT) : Bool := HandSHeadRun.looksF R.prog (boot_heap w.params) s.abs
noncomputable def seeF (s : SharedT) := HandSHeadRun.seenQ qv loose (importedModules R.prog.main.body) (fun s => xlAt qv [] s && recOk R.toRowW.records s) s.abs
theorem run1 (w : World) (os : OsState) : (ends w os).map (lookF w) = some true := by kernel_rfl
theorem run2 (w : World) (os : OsState) : (ends w os).map seeF = some (openGood qv loose) := by kernel_rfl
theorem run3a (w : World) (os : OsState) : (ends w os).map (fun s => exs fx (He.frT (HandSHeadRun.getT s) asL)) = some true := by kernel_rfl
theorem run3b1 (w : World) (os : OsState) : (ends w os).map (fun s => He.obsT [] (fn.take 62) [] (He.frT (HandSHeadRun.getT s) asL)) = some (He.valT (fn.take 62) [] w) := by kernel_rfl
theorem run3b2 (w : World) (os : OsState) : (ends w os).map (fun s => He.obsT [] (fn.drop 62) [] (He.frT (HandSHeadRun.getT s) asL)) = some (He.valT (fn.drop 62) [] w) := by kernel_rfl
theorem obs_join2 {X : PySem.W.Frag} {w : World} {l1 l2 : List He.DefD} (h1 : He.obsT [] l1 [] X = He.valT l1 [] w) (h2 : He.obsT [] l2 [] X = He.valT l2 [] w) : He.obsT [] (l1 ++ l2) [] X = He.valT (l1 ++ l2) [] w := by
  have a1 : (true && l1.all fun d => d.ok X) = true := congrArg (fun z => z.1.1) h1
  have a2 : (true && l2.all fun d => d.ok X) = true := congrArg (fun z => z.1.1) h2
  have b1 : (l1.map fun d => He.fnW X d.at_) = l1.map He.DefD.val := congrArg (fun z => z.1.2) h1
  have b2 : (l2.map fun d => He.fnW X d.at_) = l2.map He.DefD.val := congrArg (fun z => z.1.2) h2
  rw [Bool.true_and] at a1 a2
  unfold He.obsT He.valT He.obsD He.valD
  rw [List.all_append, List.map_append, List.map_append, a1, a2, b1, b2]
  rfl
theorem run3b (w : World) (os : OsState) : (ends w os).map (fun s => He.obsT [] fn [] (He.frT (HandSHeadRun.getT s) asL)) = some (He.valT fn [] w) := by
  have h1 := run3b1 w os
  have h2 := run3b2 w os
  cases ho : ends w os with
  | none => rw [ho] at h1; cases h1
  | some s =>
    rw [ho] at h1 h2
    have := obs_join2 (Option.some.inj h1) (Option.some.inj h2)
    rw [List.take_append_drop] at this
    exact congrArg some this
theorem run3c (w : World) (os : OsState) : (ends w os).map (fun s => He.obsT fa [] [] (He.frT (HandSHeadRun.getT s) asL)) = some (He.valT [] [] w) := by kernel_rfl
theorem obs_join {X : PySem.W.Frag} {w : World} (h1 : He.obsT fa [] [] X = He.valT [] [] w) (h2 : He.obsT [] fn [] X = He.valT fn [] w) : He.obsT fa fn [] X = He.valT fn [] w := by
  have a1 : ((fa.all fun f => f.ok X) && true) = true := congrArg (fun z => z.1.1) h1
  have a2 : (true && fn.all fun d => d.ok X) = true := congrArg (fun z => z.1.1) h2
  have a3 : (fn.map fun d => He.fnW X d.at_) = fn.map He.DefD.val := congrArg (fun z => z.1.2) h2
  rw [Bool.and_true] at a1
  rw [Bool.true_and] at a2
  unfold He.obsT He.valT He.obsD He.valD
  rw [a1, a2, a3]
  rfl
theorem run3 (w : World) (os : OsState) : (ends w os).map ob = some (hk.val w) := by
  have h := map3 (run3a w os) (run3b w os) (run3c w os)
  cases ho : ends w os with
  | none => rw [ho] at h; cases h
  | some s =>
    rw [ho] at h
    have h := Option.some.inj h
    have h1 := congrArg (fun z => z.1) h
    have h2 := congrArg (fun z => z.2.1) h
    have h3 := congrArg (fun z => z.2.2) h
    have e : ob s = hk.val w := Prod.ext (obs_join h3 h2) h1
    exact congrArg some e
theorem run (w : World) : HandSHeadRun.RunEq R qv hk ob 7000 loose w := by
  intro os
  have := map3 (run1 w os) (run2 w os) (run3 w os)
  unfold ends lookF seeF at this
  exact this
end
def spLawE (K : PySem.W.Frag) : Sp := fun vs H Q _ => ∃ (a : Addr) (ns : List Int), vs = [.ref a] ∧ SqL K H a (ns.map V.int) ∧ ∀ H', Q (.bl true) H'
end K45
--FIN
section
open PySem PySem.W PySem.Calls PyProof.Rows
set_option maxRecDepth 100000 in
set_option maxHeartbeats 0 in
theorem K45.fin (E : ∀ {P : PySem.Program} {w : PySem.World} {K : PySem.W.Frag} {h : PySem.Heap} {mg : PySem.Str → Option PySem.Value} {f : PySem.Addr}, K.In h → h.Ns PySem.mainGlobals mg → mg "law" = some (.ref f) → He.SaysD K45.fa K45.fn K → Sa.exs K45.fx K = true →
    ∃ fd : PySem.FuncData, (∀ (s : PySem.Shared) (v : PySem.Value), PySem.BindsTo s fd ⟨[v], []⟩ [("_law_script", v)]) ∧ ∀ base : PySem.Heap, K.In base → base.Ns PySem.mainGlobals mg → Sa.FnG P w K mg base L2.CX0 13 f fd ["_law_script"] (K45.spLawE K)) : PySem.Challenge.rw_sameanswers_k45_records_written_and_read.Holds := by
  w_on; o_law
  refine HandSHeadRun.head_any (r := OpenLaw.row PySem.Challenge.rw_sameanswers_k45_records_written_and_read) (q := K45.qv) (H := K45.hk) (ob := K45.ob) (M := 7000) (loose := K45.loose) (d := HandSHeadRun.topDef (OpenLaw.row PySem.Challenge.rw_sameanswers_k45_records_written_and_read).prog 97) (kwd := []) K45.ob_eq
    (by kernel_rfl) (fun s => by kernel_rfl) K45.run (by kernel_rfl) (by kernel_rfl) (by kernel_rfl) (by rfl) (by first | assumption | decide +kernel) (by decide +kernel) ⟨rfl, rfl, rfl, rfl, rfl, by decide +kernel⟩ ?hw ?hc
  case hw => w_witness2
  case hc =>
    refine Sa.law_end (l := PySem.Challenge.rw_sameanswers_k45_records_written_and_read) (n := 63) (k := 13) (x := "_law_script") rfl (by decide) (by kernel_rfl) ⟨rfl, by decide, by decide⟩ ?F
    intro w mg fa h Y G hmg0
    obtain ⟨K, KX, c⟩ := Y
    have cd := c.t.d
    have cx := c.more
    have hmg : mg ("law" : PySem.Str) = some (.ref fa) := by
      have e : (HandSHeadRun.topDef (OpenLaw.row PySem.Challenge.rw_sameanswers_k45_records_written_and_read).prog 97).name = ("law" : PySem.Str) := by kernel_rfl
      rw [← e]
      exact hmg0
    obtain ⟨fd, hb, hF⟩ := E (P := (PySem.Challenge.rw_sameanswers_k45_records_written_and_read).prog) (w := w) KX G hmg cd cx
    exact ⟨K, fd, K45.spLawE K, KX, hb, fun H a ns hS => ⟨a, ns, rfl, hS, fun _ => rfl⟩, hF⟩
end
--ENDFIN

namespace K45
open PySem L2 Sa
section
variable {P : Program} {w : World} {K : PySem.W.Frag} {mg : Str → Option Value} {base : Heap}
theorem sc__law_draw : FnScope ["_law_box", "_law_many", "_law_at"] ["_law_box", "_law_many"] (defScope s__law_draw) := ⟨rfl, rfl, rfl, by decide +kernel, rfl, by decide +kernel, by decide +kernel⟩
theorem bn__law_draw : BindN "_law_draw" s__law_draw ["_law_box", "_law_many"] := fun _ _ _ _ _ _ us hl => match us, hl with | [_, _], _ => rfl
def spDraw : Sp := fun vs H Q _ => ∃ (b d : Addr) (many : Int), vs = [.ref b, .int many] ∧ Bx H b d ∧ 0 < many ∧ ∀ (i : Int) (H' : Hp), 0 ≤ i → i < many → Kp [b] H H' → Bx H' b d → Q (.int i) H'
theorem b__law_draw (T : TX K mg) : Body P w K mg base "_law_draw" s__law_draw ["_law_box", "_law_many", "_law_at"] 1 spDraw := by
  intro cdv A outer s H vs Q E h X hr
  obtain ⟨b, d, many, rfl, B, hm, k⟩ := h
  obtain ⟨at_, ds, h1, h2, h3⟩ := B.ex
  refine ⟨_, (pss_cons (ps_set (i := 2) sc__law_draw.nd rfl (Or.inl rfl) (pe_ix (ix_U (K := K)) (pv 0) pe_int (fun _ _ => rfl))) (pss_cons (ps_asg (pe_op (op_addU (K := K)) (pv 2) pe_int) (pg_sub (pv 0) pe_int set_list)) (pss_cons (ps_if (pt_cmpR op_ltU (pv 2) (pe_callB (cr_len (K := K)) rfl (T.free 2) PySem.boot_len (pa_cons (pe_ix (ix_U (K := K)) (pv 0) pe_int (fun _ _ => rfl)) pa_nil)) (nomark _)) (pss_one (ps_ret (pe_op op_modU (pe_callTy cr_int rfl (T.free 61) (by decide +kernel) (pa_cons (pe_ix (ix_U (K := K)) (pe_ix (ix_U (K := K)) (pv 0) pe_int (fun _ _ => rfl)) (pv 2) (fun _ _ => rfl)) pa_nil)) (pv 1)))) pss_nil) (pss_one (ps_ret (pe_op op_modU (pe_callTy cr_int rfl (T.free 61) (by decide +kernel) (pa_cons (pe_op (op_addU (K := K)) (pe_op (op_mulU (K := K)) (pv 2) pe_int) pe_int) pa_nil)) (pv 1))))))), ?_⟩
  have hne := B.ne
  walk_at "st"
  have fin : ∀ z : Int, Q (.int (z % many)) (upd H b (.lst [.ref d, .int (at_ + 1)])) := fun z => by
    refine k _ _ (Int.emod_nonneg _ (by omega)) (Int.emod_lt_of_pos _ hm) (Kp.mut (by simp)) ⟨at_ + 1, ds, upd_same, upd_other hne h2, by omega⟩
  refine c_ite (fun hlt => ?_) (fun hlt => ?_)
  · walk_at "st"
    rw [List.length_map] at hlt
    refine c_ixL (by walk_at "lk") (atI_ints h3 hlt) ?_
    walk_at "st"
    exact fin _
  · walk_at "st"
    exact fin _
theorem D__law_draw (T : TX K mg) : DefAt P w K mg base CX0 "_law_draw" 2 ["_law_box", "_law_many"] spDraw :=
  def_of T 36 72 sc__law_draw bn__law_draw (fun vs H Q E h => by obtain ⟨b, d, many, rfl, _⟩ := h; rfl) (b__law_draw T)

theorem sc__law_cell : FnScope ["_law_script", "_law_k"] ["_law_script", "_law_k"] (defScope s__law_cell) := ⟨rfl, rfl, rfl, by decide +kernel, rfl, by decide +kernel, by decide +kernel⟩
theorem bn__law_cell : BindN "_law_cell" s__law_cell ["_law_script", "_law_k"] := fun _ _ _ _ _ _ us hl => match us, hl with | [_, _], _ => rfl
def spCell (K : PySem.W.Frag) : Sp := fun vs H Q _ => ∃ (a : Addr) (ns : List Int) (k : Int), vs = [.ref a, .int k] ∧ SqL K H a (ns.map V.int) ∧ 0 ≤ k ∧ ∀ n : Int, Q (.int n) H
theorem b__law_cell (T : TX K mg) : Body P w K mg base "_law_cell" s__law_cell ["_law_script", "_law_k"] 1 (spCell K) := by
  intro cdv A outer s H vs Q E h X hr
  obtain ⟨a, ns, k, rfl, hs, h0, q⟩ := h
  refine ⟨_, (pss_cons (ps_if (pt_cmpR op_ltU (pv 1) (pe_callB (cr_len (K := K)) rfl (T.free 2) PySem.boot_len (pa_cons (pv 0) pa_nil)) (nomark _)) (pss_one (ps_ret (pe_ix (ix_U (K := K)) (pv 0) (pv 1) (fun _ _ => rfl)))) pss_nil) (pss_one (ps_ret pe_int))), ?_⟩
  walk_at "st"
  refine c_ite (fun hlt => ?_) (fun hlt => ?_)
  · walk_at "st"
    rw [List.length_map] at hlt
    refine c_ixL hs (atI_ints h0 hlt) ?_
    exact q _
  · walk_at "st"
    exact q _
theorem D__law_cell (T : TX K mg) : DefAt P w K mg base CX0 "_law_cell" 2 ["_law_script", "_law_k"] (spCell K) :=
  def_of T 34 70 sc__law_cell bn__law_cell (fun vs H Q E h => by obtain ⟨b, d, many, rfl, _⟩ := h; rfl) (b__law_cell T)
theorem sc__law_digits : FnScope ["_law_script", "_law_first", "_law_last", "_law_digits_here", "_law_k", "_law_cell_here", "_law_turn", "_law_seed"] ["_law_script", "_law_first", "_law_last"] (defScope s__law_digits) := ⟨rfl, rfl, rfl, by decide +kernel, rfl, by decide +kernel, by decide +kernel⟩
theorem bn__law_digits : BindN "_law_digits" s__law_digits ["_law_script", "_law_first", "_law_last"] := fun _ _ _ _ _ _ us hl => match us, hl with | [_, _, _], _ => rfl
def spDigits (K : PySem.W.Frag) : Sp := fun vs H Q _ => ∃ (a : Addr) (ns : List Int), vs = [.ref a, .int 0, .int 63] ∧ SqL K H a (ns.map V.int) ∧ ∀ (p : Addr) (ds : List Int), H p = none → Q (.ref p) (upd H p (.lst (ds.map V.int)))
theorem b__law_digits (T : TX K mg) : Body P w K mg base "_law_digits" s__law_digits ["_law_script", "_law_first", "_law_last", "_law_digits_here", "_law_k", "_law_cell_here", "_law_turn", "_law_seed"] 2 (spDigits K) := by
  intro cdv A outer s H vs Q E h X hr
  obtain ⟨a, ns, rfl, hs, q⟩ := h
  have D__law_cell : DefAt P w K mg base CX0 "_law_cell" 2 ["_law_script", "_law_k"] (spCell K) := D__law_cell T
  refine ⟨_, (pss_cons (ps_set (i := 3) sc__law_digits.nd rfl (Or.inl rfl) (pe_lst pa_nil)) (pss_cons (ps_for PassesOwn.never rfl (pi_range2 rfl (T.free 27) (pa_cons (pv 1) (pa_cons (pv 2) pa_nil))) (pg_name (i := 4) sc__law_digits.nd rfl (Or.inl rfl)) (pss_cons (ps_set (i := 5) sc__law_digits.nd rfl (Or.inl rfl) (pe_callA D__law_cell hr pass0 (pa_cons (pv 0) (pa_cons (pv 4) pa_nil)))) (Evl.pss_cut (ps_if (pt_cmpR op_ltU (pv 5) pe_int (nomark _)) (pss_one (ps_set (i := 5) sc__law_digits.nd rfl (Or.inl rfl) (pe_op op_subU pe_int (pe_op (op_mulU (K := K)) pe_int (pv 5))))) pss_nil) (pss_one (ps_if (pt_cmpR op_geU (pv 5) pe_int (nomark _)) (pss_one (ps_for PassesOwn.never rfl (pi_range1 rfl (T.free 27) (pa_cons pe_int pa_nil)) (pg_name (i := 6) sc__law_digits.nd rfl (Or.inl rfl)) (pss_one (ps_if (pt_cmpR op_gtU (pv 5) pe_int (nomark _)) (pss_cons (ps_expr (pe_appendU (K := K) (pv 3) (pe_op op_modU (pe_callTy cr_int rfl (T.free 61) (by decide +kernel) (pa_cons (pv 5) pa_nil)) pe_int))) (pss_one (ps_set (i := 5) sc__law_digits.nd rfl (Or.inl rfl) (pe_op op_divU (pv 5) pe_int)))) pss_nil)))) (pss_cons (ps_set (i := 7) sc__law_digits.nd rfl (Or.inl rfl) (pe_op op_modU (pe_callTy cr_int rfl (T.free 61) (by decide +kernel) (pa_cons (pe_op (op_addU (K := K)) (pe_op (op_addU (K := K)) (pe_op (op_mulU (K := K)) (pv 5) pe_int) (pe_op (op_mulU (K := K)) (pv 4) pe_int)) pe_int) pa_nil)) pe_int)) (pss_one (ps_for PassesOwn.never rfl (pi_range1 rfl (T.free 27) (pa_cons pe_int pa_nil)) (pg_name (i := 6) sc__law_digits.nd rfl (Or.inl rfl)) (pss_cons (ps_set (i := 7) sc__law_digits.nd rfl (Or.inl rfl) (pe_op op_modU (pe_callTy cr_int rfl (T.free 61) (by decide +kernel) (pa_cons (pe_op (op_addU (K := K)) (pe_op (op_addU (K := K)) (pe_op (op_mulU (K := K)) (pv 7) pe_int) (pe_op (op_mulU (K := K)) pe_int (pv 6))) pe_int) pa_nil)) pe_int)) (pss_one (ps_expr (pe_appendU (K := K) (pv 3) (pe_op op_modU (pe_callTy cr_int rfl (T.free 61) (by decide +kernel) (pa_cons (pe_op op_divU (pv 7) pe_int) pa_nil)) pe_int))))))))))))) (pss_one (ps_ret (pv 3))))), ?_⟩
  walk_at "st"
  walk_at "nw"
  rintro p _ ⟨hp, rfl⟩
  walk_at "st"
  refine forR (fun i σ H' => ∃ (ds : List Int) (v4 v5 v6 v7 : Option V), σ = [some (.ref a), some (.int 0), some (.int 63), some (.ref p), v4, v5, v6, v7] ∧ H' = upd H p (.lst (ds.map V.int)) ∧ ds.length ≤ 60 * i)
    ⟨[], _, _, _, _, rfl, rfl, Nat.le_refl _⟩ ?_ ?_
  · rintro i σ _ hi ⟨ds, v4, v5, v6, v7, rfl, rfl, hl⟩
    have hi : i < 63 := hi
    walk_at "st"
    refine ⟨a, ns, _, rfl, by walk_at "lk", by omega, fun n => ?_⟩
    walk_at "st"
    refine c_cut (fun σ' H' => ∃ m : Int, σ' = [some (.ref a), some (.int 0), some (.int 63), some (.ref p), some (.int (0 + (i : Int))), some (.int m), v6, v7] ∧ H' = upd H p (.lst (ds.map V.int))) ?_ ?_
    · walk_at "st"
      refine c_ite (fun hlt => ?_) (fun hlt => ?_)
      · walk_at "st"
        exact ⟨_, rfl, rfl⟩
      · walk_at "st"
        exact ⟨_, rfl, rfl⟩
    · rintro _ _ ⟨m, rfl, rfl⟩
      walk_at "st"
      refine c_ite (fun hlt => ?_) (fun hlt => ?_)
      · walk_at "st"
        refine forR (fun j σ H' => ∃ (ds' : List Int) (v6 : Option V) (m : Int), σ = [some (.ref a), some (.int 0), some (.int 63), some (.ref p), some (.int (0 + (i : Int))), some (.int m), v6, v7] ∧ H' = upd H p (.lst (ds'.map V.int)) ∧ ds'.length ≤ ds.length + j)
          ⟨ds, _, _, rfl, rfl, Nat.le_refl _⟩ ?_ ?_
        · rintro j σ _ hj ⟨ds', v6, m, rfl, rfl, hl'⟩
          have hj : j < 60 := hj
          walk_at "st"
          refine c_ite (fun hlt => ?_) (fun hlt => ?_)
          · walk_at "st"
            refine ⟨ds' ++ [m % 1000], _, _, rfl, by rw [upd_upd, map_snocI], by rw [List.length_append, List.length_singleton]; omega⟩
          · walk_at "st"
            exact ⟨ds', _, _, rfl, rfl, by omega⟩
        · rintro σ _ ⟨ds', v6, m, rfl, rfl, hl'⟩
          have hl' : ds'.length ≤ ds.length + 60 := hl'
          walk_at "st"
          exact ⟨ds', _, _, _, _, rfl, rfl, by omega⟩
      · walk_at "st"
        refine forR (fun j σ H' => ∃ (ds' : List Int) (v6 : Option V) (m z : Int), σ = [some (.ref a), some (.int 0), some (.int 63), some (.ref p), some (.int (0 + (i : Int))), some (.int m), v6, some (.int z)] ∧ H' = upd H p (.lst (ds'.map V.int)) ∧ ds'.length ≤ ds.length + j)
          ⟨ds, _, _, _, rfl, rfl, Nat.le_refl _⟩ ?_ ?_
        · rintro j σ _ hj ⟨ds', v6, m, z, rfl, rfl, hl'⟩
          have hj : j < 12 := hj
          walk_at "st"
          refine ⟨ds' ++ [_], _, _, _, rfl, by rw [upd_upd, map_snocI], by rw [List.length_append, List.length_singleton]; omega⟩
        · rintro σ _ ⟨ds', v6, m, z, rfl, rfl, hl'⟩
          have hl' : ds'.length ≤ ds.length + 12 := hl'
          walk_at "st"
          exact ⟨ds', _, _, _, _, rfl, rfl, by omega⟩
  · rintro σ _ ⟨ds, v4, v5, v6, v7, rfl, rfl, hl⟩
    walk_at "st"
    exact q p ds hp
theorem D__law_digits (T : TX K mg) : DefAt P w K mg base CX0 "_law_digits" 3 ["_law_script", "_law_first", "_law_last"] (spDigits K) :=
  def_of T 35 71 sc__law_digits bn__law_digits (fun vs H Q E h => by obtain ⟨b, d, rfl, _⟩ := h; rfl) (b__law_digits T)
end
end K45



namespace K45
open PySem L2 Sa
def isNameS (z : Str) : Bool := decide (1 ≤ z.length) && decide (z.length ≤ 8) && z.cps.toList.all fun c => decide (c ∈ (PySem.Str.ofString "abcdefghijklmnopqrstuvwxyz0123456789").cps.toList)
def isPathS (z : Str) : Bool := decide ((Txt.split z (PySem.Str.ofString "/")).length ≤ 3) && (Txt.split z (PySem.Str.ofString "/")).all isNameS
def isPlaceS (z : Str) : Bool := decide (z = PySem.Str.ofString "") || isPathS z
def plainC (c : Nat) : Bool := decide (32 ≤ c) && decide (c ≤ 126) && !decide (c = 34) && !decide (c = 37)
def isPlainS (z : Str) : Bool := z.cps.toList.all plainC
def isLineS (z : Str) : Bool := decide (z.length ≤ 20) && isPlainS z
def isWordS (z : Str) : Bool := decide (1 ≤ z.length) && decide (z.length ≤ 12) && isPlainS z
def isLinesS (ys : List Str) : Bool := decide (ys.length ≤ 12) && ys.all isLineS
def isInsideS (x y : Str) : Bool := decide (y = PySem.Str.ofString "") || Txt.startswith x (y ++ PySem.Str.ofString "/")
def spStrB (f : Str → Bool) : Sp := fun vs H Q _ => ∃ z : Str, vs = [.str z] ∧ z.length ≤ 100000 ∧ ∀ H', Kp [] H H' → Q (.bl (f z)) H'
theorem spStrB_len (f : Str → Bool) : ∀ vs H Q E, spStrB f vs H Q E → vs.length = 1 := fun vs H Q E h => by obtain ⟨z, rfl, _⟩ := h; rfl
theorem split_small {z y : Str} (h : z.length ≤ 100000) (hy : 0 < y.length) : (Txt.split z y).length ≤ 100001 := by have := split_many (x := z) y hy; omega
theorem all_bl {α : Type} (ys : List α) (f : α → Bool) : (ys.map fun y => V.bl (f y)) = (ys.map f).map V.bl := by simp [Function.comp_def]
theorem all_id {α : Type} (ys : List α) (f : α → Bool) : (ys.map f).all id = ys.all f := by simp [List.all_map, Function.comp_def]
theorem fil_true {α : Type} (ys : List α) : ys.filter (fun _ => true) = ys := by simp
section
variable {P : Program} {w : World} {K : PySem.W.Frag} {mg : Str → Option Value} {base : Heap}
theorem sc_is_name : FnScope ["text", "sign"] ["text"] (defScope s_is_name) := ⟨rfl, rfl, rfl, by decide +kernel, rfl, by decide +kernel, by decide +kernel⟩
theorem bn_is_name : BindN "is_name" s_is_name ["text"] := fun _ _ _ _ _ _ us hl => match us, hl with | [_], _ => rfl
theorem b_is_name (T : TX K mg) : Body P w K mg base "is_name" s_is_name ["text", "sign"] 1 (spStrB isNameS) := by
  intro cdv A outer s H vs Q E h X hr
  obtain ⟨z, rfl, hz, q⟩ := h
  refine ⟨_, (pss_one (ps_ret (pe_and (pe_chain op_leU op_leU pe_int (pe_callB (cr_len (K := K)) rfl (T.free 2) PySem.boot_len (pa_cons (pv 0) pa_nil)) (pe_gInt (T.int 3))) (pe_one (pe_callB (cr_allU (K := K) rfl) rfl (T.free 0) (by decide +kernel) (pa_cons (pe_lc (own := [("sign", 1)]) rfl sc_is_name.nd (pi_str (pv 0)) (blkOk_by (N := ["text", "sign"]) (sc := defScope s_is_name) (by decide +kernel)) (fun _ _ _ _ _ => (pg_name (i := 1) sc_is_name.nd rfl (Or.inl rfl))) (fun _ _ _ _ _ => pts_nil) (fun _ _ _ _ _ => (pe_cmpR (op_inU (K := K)) (pv 1) (pe_gStr (T.str 1)) rfl))) pa_nil)))))), ?_⟩
  have no : ¬ (1 ≤ z.length ∧ z.length ≤ 8) → Q (.bl false) H := fun h => by
    have e : isNameS z = false := by unfold isNameS; by_cases h1 : 1 ≤ z.length <;> by_cases h2 : z.length ≤ 8 <;> simp [h1, h2] <;> exact absurd ⟨h1, h2⟩ h
    have := q H Kp.refl
    rw [e] at this
    exact this
  walk_at "st"
  refine c_ite (fun h1 => ?_) (fun h1 => ?_)
  · walk_at "st"
    refine c_ite (fun h2 => ?_) (fun h2 => ?_)
    · walk_at "st"
      refine lcS_map (fun c => V.bl (decide (c ∈ (PySem.Str.ofString "abcdefghijklmnopqrstuvwxyz0123456789").cps.toList))) (fun _ => true) (by omega) (fun c H' R S hc e k1 k2 => ?_) (fun Dl H' hD e hacc => ?_)
      · walk_at "st"
        refine ⟨rfl, ?_⟩
        walk_at "st"
        exact k1 rfl _ Kp.refl
      · rw [fil_true, all_bl] at hacc
        refine c_allB (SqL.of hacc) ?_
        rw [all_id]
        have g := q H' e
        have e2 : isNameS z = z.cps.toList.all fun c => decide (c ∈ (PySem.Str.ofString "abcdefghijklmnopqrstuvwxyz0123456789").cps.toList) := by
          unfold isNameS
          rw [decide_eq_true (by omega), decide_eq_true (by omega), Bool.true_and, Bool.true_and]
        rw [e2] at g
        exact g
    · walk_at "st"
      exact no (by omega)
  · walk_at "st"
    exact no (by omega)
theorem D_is_name (T : TX K mg) : DefAt P w K mg base CX0 "is_name" 2 ["text"] (spStrB isNameS) :=
  def_of T 0 4 sc_is_name bn_is_name (spStrB_len _) (b_is_name T)
theorem sc_is_path : FnScope ["text", "names", "name"] ["text"] (defScope s_is_path) := ⟨rfl, rfl, rfl, by decide +kernel, rfl, by decide +kernel, by decide +kernel⟩
theorem bn_is_path : BindN "is_path" s_is_path ["text"] := fun _ _ _ _ _ _ us hl => match us, hl with | [_], _ => rfl
theorem b_is_path (T : TX K mg) : Body P w K mg base "is_path" s_is_path ["text", "names", "name"] 2 (spStrB isPathS) := by
  intro cdv A outer s H vs Q E h X hr
  obtain ⟨z, rfl, hz, q⟩ := h
  have D_is_name : DefAt P w K mg base CX0 "is_name" 2 ["text"] (spStrB isNameS) := D_is_name T
  refine ⟨_, (pss_cons (ps_set (i := 1) sc_is_path.nd rfl (Or.inl rfl) (pe_splitU (pv 0) pe_str)) (pss_one (ps_ret (pe_and (pe_cmpR op_leU (pe_callB (cr_len (K := K)) rfl (T.free 2) PySem.boot_len (pa_cons (pv 1) pa_nil)) (pe_gInt (T.int 5)) (nomark _)) (pe_one (pe_callB (cr_allU (K := K) rfl) rfl (T.free 0) (by decide +kernel) (pa_cons (pe_lc (own := [("name", 2)]) rfl sc_is_path.nd (pi_listU (K := K) (pv 1)) (blkOk_by (N := ["text", "names", "name"]) (sc := defScope s_is_path) (by decide +kernel)) (fun _ _ _ _ _ => (pg_name (i := 2) sc_is_path.nd rfl (Or.inl rfl))) (fun _ _ _ _ _ => pts_nil) (fun _ _ _ _ _ => (pe_callA D_is_name hr pass0 (pa_cons (pv 2) pa_nil)))) pa_nil))))))), ?_⟩
  walk_at "st"
  refine c_split (by decide) (by rw [sizeLine_eq]; omega) fun p H1 N => ?_
  have hs := split_small (z := z) (y := PySem.Str.ofString "/") hz (by decide)
  walk_at "st"
  refine c_ite (fun h1 => ?_) (fun h1 => ?_)
  · walk_at "st"
    rw [List.length_map] at h1
    refine lcL_map (fun y => V.bl (isNameS y)) (fun _ => true) (SqL.of N.at_) (by omega) (fun y H' R S hy e k1 k2 => ?_) (fun Dl H' hD e hacc => ?_)
    · walk_at "st"
      refine ⟨rfl, ?_⟩
      walk_at "st"
      have hl := split_part hy
      exact ⟨y, rfl, by omega, fun H4 e4 => k1 rfl _ e4⟩
    · rw [fil_true, all_bl] at hacc
      refine c_allB (SqL.of hacc) ?_
      rw [all_id]
      have g := q H' (N.kp.trans e)
      unfold isPathS at g
      rw [decide_eq_true (by omega), Bool.true_and] at g
      exact g
  · walk_at "st"
    rw [List.length_map] at h1
    have g := q H1 N.kp
    unfold isPathS at g
    rw [decide_eq_false (by omega), Bool.false_and] at g
    exact g
theorem D_is_path (T : TX K mg) : DefAt P w K mg base CX0 "is_path" 3 ["text"] (spStrB isPathS) :=
  def_of T 1 6 sc_is_path bn_is_path (spStrB_len _) (b_is_path T)
theorem sc_is_place : FnScope ["text"] ["text"] (defScope s_is_place) := ⟨rfl, rfl, rfl, by decide +kernel, rfl, by decide +kernel, by decide +kernel⟩
theorem bn_is_place : BindN "is_place" s_is_place ["text"] := fun _ _ _ _ _ _ us hl => match us, hl with | [_], _ => rfl
theorem b_is_place (T : TX K mg) : Body P w K mg base "is_place" s_is_place ["text"] 3 (spStrB isPlaceS) := by
  intro cdv A outer s H vs Q E h X hr
  obtain ⟨z, rfl, hz, q⟩ := h
  have D_is_path : DefAt P w K mg base CX0 "is_path" 3 ["text"] (spStrB isPathS) := D_is_path T
  refine ⟨_, (pss_one (ps_ret (pe_or (pe_cmpR (op_eqU (K := K) hr.units) (pv 0) pe_str (nomark _)) (pe_one (pe_callA D_is_path hr pass0 (pa_cons (pv 0) pa_nil)))))), ?_⟩
  unfold isPlaceS at q
  walk_at "st"
  refine c_ite (fun h1 => ?_) (fun h1 => ?_)
  · walk_at "st"
    have g := q H Kp.refl
    rw [decide_eq_true h1, Bool.true_or] at g
    exact g
  · walk_at "st"
    refine ⟨z, rfl, hz, fun H4 e4 => ?_⟩
    have g := q H4 e4
    rw [decide_eq_false h1, Bool.false_or] at g
    exact g
theorem D_is_place (T : TX K mg) : DefAt P w K mg base CX0 "is_place" 4 ["text"] (spStrB isPlaceS) :=
  def_of T 2 7 sc_is_place bn_is_place (spStrB_len _) (b_is_place T)
theorem sc__is_plain : FnScope ["text", "sign"] ["text"] (defScope s__is_plain) := ⟨rfl, rfl, rfl, by decide +kernel, rfl, by decide +kernel, by decide +kernel⟩
theorem bn__is_plain : BindN "_is_plain" s__is_plain ["text"] := fun _ _ _ _ _ _ us hl => match us, hl with | [_], _ => rfl
theorem b__is_plain (T : TX K mg) : Body P w K mg base "_is_plain" s__is_plain ["text", "sign"] 1 (spStrB isPlainS) := by
  intro cdv A outer s H vs Q E h X hr
  obtain ⟨z, rfl, hz, q⟩ := h
  refine ⟨_, (pss_cons (ps_for PassesOwn.never rfl (pi_str (pv 0)) (pg_name (i := 1) sc__is_plain.nd rfl (Or.inl rfl)) (pss_one (ps_if (PW.pt (pw_or (pt_not (pt_chain op_leU op_leU pe_str (pv 1) pe_str)) (pw_or (pt_cmpR (op_eqU (K := K) hr.units) (pv 1) pe_str (nomark _)) (pw_or1 (pt_cmpR (op_eqU (K := K) hr.units) (pe_callB cr_ord rfl (T.free 8) (by decide +kernel) (pa_cons (pv 1) pa_nil)) (pe_gInt (T.int 9)) (nomark _)))))) (pss_one (ps_ret pe_bl)) pss_nil))) (pss_one (ps_ret pe_bl))), ?_⟩
  walk_at "st"
  refine forS (fun i σ H' => ∃ v, σ = [some (.str z), v] ∧ H = H' ∧ (z.cps.toList.take i).all plainC = true) ⟨_, rfl, rfl, rfl⟩ ?_ ?_
  · rintro i c σ _ hc ⟨v, rfl, rfl, hg⟩
    have yes : plainC c = true → (z.cps.toList.take (i + 1)).all plainC = true := fun h => by rw [take_succ' hc, List.all_append, hg]; simp [h]
    have no : plainC c = false → Q (.bl false) H := fun h => by
      have e : isPlainS z = false := by
        cases q2 : isPlainS z with
        | false => rfl
        | true => rw [List.all_eq_true.mp q2 c (List.mem_of_getElem? hc)] at h; cases h
      have g := q H Kp.refl
      rw [e] at g
      exact g
    have e1 : PySem.Str.ofString " " = ⟨#[32]⟩ := by decide +kernel
    have e2 : PySem.Str.ofString "~" = ⟨#[126]⟩ := by decide +kernel
    have e3 : PySem.Str.ofString "\"" = ⟨#[34]⟩ := by decide +kernel
    have e4 : (⟨#[c]⟩ : Str) = ⟨#[34]⟩ ↔ c = 34 := ⟨fun h => by injection h with h; simpa using h, fun h => by rw [h]⟩
    rw [e1, e2, e3]
    walk_at "st"
    refine c_leC ?_
    walk_at "st"
    refine c_ite (fun h1 => ?_) (fun h1 => ?_)
    · walk_at "st"
      refine c_leC ?_
      walk_at "st"
      refine c_iteN (fun h2 => ?_) (fun h2 => ?_)
      · walk_at "st"
        exact no (by unfold plainC; rw [decide_eq_false h2, Bool.and_false]; rfl)
      · walk_at "st"
        refine c_ite (fun h3 => ?_) (fun h3 => ?_)
        · walk_at "st"
          exact no (by unfold plainC; rw [decide_eq_true (e4.mp h3)]; simp)
        · walk_at "st"
          have h3' : c ≠ 34 := fun h => h3 (e4.mpr h)
          refine c_ite (fun h4 => ?_) (fun h4 => ?_)
          · walk_at "st"
            exact no (by unfold plainC; rw [decide_eq_true (p := c = 37) (by omega)]; simp)
          · walk_at "st"
            exact ⟨_, rfl, rfl, yes (by unfold plainC; simp [h1, h2, h3']; omega)⟩
    · walk_at "st"
      exact no (by unfold plainC; rw [decide_eq_false h1]; rfl)
  · rintro σ _ ⟨v, rfl, rfl, hg⟩
    walk_at "st"
    rw [List.take_length] at hg
    have g := q H Kp.refl
    rw [show isPlainS z = true from hg] at g
    exact g
theorem D__is_plain (T : TX K mg) : DefAt P w K mg base CX0 "_is_plain" 2 ["text"] (spStrB isPlainS) :=
  def_of T 3 10 sc__is_plain bn__is_plain (spStrB_len _) (b__is_plain T)
theorem sc_is_line : FnScope ["text"] ["text"] (defScope s_is_line) := ⟨rfl, rfl, rfl, by decide +kernel, rfl, by decide +kernel, by decide +kernel⟩
theorem bn_is_line : BindN "is_line" s_is_line ["text"] := fun _ _ _ _ _ _ us hl => match us, hl with | [_], _ => rfl
theorem b_is_line (T : TX K mg) : Body P w K mg base "is_line" s_is_line ["text"] 2 (spStrB isLineS) := by
  intro cdv A outer s H vs Q E h X hr
  obtain ⟨z, rfl, hz, q⟩ := h
  have D__is_plain : DefAt P w K mg base CX0 "_is_plain" 2 ["text"] (spStrB isPlainS) := D__is_plain T
  refine ⟨_, (pss_one (ps_ret (pe_and (pe_cmpR op_leU (pe_callB (cr_len (K := K)) rfl (T.free 2) PySem.boot_len (pa_cons (pv 0) pa_nil)) (pe_gInt (T.int 11)) (nomark _)) (pe_one (pe_callA D__is_plain hr pass0 (pa_cons (pv 0) pa_nil)))))), ?_⟩
  unfold isLineS at q
  walk_at "st"
  refine c_ite (fun h1 => ?_) (fun h1 => ?_)
  · walk_at "st"
    refine ⟨z, rfl, hz, fun H4 e4 => ?_⟩
    have g := q H4 e4
    rw [decide_eq_true (by omega), Bool.true_and] at g
    exact g
  · walk_at "st"
    have g := q H Kp.refl
    rw [decide_eq_false (by omega), Bool.false_and] at g
    exact g
theorem D_is_line (T : TX K mg) : DefAt P w K mg base CX0 "is_line" 3 ["text"] (spStrB isLineS) :=
  def_of T 4 12 sc_is_line bn_is_line (spStrB_len _) (b_is_line T)
theorem sc_is_word : FnScope ["text"] ["text"] (defScope s_is_word) := ⟨rfl, rfl, rfl, by decide +kernel, rfl, by decide +kernel, by decide +kernel⟩
theorem bn_is_word : BindN "is_word" s_is_word ["text"] := fun _ _ _ _ _ _ us hl => match us, hl with | [_], _ => rfl
theorem b_is_word (T : TX K mg) : Body P w K mg base "is_word" s_is_word ["text"] 2 (spStrB isWordS) := by
  intro cdv A outer s H vs Q E h X hr
  obtain ⟨z, rfl, hz, q⟩ := h
  have D__is_plain : DefAt P w K mg base CX0 "_is_plain" 2 ["text"] (spStrB isPlainS) := D__is_plain T
  refine ⟨_, (pss_one (ps_ret (pe_and (pe_chain op_leU op_leU pe_int (pe_callB (cr_len (K := K)) rfl (T.free 2) PySem.boot_len (pa_cons (pv 0) pa_nil)) (pe_gInt (T.int 13))) (pe_one (pe_callA D__is_plain hr pass0 (pa_cons (pv 0) pa_nil)))))), ?_⟩
  unfold isWordS at q
  walk_at "st"
  refine c_ite (fun h1 => ?_) (fun h1 => ?_)
  · walk_at "st"
    refine c_ite (fun h2 => ?_) (fun h2 => ?_)
    · walk_at "st"
      refine ⟨z, rfl, hz, fun H4 e4 => ?_⟩
      have g := q H4 e4
      rw [decide_eq_true (by omega), decide_eq_true (by omega), Bool.true_and, Bool.true_and] at g
      exact g
    · walk_at "st"
      have g := q H Kp.refl
      rw [decide_eq_false (p := z.length ≤ 12) (by omega), Bool.and_false, Bool.false_and] at g
      exact g
  · walk_at "st"
    have g := q H Kp.refl
    rw [decide_eq_false (by omega), Bool.false_and] at g
    exact g
theorem D_is_word (T : TX K mg) : DefAt P w K mg base CX0 "is_word" 3 ["text"] (spStrB isWordS) :=
  def_of T 5 14 sc_is_word bn_is_word (spStrB_len _) (b_is_word T)
theorem sc_is_lines : FnScope ["lines", "line"] ["lines"] (defScope s_is_lines) := ⟨rfl, rfl, rfl, by decide +kernel, rfl, by decide +kernel, by decide +kernel⟩
theorem bn_is_lines : BindN "is_lines" s_is_lines ["lines"] := fun _ _ _ _ _ _ us hl => match us, hl with | [_], _ => rfl
def spLines (K : PySem.W.Frag) : Sp := fun vs H Q _ => ∃ (a : Addr) (ys : List Str), vs = [.ref a] ∧ SqT K H a (ys.map V.str) ∧ ys.length ≤ 1000 ∧ (∀ y ∈ ys, y.length ≤ 100000) ∧ ∀ H', Kp [] H H' → Q (.bl (isLinesS ys)) H'
theorem b_is_lines (T : TX K mg) : Body P w K mg base "is_lines" s_is_lines ["lines", "line"] 3 (spLines K) := by
  intro cdv A outer s H vs Q E h X hr
  obtain ⟨a, ys, rfl, hs, hn, hl, q⟩ := h
  have D_is_line : DefAt P w K mg base CX0 "is_line" 3 ["text"] (spStrB isLineS) := D_is_line T
  refine ⟨_, (pss_one (ps_ret (pe_and (pe_cmpR op_leU (pe_callB (cr_len (K := K)) rfl (T.free 2) PySem.boot_len (pa_cons (pv 0) pa_nil)) (pe_gInt (T.int 15)) (nomark _)) (pe_one (pe_callB (cr_allU (K := K) rfl) rfl (T.free 0) (by decide +kernel) (pa_cons (pe_lc (own := [("line", 1)]) rfl sc_is_lines.nd (pi_tupU (K := K) (pv 0)) (blkOk_by (N := ["lines", "line"]) (sc := defScope s_is_lines) (by decide +kernel)) (fun _ _ _ _ _ => (pg_name (i := 1) sc_is_lines.nd rfl (Or.inl rfl))) (fun _ _ _ _ _ => pts_nil) (fun _ _ _ _ _ => (pe_callA D_is_line hr pass0 (pa_cons (pv 1) pa_nil)))) pa_nil)))))), ?_⟩
  unfold isLinesS at q
  walk_at "st"
  refine c_ite (fun h1 => ?_) (fun h1 => ?_)
  · walk_at "st"
    rw [List.length_map] at h1
    refine lcT_map (fun y => V.bl (isLineS y)) (fun _ => true) hs (by omega) (fun y H' R S hy e k1 k2 => ?_) (fun Dl H' hD e hacc => ?_)
    · walk_at "st"
      refine ⟨rfl, ?_⟩
      walk_at "st"
      exact ⟨y, rfl, hl y hy, fun H4 e4 => k1 rfl _ e4⟩
    · rw [fil_true, all_bl] at hacc
      refine c_allB (SqL.of hacc) ?_
      rw [all_id]
      have g := q H' e
      rw [decide_eq_true (by omega), Bool.true_and] at g
      exact g
  · walk_at "st"
    rw [List.length_map] at h1
    have g := q H Kp.refl
    rw [decide_eq_false (by omega), Bool.false_and] at g
    exact g
theorem D_is_lines (T : TX K mg) : DefAt P w K mg base CX0 "is_lines" 4 ["lines"] (spLines K) :=
  def_of T 6 16 sc_is_lines bn_is_lines (fun vs H Q E h => by obtain ⟨z, ys, rfl, _⟩ := h; rfl) (b_is_lines T)
theorem sc_is_inside : FnScope ["path", "place"] ["path", "place"] (defScope s_is_inside) := ⟨rfl, rfl, rfl, by decide +kernel, rfl, by decide +kernel, by decide +kernel⟩
theorem bn_is_inside : BindN "is_inside" s_is_inside ["path", "place"] := fun _ _ _ _ _ _ us hl => match us, hl with | [_, _], _ => rfl
def spInside : Sp := fun vs H Q _ => ∃ x y : Str, vs = [.str x, .str y] ∧ y.length ≤ 100000 ∧ Q (.bl (isInsideS x y)) H
theorem b_is_inside (T : TX K mg) : Body P w K mg base "is_inside" s_is_inside ["path", "place"] 1 spInside := by
  intro cdv A outer s H vs Q E h X hr
  obtain ⟨x, y, rfl, hz, q⟩ := h
  refine ⟨_, (pss_one (ps_ret (pe_or (pe_cmpR (op_eqU (K := K) hr.units) (pv 1) pe_str (nomark _)) (pe_one (pe_m1 PySem.F.slot_str_startswith PySem.F.type_str_startswith mt_startsU (pv 0) (pe_op (op_addU (K := K)) (pv 1) pe_str)))))), ?_⟩
  unfold isInsideS at q
  walk_at "st"
  refine c_ite (fun h1 => ?_) (fun h1 => ?_)
  · walk_at "st"
    rw [decide_eq_true h1, Bool.true_or] at q
    exact q
  · walk_at "st"
    refine c_addS (by rw [sizeLine_eq]; have : (PySem.Str.ofString "/").length = 1 := by decide
                      omega) ?_
    refine c_starts ?_
    rw [decide_eq_false h1, Bool.false_or] at q
    exact q
theorem D_is_inside (T : TX K mg) : DefAt P w K mg base CX0 "is_inside" 2 ["path", "place"] spInside :=
  def_of T 7 17 sc_is_inside bn_is_inside (fun vs H Q E h => by obtain ⟨z, ys, rfl, _⟩ := h; rfl) (b_is_inside T)
end
end K45



namespace K45
open PySem L2 Sa
section
variable {P : Program} {w : World} {K : PySem.W.Frag} {mg : Str → Option Value} {base : Heap}
theorem sc_OutOfRange___init__ : FnScope ["self", "name"] ["self", "name"] (defScope s_OutOfRange___init__) := ⟨rfl, rfl, rfl, by decide +kernel, rfl, by decide +kernel, by decide +kernel⟩
theorem bn_OutOfRange___init__ : BindM "__init__" "OutOfRange.__init__" s_OutOfRange___init__ ["self", "name"] := fun _ _ _ _ _ _ us hl => match us, hl with | [_, _], _ => rfl
theorem b_oor (T : TX K mg) : BodyM P w K mg base "OutOfRange" "__init__" "OutOfRange.__init__" s_OutOfRange___init__ ["self", "name"] 1 (spInit K (He.ga K "OutOfRange") "name") := by
  intro cdv A outer s H vs Q E h X hr
  obtain ⟨a, v, rfl, ha, q⟩ := h
  refine ⟨_, (pss_one (ps_ost (pv 0) (pv 1))), ?_⟩
  have hc := T.oex 5
  walk_at "st"
  refine c_ost ?_
  walk_at "st"
  refine ⟨a, He.ga K "OutOfRange", rfl, hc, He.noat_ok (T.fact 124), .inl ⟨ha, fun dx h1 h2 => ?_⟩⟩
  exact q dx h1 h2
theorem E_OutOfRange (T : TX K mg) : ErrC P w K mg base "OutOfRange" "name" :=
  ⟨T.glo 24, T.oex 5, T.xfc 6, He.noat_ok (T.fact 124), _,
    meth_of T 63 101 sc_OutOfRange___init__ bn_OutOfRange___init__ (fun vs H Q E h => by obtain ⟨b, d, rfl, _⟩ := h; rfl) (b_oor T)⟩
end
end K45



namespace K45
open PySem L2 Sa
structure Sane (fs : List File) : Prop where
  len : fs.length ≤ 500
  row : ∀ f ∈ fs, f.1.length ≤ 1000 ∧ f.2.length ≤ 500 ∧ ∀ y ∈ f.2, y.length ≤ 1000
def pathsOf (fs : List File) : List Str := fs.map Prod.fst
def goodRow (ps : List Str) (f : File) : Bool := isPathS f.1 && isLinesS f.2 && !(ps.any fun o => isInsideS f.1 o)
def goodF (fs : List File) : Bool := decide (fs.length ≤ 20) && !decide ((ded (pathsOf fs)).length < fs.length) && fs.all (goodRow (pathsOf fs))
section
variable {P : Program} {w : World} {K : PySem.W.Frag} {mg : Str → Option Value} {base : Heap}
theorem sc__are_files : FnScope ["files", "path", "paths", "lines", "_", "other"] ["files"] (defScope s__are_files) := ⟨rfl, rfl, rfl, by decide +kernel, rfl, by decide +kernel, by decide +kernel⟩
theorem bn__are_files : BindN "_are_files" s__are_files ["files"] := fun _ _ _ _ _ _ us hl => match us, hl with | [_], _ => rfl
def spAreFiles (K : PySem.W.Frag) : Sp := fun vs H Q _ => ∃ (a : Addr) (fs : List File), vs = [.ref a] ∧ RowsAt K H a fs ∧ Sane fs ∧ ∀ H', Kp [] H H' → Q (.bl (goodF fs)) H'
theorem b__are_files (T : TX K mg) : Body P w K mg base "_are_files" s__are_files ["files", "path", "paths", "lines", "_", "other"] 4 (spAreFiles K) := by
  intro cdv A outer s H vs Q E h X hr
  obtain ⟨a, fs, rfl, ⟨rs, hsq, rfl, hrs⟩, hsane, q⟩ := h
  have D_is_path : DefAt P w K mg base CX0 "is_path" 3 ["text"] (spStrB isPathS) := D_is_path T
  have D_is_lines : DefAt P w K mg base CX0 "is_lines" 4 ["lines"] (spLines K) := D_is_lines T
  have D_is_inside : DefAt P w K mg base CX0 "is_inside" 2 ["path", "place"] spInside := D_is_inside T
  refine ⟨_, (pss_cons (ps_setLc (i := 2) (own := [("path", 1), ("_", 4)]) rfl sc__are_files.nd rfl rfl (sw_true rfl rfl rfl (by decide +kernel)) (pi_seq (K := K) (pv 0)) (blkOk_by (N := ["files", "path", "paths", "lines", "_", "other"]) (sc := defScope s__are_files) (by decide +kernel)) (fun _ _ _ _ _ => (pg_tupU (K := K) (n := 2) rfl (pgs_cons (pg_name (i := 1) sc__are_files.nd rfl (Or.inl rfl)) (pgs_cons (pg_name (i := 4) sc__are_files.nd rfl (Or.inl rfl)) pgs_nil)))) (fun _ _ _ _ _ => pts_nil) (fun _ _ _ _ _ => (pv 1))) (pss_cons (ps_if (PW.pt (pw_or (pt_cmpR op_gtU (pe_callB (cr_len (K := K)) rfl (T.free 2) PySem.boot_len (pa_cons (pv 2) pa_nil)) (pe_gInt (T.int 20)) (nomark _)) (pw_or1 (pt_cmpR op_ltU (pe_lenSetU (K := K) rfl (T.free 2) (T.free 19) (pv 2)) (pe_callB (cr_len (K := K)) rfl (T.free 2) PySem.boot_len (pa_cons (pv 2) pa_nil)) (nomark _))))) (pss_one (ps_ret pe_bl)) pss_nil) (pss_cons (ps_for PassesOwn.never rfl (pi_seq (K := K) (pv 0)) (pg_tupU (K := K) (n := 2) rfl (pgs_cons (pg_name (i := 1) sc__are_files.nd rfl (Or.inr rfl)) (pgs_cons (pg_name (i := 3) sc__are_files.nd rfl (Or.inl rfl)) pgs_nil))) (pss_one (ps_if (PW.pt (pw_or (pt_not (pt_tru (K := K) (pe_callA D_is_path hr pass0 (pa_cons (pv 1) pa_nil)))) (pw_or (pt_not (pt_tru (K := K) (pe_callA D_is_lines hr pass0 (pa_cons (pv 3) pa_nil)))) (pw_or1 (pt_tru (K := K) (pe_callB (cr_anyU (K := K) rfl) rfl (T.free 18) (by decide +kernel) (pa_cons (pe_lc (own := [("other", 5)]) rfl sc__are_files.nd (pi_listU (K := K) (pv 2)) (blkOk_by (N := ["files", "path", "paths", "lines", "_", "other"]) (sc := defScope s__are_files) (by decide +kernel)) (fun _ _ _ _ _ => (pg_name (i := 5) sc__are_files.nd rfl (Or.inl rfl))) (fun _ _ _ _ _ => pts_nil) (fun _ _ _ _ _ => (pe_callA D_is_inside hr pass0 (pa_cons (pv 1) (pa_cons (pv 5) pa_nil))))) pa_nil))))))) (pss_one (ps_ret pe_bl)) pss_nil))) (pss_one (ps_ret pe_bl))))), ?_⟩
  have hlen := hsane.len
  rw [List.length_map] at hlen
  let d0 : RowA := (0, 0, (Str.empty, []))
  walk_at "st"
  refine c_seqC hsq fun J ok I hok => ?_
  refine lcQ_map I (fun i => V.str (rs.getD i d0).2.2.1) (by omega) hok (fun i x H' H'' R S hi e y k => ?_) (fun Dl H1 hD e hacc => ?_)
  · obtain ⟨rfl, r, hr1, rfl⟩ := y
    have ho := (hrs r (List.mem_of_getElem? hr1)).kp e
    walk_at "st"
    refine c_unT ho.row rfl ?_
    walk_at "st"
    refine ⟨rfl, ?_⟩
    walk_at "st"
    rw [← getD_of (d := d0) hr1]
    exact k _ Kp.refl
  have ep : ((List.range rs.length).map fun i => V.str (rs.getD i d0).2.2.1) = (pathsOf (rs.map fun r => r.2.2)).map V.str := by
    rw [range_getD rs d0 (fun r => V.str r.2.2.1)]
    simp [pathsOf, Function.comp_def]
  rw [ep] at hacc
  generalize hfs : (rs.map fun r => r.2.2) = fs at *
  have hl2 : rs.length = fs.length := by rw [← hfs, List.length_map]
  have hpl : (pathsOf fs).length = fs.length := by unfold pathsOf; rw [List.length_map]
  walk_at "st"
  have hpl2 : (((pathsOf fs).map V.str).length : Int) = (fs.length : Int) := by rw [List.length_map, hpl]
  rw [hpl2]
  have hpl3 : ∀ p ∈ pathsOf fs, p.length ≤ 1000 := fun p hp => by
    obtain ⟨f, hf, rfl⟩ := List.mem_map.mp hp
    exact (hsane.row f hf).1
  refine c_ite (fun h1 => ?_) (fun h1 => ?_)
  · walk_at "st"
    have g := q H1 e
    unfold goodF at g
    rw [decide_eq_false (by omega), Bool.false_and, Bool.false_and] at g
    exact g
  walk_at "st"
  refine ⟨Dl, pathsOf fs, rfl, SqL.of hacc, by omega, ?_⟩
  walk_at "st"
  rw [hpl2]
  refine c_ite (fun h2 => ?_) (fun h2 => ?_)
  · walk_at "st"
    have g := q H1 e
    unfold goodF at g
    rw [decide_eq_true (p := (ded (pathsOf fs)).length < fs.length) (by omega), Bool.not_true, Bool.and_false, Bool.false_and] at g
    exact g
  have e0 : goodF fs = fs.all (goodRow (pathsOf fs)) := by
    unfold goodF
    rw [decide_eq_true (by omega), decide_eq_false (by omega), Bool.not_false, Bool.true_and, Bool.true_and]
  rw [e0] at q
  walk_at "st"
  refine c_seqF (Sq.kp hsq e) fun J ok I hok => ?_
  refine forQ I (fun i σ H' => ∃ (v1 v3 : Option V), σ = [some (.ref a), v1, some (.ref Dl), v3, none, none] ∧ Kp [] H1 H' ∧ (fs.take i).all (goodRow (pathsOf fs)) = true) ⟨_, _, rfl, Kp.refl, rfl⟩ (by rintro i σ H' ⟨_, _, _, e', _⟩; exact hok H' e') ?_ ?_
  · rintro i x σ H2 _ hi ⟨v1, v3, rfl, e2, hg⟩ ⟨rfl, r, hr1, rfl⟩
    have ho := (hrs r (List.mem_of_getElem? hr1)).kp (e.trans e2)
    have hf : fs[i]? = some r.2.2 := by rw [← hfs, List.getElem?_map, hr1]; rfl
    obtain ⟨s1, s2, s3⟩ := hsane.row r.2.2 (List.mem_of_getElem? hf)
    have yes : goodRow (pathsOf fs) r.2.2 = true → (fs.take (i + 1)).all (goodRow (pathsOf fs)) = true := fun h => by rw [take_succ' hf, List.all_append, hg]; simp [h]
    have no : ∀ H', Kp [] H1 H' → goodRow (pathsOf fs) r.2.2 = false → Q (.bl false) H' := fun H' e' h => by
      have g := q H' (e.trans e')
      have : fs.all (goodRow (pathsOf fs)) = false := by
        cases q2 : fs.all (goodRow (pathsOf fs)) with
        | false => rfl
        | true => rw [List.all_eq_true.mp q2 _ (List.mem_of_getElem? hf)] at h; cases h
      rw [this] at g
      exact g
    walk_at "st"
    refine c_unT ho.row rfl ?_
    walk_at "st"
    refine ⟨_, rfl, by omega, fun H3 e3 => ?_⟩
    walk_at "st"
    refine c_iteNB (fun g1 => ?_) (fun g1 => ?_)
    · walk_at "st"
      exact no _ (e2.trans e3) (by unfold goodRow; rw [g1]; rfl)
    walk_at "st"
    refine ⟨_, _, rfl, (ho.kp e3).lines, by omega, fun y hy => Nat.le_trans (s3 y hy) (by decide), fun H4 e4 => ?_⟩
    walk_at "st"
    refine c_iteNB (fun g2 => ?_) (fun g2 => ?_)
    · walk_at "st"
      exact no _ (e2.trans (e3.trans e4)) (by unfold goodRow; rw [g2, Bool.and_false]; rfl)
    walk_at "st"
    have k4 : H4 Dl = some (.lst ((pathsOf fs).map V.str)) := e4.at0 (e3.at0 (e2.at0 hacc))
    refine lcL_map (fun o => V.bl (isInsideS r.2.2.1 o)) (fun _ => true) (SqL.of k4) (by omega) (fun y H' R S hy e' k1 k2 => ?_) (fun D2 H5 hD2 e5 hacc5 => ?_)
    · walk_at "st"
      refine ⟨rfl, ?_⟩
      walk_at "st"
      exact ⟨_, _, rfl, Nat.le_trans (hpl3 y hy) (by decide), k1 rfl _ Kp.refl⟩
    rw [fil_true, all_bl] at hacc5
    refine c_anyB (SqL.of hacc5) ?_
    rw [List.any_map]
    walk_at "st"
    have ea : ((pathsOf fs).any (id ∘ fun o => isInsideS r.2.2.1 o)) = (pathsOf fs).any fun o => isInsideS r.2.2.1 o := rfl
    rw [ea]
    refine c_iteB (fun g3 => ?_) (fun g3 => ?_)
    · walk_at "st"
      exact no _ (e2.trans (e3.trans (e4.trans e5))) (by unfold goodRow; rw [g3]; simp)
    · walk_at "st"
      exact ⟨_, _, rfl, e2.trans (e3.trans (e4.trans e5)), yes (by unfold goodRow; rw [g1, g2, g3]; rfl)⟩
  · rintro σ H2 ⟨v1, v3, rfl, e2, hg⟩
    rw [hl2, List.take_length] at hg
    walk_at "st"
    have g := q H2 (e.trans e2)
    rw [hg] at g
    exact g
theorem D__are_files (T : TX K mg) : DefAt P w K mg base CX0 "_are_files" 5 ["files"] (spAreFiles K) :=
  def_of T 8 21 sc__are_files bn__are_files (fun vs H Q E h => by obtain ⟨a, fs, rfl, _⟩ := h; rfl) (b__are_files T)
end
end K45


namespace K45
open PySem L2 Sa
section
variable {P : Program} {w : World} {K : PySem.W.Frag} {mg : Str → Option Value} {base : Heap}
theorem C_Tree (T : TX K mg) : ClsAt K mg "Tree" := ⟨T.glo 68, He.cls_ok (T.fact 125)⟩
theorem Mk_Tree (T : TX K mg) : Mk K (He.ga K "Tree") (He.ma K (He.ga K "Tree") "__init__") := He.mkr_ok (T.fact 126)
theorem F_Tree (T : TX K mg) : NoAttr K (He.ga K "Tree") "_files" := He.noat_ok (T.fact 127)
theorem sc_Tree___init__ : FnScope ["self", "files", "path", "lines"] ["self", "files"] (defScope s_Tree___init__) := ⟨rfl, rfl, rfl, by decide +kernel, rfl, by decide +kernel, by decide +kernel⟩
theorem bn_Tree___init__ : BindD "__init__" "Tree.__init__" s_Tree___init__ ["self", "files"] 1 := fun _ _ _ _ _ _ _ us its hl hi => match us, hl, its, hi with | [_, _], _, [_], _ => ⟨_, rfl, rfl⟩
def spTreeInit (K : PySem.W.Frag) : Sp := fun vs H Q E => ∃ (a x dx : Addr) (fs : List File), vs = [.ref x, .ref a] ∧ H x = some (.ins (He.ga K "Tree") dx []) ∧ RowsAt K H a fs ∧ Sane fs ∧
  (goodF fs = true → ∀ H', Kp [x] H H' → TreeAt K H' x (sortF fs) → Q .non H') ∧ (goodF fs = false → ∀ d H', Kp [] H H' → H' d = some (.xd [("name", .str "files")]) → E (.ref (He.ga K "OutOfRange")) (some d) H')
theorem ded_fold : ∀ (xs σ : List Str), (xs.foldl stepT σ).length ≤ σ.length + xs.length ∧ ((xs.foldl stepT σ).length = σ.length + xs.length → xs.Nodup ∧ ∀ x ∈ xs, x ∉ σ)
  | [], σ => ⟨Nat.le_refl _, fun _ => ⟨.nil, by simp⟩⟩
  | x :: r, σ => by
    obtain ⟨i1, i2⟩ := ded_fold r (stepT σ x)
    have hl := stepT_length σ x
    rw [List.foldl_cons, List.length_cons]
    by_cases h : σ.any (· == x) = true
    · rw [if_pos h] at hl
      exact ⟨by omega, fun e => by omega⟩
    · rw [if_neg h] at hl
      refine ⟨by omega, fun e => ?_⟩
      obtain ⟨j1, j2⟩ := i2 (by omega)
      have es : stepT σ x = σ ++ [x] := by unfold stepT; rw [if_neg h]
      rw [es] at j2
      have hx : x ∉ σ := fun hm => h (List.any_eq_true.mpr ⟨x, hm, by simp⟩)
      refine ⟨List.nodup_cons.mpr ⟨fun hm => j2 x hm (by simp), j1⟩, fun y hy => ?_⟩
      rcases List.mem_cons.mp hy with rfl | hy
      · exact hx
      · exact fun hm => j2 y hy (by simp [hm])
theorem ded_once {xs : List Str} (h : (ded xs).length = xs.length) : xs.Nodup := ((ded_fold xs []).2 (by rw [List.length_nil, Nat.zero_add]; exact h)).1
theorem goodF_once {fs : List File} (h : goodF fs = true) : Once fs := by
  simp only [goodF, Bool.and_eq_true, decide_eq_true_eq, Bool.not_eq_true', decide_eq_false_iff_not] at h
  have h1 := ded_le (pathsOf fs)
  have h2 : (pathsOf fs).length = fs.length := by unfold pathsOf; rw [List.length_map]
  show (pathsOf fs).Nodup
  exact ded_once (by omega)
theorem b_tree_init (T : TX K mg) : BodyMX P w K mg base "Tree" "__init__" "Tree.__init__" s_Tree___init__ ["self", "files", "path", "lines"] 5 (spTreeInit K) := by
  intro cdv A outer s H vs Q E h X hr tk
  obtain ⟨a, x, dx, fs, rfl, hx, hrows, hsane, q1, q2⟩ := h
  have D__are_files : DefAt P w K mg base CX0 "_are_files" 5 ["files"] (spAreFiles K) := D__are_files T
  have E_OutOfRange : ErrC P w K mg base "OutOfRange" "name" := E_OutOfRange T
  refine ⟨_, (pss_cons (ps_if (pt_not (pt_tru (K := K) (pe_callA D__are_files hr pass0 (pa_cons (pv 1) pa_nil)))) (pss_one (ps_raiseE (K := K) E_OutOfRange hr tk (pa_cons pe_str pa_nil))) pss_nil) (pss_one (ps_fldU (K := K) (pv 0) (pe_dc (own := [("path", 2), ("lines", 3)]) rfl sc_Tree___init__.nd (pi_seq (K := K) (pv 1)) (blkOk_by (N := ["self", "files", "path", "lines"]) (sc := defScope s_Tree___init__) (by decide +kernel)) (fun _ _ _ _ _ => (pg_tupU (K := K) (n := 2) rfl (pgs_cons (pg_name (i := 2) sc_Tree___init__.nd rfl (Or.inl rfl)) (pgs_cons (pg_name (i := 3) sc_Tree___init__.nd rfl (Or.inl rfl)) pgs_nil)))) (fun _ _ _ _ _ => pts_nil) (fun _ _ _ _ _ => (pv 2)) (fun _ _ _ _ _ => (pe_callTy (cr_tuple (K := K)) rfl (T.free 28) (by decide +kernel) (pa_cons (pv 3) pa_nil))))))), ?_⟩
  walk_at "st"
  refine ⟨a, fs, rfl, hrows, hsane, fun H1 e1 => ?_⟩
  walk_at "st"
  refine c_iteNB (fun g => ?_) (fun g => ?_)
  · walk_at "st"
    exact c_err fun d H2 N => q2 g d H2 (e1.trans N.kp) N.at_
  obtain ⟨rs, hsq, hfs, hrs⟩ := hrows
  let d0 : RowA := (0, 0, (Str.empty, []))
  have hl : rs.length = fs.length := by rw [← hfs, List.length_map]
  have once := goodF_once g
  walk_at "st"
  refine c_seqD (Sq.kp hsq e1) fun J ok I hok => ?_
  refine dcQ_map I (fun i => (rs.getD i d0).2.2.1) (fun i => .ref (rs.getD i d0).2.1) ?_ (by have := hsane.len; omega) hok (fun i y H' H'' R S hi e z k => ?_) (fun D H2 hD e2 hacc => ?_)
  · rw [range_getD rs d0 (fun r => r.2.2.1)]
    have : (rs.map fun r => r.2.2.1) = fs.map Prod.fst := by rw [← hfs, List.map_map]; rfl
    rw [this]
    exact once
  · obtain ⟨rfl, r, hr1, rfl⟩ := z
    have ho := (hrs r (List.mem_of_getElem? hr1)).kp (e1.trans e)
    walk_at "st"
    refine c_unT ho.row rfl ?_
    walk_at "st"
    refine ⟨rfl, ?_⟩
    walk_at "st"
    refine c_tupleT ho.lines ?_
    rw [← getD_of (d := d0) hr1]
    exact k _ Kp.refl
  rw [range_getD rs d0 (fun r => ((Sum.inr r.2.2.1 : Key), V.ref r.2.1))] at hacc
  walk_at "st"
  have hx2 : H2 x = some (.ins (He.ga K "Tree") dx []) := e2.at0 (e1.at0 hx)
  refine c_setFAt hx2 (C_Tree T).cls (F_Tree T) (by simp) ?_
  have nx : D ≠ x := fun z => by rw [z, hx2] at hacc; cases hacc
  have kk : Kp [x] H (upd H2 x (.ins (He.ga K "Tree") dx (putF "_files" (.ref D) []))) := (e1.trans e2).mono.trans (Kp.mut (by simp))
  refine q1 g _ kk ⟨dx, D, rs.map fun r => (r.2.1, r.2.2), upd_same, ?_, ?_, ?_, ?_⟩
  · rw [upd_ne nx, hacc, List.map_map]
    rfl
  · intro l hl
    obtain ⟨r, hr1, rfl⟩ := List.mem_map.mp hl
    have ho := (hrs r hr1).kp (e1.trans e2)
    have h4 := ho.lines
    rcases h4 with h3 | h3
    · refine .inl (rd_at (fun o ho2 => ?_) h3)
      by_cases hz : r.2.1 = x
      · exfalso
        have h3' : Rd H2 r.2.1 (.tup (r.2.2.2.map V.str)) := h3
        rw [hz] at h3'
        rcases h3' with h3 | ⟨o, h3⟩
        · rw [hx2] at h3; cases h3
        · rw [hx2] at h3; cases h3
      · rw [upd_ne hz]; exact ho2
    · exact .inr h3
  · rw [List.map_map]
    have : (Prod.snd ∘ fun r : RowA => (r.2.1, r.2.2)) = fun r : RowA => r.2.2 := rfl
    rw [this, hfs]
    exact once
  · rw [List.map_map]
    have : (Prod.snd ∘ fun r : RowA => (r.2.1, r.2.2)) = fun r : RowA => r.2.2 := rfl
    rw [this, hfs]
theorem M_Tree___init__ (T : TX K mg) : MethAt P w K mg base (L2.CX P w) "Tree" "__init__" 6 ["self", "files"] (spTreeInit K) :=
  meth_ofXD T 64 102 sc_Tree___init__ bn_Tree___init__ (List.cons_ne_nil _ _) (fun vs H Q E h => by obtain ⟨a, x, dx, fs, rfl, _⟩ := h; rfl) (b_tree_init T)
theorem bn0_Tree___init__ : BindD0 "__init__" "Tree.__init__" s_Tree___init__ ["self", "files"] := fun _ _ _ _ _ _ _ us its hl hi => match us, hl, its, hi with | [_], _, [_], _ => ⟨_, rfl, rfl⟩
theorem M0_Tree___init__ (T : TX K mg) : MethD P w K mg base (L2.CX P w) "Tree" "__init__" 6 ["self", "files"] (spTreeInit K) (.ref (He.dflAt ("Tree", some "__init__") 0 K)) :=
  meth_ofXD0 T 64 102 sc_Tree___init__ bn0_Tree___init__ rfl (fun vs H Q E h => by obtain ⟨a, x, dx, fs, rfl, _⟩ := h; rfl) (b_tree_init T)
theorem dflTree (T : TX K mg) (H : Hp) : Dp K H (.ref (He.dflAt ("Tree", some "__init__") 0 K)) (.tuple []) := T.cstA (p := He.dflAt ("Tree", some "__init__") 0) 4 rfl H
end
end K45



namespace K45
open PySem L2 Sa
section
variable {P : Program} {w : World} {K : PySem.W.Frag} {mg : Str → Option Value} {base : Heap}
theorem valV_at {ls : List (Addr × File)} (ho : Once (ls.map Prod.snd)) {p : Str} : valV (ls.map fun l => ((Sum.inr l.2.1 : Key), V.ref l.1)) (Sum.inr p) = (ls.find? fun l => decide (l.2.1 = p)).map fun l => V.ref l.1 := by
  unfold valV
  rw [List.find?_map, Option.map_map]
  congr 1
  congr 1
  funext l
  simp
def linesAt (ls : List (Addr × File)) (p : Str) : Addr := ((ls.find? fun l => decide (l.2.1 = p)).map Prod.fst).getD 0
theorem linesAt_ok {ls : List (Addr × File)} (ho : Once (ls.map Prod.snd)) {f : File} (hf : f ∈ ls.map Prod.snd) : ∃ l ∈ ls, l.2 = f ∧ ls.find? (fun l => decide (l.2.1 = f.1)) = some l ∧ linesAt ls f.1 = l.1 := by
  obtain ⟨l0, hl0, rfl⟩ := List.mem_map.mp hf
  cases h : ls.find? fun l => decide (l.2.1 = l0.2.1) with
  | none =>
    have := List.find?_eq_none.mp h l0 hl0
    simp at this
  | some l =>
    have hm := List.mem_of_find?_eq_some h
    have he : l.2.1 = l0.2.1 := by have := List.find?_some h; simpa using this
    have e1 := (at_some ho).mpr (show (l0.2.1, l0.2.2) ∈ ls.map Prod.snd from List.mem_map_of_mem (f := Prod.snd) hl0)
    have e2 := (at_some ho).mpr (show (l.2.1, l.2.2) ∈ ls.map Prod.snd from List.mem_map_of_mem (f := Prod.snd) hm)
    rw [he, e1] at e2
    refine ⟨l, hm, Prod.ext he (Option.some.inj e2).symm, rfl, ?_⟩
    unfold linesAt
    rw [h]
    rfl
theorem sc_Tree_lines : FnScope ["self", "path"] ["self", "path"] (defScope s_Tree_lines) := ⟨rfl, rfl, rfl, by decide +kernel, rfl, by decide +kernel, by decide +kernel⟩
theorem bn_Tree_lines : BindM "lines" "Tree.lines" s_Tree_lines ["self", "path"] := fun _ _ _ _ _ _ us hl => match us, hl with | [_, _], _ => rfl
def spTLines (K : PySem.W.Frag) : Sp := fun vs H Q _ => ∃ (x : Addr) (p : Str) (fs : List File), vs = [.ref x, .str p] ∧ TreeAt K H x fs ∧ (at? fs p = none → Q .non H) ∧ (∀ ls l, at? fs p = some ls → SqT K H l (ls.map V.str) → Q (.ref l) H)
theorem b_tree_lines (T : TX K mg) : BodyM P w K mg base "Tree" "lines" "Tree.lines" s_Tree_lines ["self", "path"] 1 (spTLines K) := by
  intro cdv A outer s H vs Q E h X hr
  obtain ⟨x, p, fs, rfl, ⟨dx, d, ls, hx, hd, hls, ho, rfl⟩, q1, q2⟩ := h
  refine ⟨_, (pss_one (ps_ret (pe_dgetU (hu_of hr) (pe_fldU (K := K) (pv 0)) (pv 1)))), ?_⟩
  walk_at "st"
  refine c_fldAt hx (C_Tree T).cls (F_Tree T) rfl ?_
  refine ⟨d, rfl, .inl ⟨_, .inl hd⟩, ?_⟩
  walk_at "st"
  refine ⟨_, .inl ⟨_, Sum.inr p, .inl hd, rfl, rfl⟩, ?_⟩
  rw [valV_at ho]
  have ea : at? (sortF (ls.map Prod.snd)) p = (ls.find? fun l => decide (l.2.1 = p)).map fun l => l.2.2 := by
    rw [← at_perm ho (sortF_perm _).symm]
    unfold at?
    rw [List.find?_map, Option.map_map]
    rfl
  rw [ea] at q1
  rw [ea] at q2
  cases hf : ls.find? fun l => decide (l.2.1 = p) with
  | none =>
    rw [hf] at q1
    exact q1 rfl
  | some l =>
    rw [hf] at q2
    exact q2 _ _ rfl (hls l (List.mem_of_find?_eq_some hf))
theorem M_Tree_lines (T : TX K mg) : MethAt P w K mg base CX0 "Tree" "lines" 2 ["self", "path"] (spTLines K) :=
  meth_of T 66 104 sc_Tree_lines bn_Tree_lines (fun vs H Q E h => by obtain ⟨a, x, fs, rfl, _⟩ := h; rfl) (b_tree_lines T)
theorem sc_Tree_files : FnScope ["self", "path"] ["self"] (defScope s_Tree_files) := ⟨rfl, rfl, rfl, by decide +kernel, rfl, by decide +kernel, by decide +kernel⟩
theorem bn_Tree_files : BindM "files" "Tree.files" s_Tree_files ["self"] := fun _ _ _ _ _ _ us hl => match us, hl with | [_], _ => rfl
def spTFiles (K : PySem.W.Frag) : Sp := fun vs H Q _ => ∃ (x : Addr) (fs : List File), vs = [.ref x] ∧ TreeAt K H x fs ∧ fs.length ≤ 60 ∧ ∀ p H' (rs : List RowA), Kp [] H H' → SqT K H' p (rs.map fun r => V.ref r.1) → rs.map (fun r => r.2.2) = fs → (∀ r ∈ rs, RowOk K H' r) → Q (.ref p) H'
theorem b_tree_files (T : TX K mg) : BodyM P w K mg base "Tree" "files" "Tree.files" s_Tree_files ["self", "path"] 1 (spTFiles K) := by
  intro cdv A outer s H vs Q E h X hr
  obtain ⟨x, fs, rfl, ⟨dx, d, ls, hx, hd, hls, ho, rfl⟩, hn, q⟩ := h
  refine ⟨_, (pss_one (ps_ret (pe_callTy (cr_tuple (K := K)) rfl (T.free 28) (by decide +kernel) (pa_cons (pe_lc (own := [("path", 1)]) rfl sc_Tree_files.nd (pi_listU (K := K) (pe_callB (cr_sortedDU rfl) rfl (T.free 30) (by decide +kernel) (pa_cons (pe_fldU (K := K) (pv 0)) pa_nil))) (blkOk_by (N := ["self", "path"]) (sc := defScope s_Tree_files) (by decide +kernel)) (fun _ _ _ _ _ => (pg_name (i := 1) sc_Tree_files.nd rfl (Or.inl rfl))) (fun _ _ _ _ _ => pts_nil) (fun _ _ _ _ _ => (pe_tup (pa_cons (pv 1) (pa_cons (pe_dget (hu_of hr) (pe_fldU (K := K) (pv 0)) (pv 1) (fun _ _ => rfl)) pa_nil))))) pa_nil)))), ?_⟩
  walk_at "st"
  refine c_fldAt hx (C_Tree T).cls (F_Tree T) rfl ?_
  walk_at "st"
  rw [sortF_len, List.length_map] at hn
  refine ⟨d, _, (ls.map Prod.snd).map Prod.fst, rfl, .inl hd, ?_, by rw [List.length_map, List.length_map]; omega, fun ys p hp hs hpf => ?_⟩
  · rw [List.map_map, List.map_map, List.map_map]
    rfl
  have ey := sorted_keys hp hs
  subst ey
  generalize hfs : sortF (ls.map Prod.snd) = fs at *
  have hmem : ∀ f ∈ fs, f ∈ ls.map Prod.snd := fun f hf => (sortF_perm (ls.map Prod.snd)).subset (hfs ▸ hf)
  have hlen : fs.length = ls.length := by rw [← hfs, sortF_len, List.length_map]
  let d0 : File := (Str.empty, [])
  have hp1 : SqL K (upd H p (.lst ((fs.map Prod.fst).map V.str))) p (fs.map fun f => V.str f.1) := by
    rw [List.map_map]
    exact SqL.of upd_same
  refine ⟨p, rfl, ⟨_, hp1⟩, ?_⟩
  refine lcQ_new (itn_l (ys := fs) (u := fun f => V.str f.1)) (fun i => .tup [.str (fs.getD i d0).1, .ref (linesAt ls (fs.getD i d0).1)]) (by omega) (fun H' e => SqL.kp e hp1) (fun i y H' H'' R S hi e z k => ?_) (fun D qs H2 hD e2 hacc hql hqs => ?_)
  · obtain ⟨rfl, f, hf, rfl⟩ := z
    have k0 : Kp [] H H'' := (Kp.new hpf).trans e
    obtain ⟨l, hl1, rfl, hl3, hl4⟩ := linesAt_ok ho (hmem f (List.mem_of_getElem? hf))
    walk_at "st"
    refine ⟨rfl, ?_⟩
    walk_at "st"
    refine c_fldAt (k0.at0 hx) (C_Tree T).cls (F_Tree T) rfl ?_
    walk_at "st"
    refine ⟨d, .ref l.1, rfl, .inl ⟨_, Sum.inr l.2.1, .inl (k0.at0 hd), rfl, by rw [valV_at ho, hl3]; rfl⟩, ?_⟩
    walk_at "st"
    walk_at "nw"
    intro q4 H4 N
    refine k q4 H4 N.fr N.kp ?_
    rw [N.at_, getD_of (d := d0) hf, hl4]
  walk_at "st"
  refine c_tupleL (SqL.of hacc) fun p3 H3 N3 => ?_
  have kk : Kp [] H H3 := ((Kp.new hpf).trans e2).trans N3.kp
  refine q p3 H3 (List.zipWith (fun q f => (q, linesAt ls f.1, f)) qs fs) kk ?_ ?_ ?_
  · have : (List.zipWith (fun q f => (q, linesAt ls f.1, f)) qs fs).map (fun r : RowA => V.ref r.1) = qs.map V.ref := by
      rw [List.map_zipWith]
      apply List.ext_getElem?
      intro i
      rw [List.getElem?_zipWith, List.getElem?_map]
      by_cases hi : i < qs.length
      · rw [List.getElem?_eq_getElem hi, List.getElem?_eq_getElem (by omega)]
        rfl
      · rw [List.getElem?_eq_none (by omega)]
        rfl
    rw [this]
    exact SqT.of N3.at_
  · rw [List.map_zipWith]
    apply List.ext_getElem?
    intro i
    rw [List.getElem?_zipWith]
    by_cases hi : i < fs.length
    · rw [List.getElem?_eq_getElem hi, List.getElem?_eq_getElem (by omega)]
    · rw [List.getElem?_eq_none (l := fs) (by omega), List.getElem?_eq_none (l := qs) (by omega)]
  · intro r hr
    obtain ⟨i, hi, e⟩ := List.mem_iff_getElem.mp hr
    rw [List.getElem_zipWith] at e
    subst e
    rw [List.length_zipWith] at hi
    have hiq : i < qs.length := by omega
    have hif : i < fs.length := by omega
    obtain ⟨_, a2⟩ := hqs i _ (List.getElem?_eq_getElem hiq)
    rw [getD_of (d := d0) (List.getElem?_eq_getElem hif)] at a2
    obtain ⟨l, hl1, hl2, hl3, hl4⟩ := linesAt_ok ho (hmem _ (List.getElem_mem hif))
    refine ⟨SqT.of (N3.keep a2), ?_⟩
    show SqT K H3 (linesAt ls (fs[i]).1) ((fs[i]).2.map V.str)
    rw [hl4, ← hl2]
    exact SqT.kp kk (hls l hl1)
theorem M_Tree_files (T : TX K mg) : MethAt P w K mg base CX0 "Tree" "files" 2 ["self"] (spTFiles K) :=
  meth_of T 65 103 sc_Tree_files bn_Tree_files (fun vs H Q E h => by obtain ⟨a, x, rfl, _⟩ := h; rfl) (b_tree_files T)
end
end K45



namespace K45
open PySem L2 Sa
section
variable {P : Program} {w : World} {K : PySem.W.Frag} {mg : Str → Option Value} {base : Heap}
theorem sc_Tree_paths : FnScope ["self", "place", "path"] ["self", "place"] (defScope s_Tree_paths) := ⟨rfl, rfl, rfl, by decide +kernel, rfl, by decide +kernel, by decide +kernel⟩
theorem bn_Tree_paths : BindM "paths" "Tree.paths" s_Tree_paths ["self", "place"] := fun _ _ _ _ _ _ us hl => match us, hl with | [_, _], _ => rfl
def spTPaths (K : PySem.W.Frag) (g : Str → Str → Bool) : Sp := fun vs H Q _ => ∃ (x : Addr) (z : Str) (fs : List File), vs = [.ref x, .str z] ∧ TreeAt K H x fs ∧ fs.length ≤ 60 ∧ (∀ p ∈ pathsOf fs, p.length ≤ 1000) ∧ z.length ≤ 1000 ∧
  ∀ p H', Kp [] H H' → SqT K H' p (((pathsOf fs).filter fun y => g y z).map V.str) → Q (.ref p) H'
theorem b_tree_paths (T : TX K mg) : BodyM P w K mg base "Tree" "paths" "Tree.paths" s_Tree_paths ["self", "place", "path"] 2 (spTPaths K isInsideS) := by
  intro cdv A outer s H vs Q E h X hr
  obtain ⟨x, z, fs, rfl, ⟨dx, d, ls, hx, hd, hls, ho, hfs⟩, hn, hp0, hz, q⟩ := h
  have D_is_inside : DefAt P w K mg base CX0 "is_inside" 2 ["path", "place"] spInside := D_is_inside T
  refine ⟨_, (pss_one (ps_ret (pe_callTy (cr_tuple (K := K)) rfl (T.free 28) (by decide +kernel) (pa_cons (pe_lc (own := [("path", 2)]) rfl sc_Tree_paths.nd (pi_listU (K := K) (pe_callB (cr_sortedDU rfl) rfl (T.free 30) (by decide +kernel) (pa_cons (pe_fldU (K := K) (pv 0)) pa_nil))) (blkOk_by (N := ["self", "place", "path"]) (sc := defScope s_Tree_paths) (by decide +kernel)) (fun _ _ _ _ _ => (pg_name (i := 2) sc_Tree_paths.nd rfl (Or.inl rfl))) (fun _ _ _ _ _ => (pts_one (pt_tru (K := K) (pe_callA D_is_inside hr pass0 (pa_cons (pv 2) (pa_cons (pv 1) pa_nil)))))) (fun _ _ _ _ _ => (pv 2))) pa_nil)))), ?_⟩
  walk_at "st"
  refine c_fldAt hx (C_Tree T).cls (F_Tree T) rfl ?_
  walk_at "st"
  have hlen : fs.length = ls.length := by rw [hfs, sortF_len, List.length_map]
  refine ⟨d, _, (ls.map Prod.snd).map Prod.fst, rfl, .inl hd, ?_, by rw [List.length_map, List.length_map]; omega, fun ys p hp hs hpf => ?_⟩
  · rw [List.map_map, List.map_map, List.map_map]
    rfl
  have ey := sorted_keys hp hs
  subst ey
  rw [← hfs]
  have hp1 : SqL K (upd H p (.lst ((fs.map Prod.fst).map V.str))) p ((pathsOf fs).map V.str) := SqL.of upd_same
  refine ⟨p, rfl, ⟨_, hp1⟩, ?_⟩
  refine lcL_map V.str (fun y => isInsideS y z) hp1 (by unfold pathsOf; rw [List.length_map]; omega) (fun y H' R S hy e k1 k2 => ?_) (fun D H2 hD e2 hacc => ?_)
  · walk_at "st"
    refine ⟨rfl, ?_⟩
    walk_at "st"
    refine ⟨_, _, rfl, by omega, ?_⟩
    walk_at "st"
    refine c_iteB (fun g => ?_) (fun g => ?_)
    · walk_at "st"
      exact k1 g _ Kp.refl
    · exact k2 g _ Kp.refl
  walk_at "st"
  refine c_tupleL (SqL.of hacc) fun p3 H3 N3 => ?_
  exact q p3 H3 (((Kp.new hpf).trans e2).trans N3.kp) (SqT.of N3.at_)
theorem M_Tree_paths (T : TX K mg) : MethAt P w K mg base CX0 "Tree" "paths" 3 ["self", "place"] (spTPaths K isInsideS) :=
  meth_of T 67 105 sc_Tree_paths bn_Tree_paths (fun vs H Q E h => by obtain ⟨a, x, fs, rfl, _⟩ := h; rfl) (b_tree_paths T)
theorem sc_Tree_above : FnScope ["self", "path", "other"] ["self", "path"] (defScope s_Tree_above) := ⟨rfl, rfl, rfl, by decide +kernel, rfl, by decide +kernel, by decide +kernel⟩
theorem bn_Tree_above : BindM "above" "Tree.above" s_Tree_above ["self", "path"] := fun _ _ _ _ _ _ us hl => match us, hl with | [_, _], _ => rfl
theorem b_tree_above (T : TX K mg) : BodyM P w K mg base "Tree" "above" "Tree.above" s_Tree_above ["self", "path", "other"] 2 (spTPaths K fun y z => isInsideS z y) := by
  intro cdv A outer s H vs Q E h X hr
  obtain ⟨x, z, fs, rfl, ⟨dx, d, ls, hx, hd, hls, ho, hfs⟩, hn, hp0, hz, q⟩ := h
  have D_is_inside : DefAt P w K mg base CX0 "is_inside" 2 ["path", "place"] spInside := D_is_inside T
  refine ⟨_, (pss_one (ps_ret (pe_callTy (cr_tuple (K := K)) rfl (T.free 28) (by decide +kernel) (pa_cons (pe_lc (own := [("other", 2)]) rfl sc_Tree_above.nd (pi_listU (K := K) (pe_callB (cr_sortedDU rfl) rfl (T.free 30) (by decide +kernel) (pa_cons (pe_fldU (K := K) (pv 0)) pa_nil))) (blkOk_by (N := ["self", "path", "other"]) (sc := defScope s_Tree_above) (by decide +kernel)) (fun _ _ _ _ _ => (pg_name (i := 2) sc_Tree_above.nd rfl (Or.inl rfl))) (fun _ _ _ _ _ => (pts_one (pt_tru (K := K) (pe_callA D_is_inside hr pass0 (pa_cons (pv 1) (pa_cons (pv 2) pa_nil)))))) (fun _ _ _ _ _ => (pv 2))) pa_nil)))), ?_⟩
  walk_at "st"
  refine c_fldAt hx (C_Tree T).cls (F_Tree T) rfl ?_
  walk_at "st"
  have hlen : fs.length = ls.length := by rw [hfs, sortF_len, List.length_map]
  refine ⟨d, _, (ls.map Prod.snd).map Prod.fst, rfl, .inl hd, ?_, by rw [List.length_map, List.length_map]; omega, fun ys p hp hs hpf => ?_⟩
  · rw [List.map_map, List.map_map, List.map_map]
    rfl
  have ey := sorted_keys hp hs
  subst ey
  rw [← hfs]
  have hp1 : SqL K (upd H p (.lst ((fs.map Prod.fst).map V.str))) p ((pathsOf fs).map V.str) := SqL.of upd_same
  refine ⟨p, rfl, ⟨_, hp1⟩, ?_⟩
  refine lcL_map V.str (fun y => isInsideS z y) hp1 (by unfold pathsOf; rw [List.length_map]; omega) (fun y H' R S hy e k1 k2 => ?_) (fun D H2 hD e2 hacc => ?_)
  · have := hp0 y hy
    walk_at "st"
    refine ⟨rfl, ?_⟩
    walk_at "st"
    refine ⟨_, _, rfl, by omega, ?_⟩
    walk_at "st"
    refine c_iteB (fun g => ?_) (fun g => ?_)
    · walk_at "st"
      exact k1 g _ Kp.refl
    · exact k2 g _ Kp.refl
  walk_at "st"
  refine c_tupleL (SqL.of hacc) fun p3 H3 N3 => ?_
  exact q p3 H3 (((Kp.new hpf).trans e2).trans N3.kp) (SqT.of N3.at_)
theorem M_Tree_above (T : TX K mg) : MethAt P w K mg base CX0 "Tree" "above" 3 ["self", "path"] (spTPaths K fun y z => isInsideS z y) :=
  meth_of T 68 106 sc_Tree_above bn_Tree_above (fun vs H Q E h => by obtain ⟨a, x, fs, rfl, _⟩ := h; rfl) (b_tree_above T)
theorem sc_Tree_is_folder : FnScope ["self", "place"] ["self", "place"] (defScope s_Tree_is_folder) := ⟨rfl, rfl, rfl, by decide +kernel, rfl, by decide +kernel, by decide +kernel⟩
theorem bn_Tree_is_folder : BindM "is_folder" "Tree.is_folder" s_Tree_is_folder ["self", "place"] := fun _ _ _ _ _ _ us hl => match us, hl with | [_, _], _ => rfl
def isFolderF (fs : List File) (z : Str) : Bool := decide (z = PySem.Str.ofString "") || decide (0 < ((pathsOf fs).filter fun y => isInsideS y z).length)
def spTFolder (K : PySem.W.Frag) : Sp := fun vs H Q _ => ∃ (x : Addr) (z : Str) (fs : List File), vs = [.ref x, .str z] ∧ TreeAt K H x fs ∧ fs.length ≤ 60 ∧ (∀ p ∈ pathsOf fs, p.length ≤ 1000) ∧ z.length ≤ 1000 ∧ ∀ H', Kp [] H H' → Q (.bl (isFolderF fs z)) H'
theorem b_tree_folder (T : TX K mg) : BodyM P w K mg base "Tree" "is_folder" "Tree.is_folder" s_Tree_is_folder ["self", "place"] 3 (spTFolder K) := by
  intro cdv A outer s H vs Q E h X hr
  obtain ⟨x, z, fs, rfl, ht, hn, hp0, hz, q⟩ := h
  have M_Tree_paths : MethAt P w K mg base CX0 "Tree" "paths" 3 ["self", "place"] (spTPaths K isInsideS) := M_Tree_paths T
  have C_Tree : ClsAt K mg "Tree" := C_Tree T
  refine ⟨_, (pss_one (ps_ret (pe_or (pe_cmpR (op_eqU (K := K) hr.units) (pv 1) pe_str (nomark _)) (pe_one (pe_cmpR op_gtU (pe_callB (cr_len (K := K)) rfl (T.free 2) PySem.boot_len (pa_cons (pe_methS1 M_Tree_paths C_Tree hr at0 (pv 0) (pa_cons (pv 1) pa_nil)) pa_nil)) pe_int (nomark _)))))), ?_⟩
  unfold isFolderF at q
  obtain ⟨dx, d, ls, hx, _⟩ := id ht
  walk_at "st"
  refine c_orK (decide (0 < ((pathsOf fs).filter fun y => isInsideS y z).length)) (fun R k => ?_) q
  walk_at "st"
  refine c_recv hx rfl ?_
  walk_at "st"
  refine ⟨x, z, fs, rfl, ht, hn, hp0, hz, fun p H' e hp => ?_⟩
  walk_at "st"
  have g := k H' e
  have e1 : decide ((0 : Int) < ((((pathsOf fs).filter fun y => isInsideS y z).map V.str).length : Int)) = decide (0 < ((pathsOf fs).filter fun y => isInsideS y z).length) := by
    rw [List.length_map]
    congr 1
    exact propext ⟨fun h => by omega, fun h => by omega⟩
  first
    | (rw [e1]; exact g)
    | trace_state
theorem M_Tree_is_folder (T : TX K mg) : MethAt P w K mg base CX0 "Tree" "is_folder" 4 ["self", "place"] (spTFolder K) :=
  meth_of T 69 107 sc_Tree_is_folder bn_Tree_is_folder (fun vs H Q E h => by obtain ⟨a, x, fs, rfl, _⟩ := h; rfl) (b_tree_folder T)
end
end K45



namespace K45
open PySem L2 Sa
theorem c_newTree {K : PySem.W.Frag} {H1 : Hp} {L : Addr} {fs : List File} {Q : VK} {E : XK} (hL : RowsAt K H1 L fs) (hs : Sane fs) (q1 : goodF fs = true → ∀ x H', Kp [] H1 H' → TreeAt K H' x (sortF fs) → Q (.ref x) H')
    (q2 : goodF fs = false → ∀ d H', Kp [] H1 H' → H' d = some (.xd [("name", .str "files")]) → E (.ref (He.ga K "OutOfRange")) (some d) H') : NewK K "Tree" (spTreeInit K) [.ref L] H1 Q E := by
  intro x dx h1 h2 h3
  have k1 : Kp [] H1 (upd H1 dx (.own x)) := Kp.new h2
  have hx : upd H1 dx (.own x) x = none := by rw [upd_ne (Ne.symm h3)]; exact h1
  have k2 : Kp [] H1 (upd (upd H1 dx (.own x)) x (.ins (He.ga K "Tree") dx [])) := k1.trans (Kp.new hx)
  refine ⟨L, x, dx, fs, rfl, upd_same, hL.kp k2, hs, fun g H' e ht => ⟨rfl, q1 g x H' (Kp.drop_fresh (k2.mono.trans e) h1) ht⟩, fun g d H' e hd => q2 g d H' (k2.trans e) hd⟩
def withoutF (fs : List File) (p : Str) : List File := fs.filter fun f => !decide (f.1 = p)
def withF (fs : List File) (p : Str) (ls : List Str) : List File := withoutF fs p ++ [(p, ls)]
section
variable {P : Program} {w : World} {K : PySem.W.Frag} {mg : Str → Option Value} {base : Heap}
theorem sc_Tree_with_file : FnScope ["self", "path", "lines", "file"] ["self", "path", "lines"] (defScope s_Tree_with_file) := ⟨rfl, rfl, rfl, by decide +kernel, rfl, by decide +kernel, by decide +kernel⟩
theorem bn_Tree_with_file : BindM "with_file" "Tree.with_file" s_Tree_with_file ["self", "path", "lines"] := fun _ _ _ _ _ _ us hl => match us, hl with | [_, _, _], _ => rfl
def spTWith (K : PySem.W.Frag) : Sp := fun vs H Q E => ∃ (x l : Addr) (p : Str) (ls : List Str) (fs : List File), vs = [.ref x, .str p, .ref l] ∧ TreeAt K H x fs ∧ fs.length ≤ 60 ∧ SqT K H l (ls.map V.str) ∧ Sane (withF fs p ls) ∧
  (goodF (withF fs p ls) = true → ∀ y H', Kp [] H H' → TreeAt K H' y (sortF (withF fs p ls)) → Q (.ref y) H') ∧ (goodF (withF fs p ls) = false → ∀ d H', Kp [] H H' → H' d = some (.xd [("name", .str "files")]) → E (.ref (He.ga K "OutOfRange")) (some d) H')
theorem b_tree_with (T : TX K mg) : BodyMX P w K mg base "Tree" "with_file" "Tree.with_file" s_Tree_with_file ["self", "path", "lines", "file"] 7 (spTWith K) := by
  intro cdv A outer s H vs Q E h X hr tk
  obtain ⟨x, l, p, ls, fs, rfl, ht, hn, hl, hsane, q1, q2⟩ := h
  have M_Tree_files : MethAt P w K mg base CX0 "Tree" "files" 2 ["self"] (spTFiles K) := M_Tree_files T
  have M_Tree___init__ : MethAt P w K mg base (L2.CX P w) "Tree" "__init__" 6 ["self", "files"] (spTreeInit K) := M_Tree___init__ T
  have Mk_Tree : Mk K (He.ga K "Tree") (He.ma K (He.ga K "Tree") "__init__") := Mk_Tree T
  have C_Tree : ClsAt K mg "Tree" := C_Tree T
  refine ⟨_, (pss_one (ps_ret (pe_newS M_Tree___init__ Mk_Tree C_Tree hr (atW tk) (pa_cons (pe_op (op_addU (K := K)) (pe_lc (own := [("file", 3)]) rfl sc_Tree_with_file.nd (pi_tupU (K := K) (pe_methS0 M_Tree_files C_Tree hr at0 (pv 0))) (blkOk_by (N := ["self", "path", "lines", "file"]) (sc := defScope s_Tree_with_file) (by decide +kernel)) (fun _ _ _ _ _ => (pg_name (i := 3) sc_Tree_with_file.nd rfl (Or.inl rfl))) (fun _ _ _ _ _ => (pts_one (pt_cmpR (op_neU (K := K) hr.units) (pe_ix (ix_U (K := K)) (pv 3) pe_int (fun _ _ => rfl)) (pv 1) (nomark _)))) (fun _ _ _ _ _ => (pv 3))) (pe_lst (pa_cons (pe_tup (pa_cons (pv 1) (pa_cons (pv 2) pa_nil))) pa_nil))) pa_nil)))), ?_⟩
  obtain ⟨dx, d, _, hx, _⟩ := id ht
  walk_at "st"
  refine c_recv hx rfl ?_
  walk_at "st"
  refine ⟨x, fs, rfl, ht, hn, fun pf H1 rs e1 hpf hrs hok => ?_⟩
  walk_at "st"
  have hrl : rs.length = fs.length := by rw [← hrs, List.length_map]
  refine lcT_map (fun r : RowA => V.ref r.1) (fun r => !decide (r.2.2.1 = p)) hpf (by omega) (fun r H' R S hr1 e k1 k2 => ?_) (fun D H2 hD e2 hacc => ?_)
  · have ho := (hok r hr1).kp e
    walk_at "st"
    refine ⟨rfl, ?_⟩
    walk_at "st"
    refine c_ixT ho.row rfl ?_
    walk_at "st"
    refine c_iteN (fun g => ?_) (fun g => ?_)
    · walk_at "st"
      exact k1 (by rw [decide_eq_false g]; rfl) _ Kp.refl
    · exact k2 (by rw [decide_eq_true g]; rfl) _ Kp.refl
  walk_at "st"
  walk_at "nw"
  intro t H3 N3
  walk_at "st"
  walk_at "nw"
  intro t2 H4 N4
  walk_at "st"
  refine c_addL (N4.keep (N3.keep hacc)) N4.at_ (by rw [List.length_map, sizeLine_eq]; have := List.length_filter_le (fun r : RowA => !decide (r.2.2.1 = p)) rs; simp only [List.length_cons, List.length_nil]; omega) fun L H5 N5 => ?_
  walk_at "st"
  have k3 : Kp [] H1 H3 := e2.trans N3.kp
  have k5 : Kp [] H1 H5 := k3.trans (N4.kp.trans N5.kp)
  have hrows : RowsAt K H5 L (withF fs p ls) := by
    refine ⟨rs.filter (fun r => !decide (r.2.2.1 = p)) ++ [(t, l, (p, ls))], ?_, ?_, ?_⟩
    · rw [List.map_append]
      exact .inl (SqL.of N5.at_)
    · unfold withF withoutF
      rw [List.map_append, ← hrs, List.filter_map]
      rfl
    · intro r hr1
      rcases List.mem_append.mp hr1 with h | h
      · exact (hok r (List.mem_filter.mp h).1).kp k5
      · rw [List.mem_singleton.mp h]
        exact ⟨SqT.of (N5.keep (N4.keep N3.at_)), SqT.kp (e1.trans k5) hl⟩
  refine c_newTree hrows hsane (fun g y H' e hy => q1 g y H' (e1.trans (k5.trans e)) hy) (fun g d H' e hd => q2 g d H' (e1.trans (k5.trans e)) hd)
theorem M_Tree_with_file (T : TX K mg) : MethAt P w K mg base (L2.CX P w) "Tree" "with_file" 8 ["self", "path", "lines"] (spTWith K) :=
  meth_ofX T 70 108 sc_Tree_with_file bn_Tree_with_file (fun vs H Q E h => by obtain ⟨a, x, fs, _, _, rfl, _⟩ := h; rfl) (b_tree_with T)
theorem sc_Tree_without : FnScope ["self", "path", "file"] ["self", "path"] (defScope s_Tree_without) := ⟨rfl, rfl, rfl, by decide +kernel, rfl, by decide +kernel, by decide +kernel⟩
theorem bn_Tree_without : BindM "without" "Tree.without" s_Tree_without ["self", "path"] := fun _ _ _ _ _ _ us hl => match us, hl with | [_, _], _ => rfl
def spTWithout (K : PySem.W.Frag) : Sp := fun vs H Q E => ∃ (x : Addr) (p : Str) (fs : List File), vs = [.ref x, .str p] ∧ TreeAt K H x fs ∧ fs.length ≤ 60 ∧ Sane (withoutF fs p) ∧
  (goodF (withoutF fs p) = true → ∀ y H', Kp [] H H' → TreeAt K H' y (sortF (withoutF fs p)) → Q (.ref y) H') ∧ (goodF (withoutF fs p) = false → ∀ d H', Kp [] H H' → H' d = some (.xd [("name", .str "files")]) → E (.ref (He.ga K "OutOfRange")) (some d) H')
theorem b_tree_without (T : TX K mg) : BodyMX P w K mg base "Tree" "without" "Tree.without" s_Tree_without ["self", "path", "file"] 7 (spTWithout K) := by
  intro cdv A outer s H vs Q E h X hr tk
  obtain ⟨x, p, fs, rfl, ht, hn, hsane, q1, q2⟩ := h
  have M_Tree_files : MethAt P w K mg base CX0 "Tree" "files" 2 ["self"] (spTFiles K) := M_Tree_files T
  have M_Tree___init__ : MethAt P w K mg base (L2.CX P w) "Tree" "__init__" 6 ["self", "files"] (spTreeInit K) := M_Tree___init__ T
  have Mk_Tree : Mk K (He.ga K "Tree") (He.ma K (He.ga K "Tree") "__init__") := Mk_Tree T
  have C_Tree : ClsAt K mg "Tree" := C_Tree T
  refine ⟨_, (pss_one (ps_ret (pe_newS M_Tree___init__ Mk_Tree C_Tree hr (atW tk) (pa_cons (pe_lc (own := [("file", 2)]) rfl sc_Tree_without.nd (pi_tupU (K := K) (pe_methS0 M_Tree_files C_Tree hr at0 (pv 0))) (blkOk_by (N := ["self", "path", "file"]) (sc := defScope s_Tree_without) (by decide +kernel)) (fun _ _ _ _ _ => (pg_name (i := 2) sc_Tree_without.nd rfl (Or.inl rfl))) (fun _ _ _ _ _ => (pts_one (pt_cmpR (op_neU (K := K) hr.units) (pe_ix (ix_U (K := K)) (pv 2) pe_int (fun _ _ => rfl)) (pv 1) (nomark _)))) (fun _ _ _ _ _ => (pv 2))) pa_nil)))), ?_⟩
  obtain ⟨dx, d, _, hx, _⟩ := id ht
  walk_at "st"
  refine c_recv hx rfl ?_
  walk_at "st"
  refine ⟨x, fs, rfl, ht, hn, fun pf H1 rs e1 hpf hrs hok => ?_⟩
  walk_at "st"
  have hrl : rs.length = fs.length := by rw [← hrs, List.length_map]
  refine lcT_map (fun r : RowA => V.ref r.1) (fun r => !decide (r.2.2.1 = p)) hpf (by omega) (fun r H' R S hr1 e k1 k2 => ?_) (fun D H2 hD e2 hacc => ?_)
  · have ho := (hok r hr1).kp e
    walk_at "st"
    refine ⟨rfl, ?_⟩
    walk_at "st"
    refine c_ixT ho.row rfl ?_
    walk_at "st"
    refine c_iteN (fun g => ?_) (fun g => ?_)
    · walk_at "st"
      exact k1 (by rw [decide_eq_false g]; rfl) _ Kp.refl
    · exact k2 (by rw [decide_eq_true g]; rfl) _ Kp.refl
  walk_at "st"
  have hrows : RowsAt K H2 D (withoutF fs p) := by
    refine ⟨rs.filter (fun r => !decide (r.2.2.1 = p)), .inl (SqL.of hacc), ?_, ?_⟩
    · unfold withoutF
      rw [← hrs, List.filter_map]
      rfl
    · intro r hr1
      exact (hok r (List.mem_filter.mp hr1).1).kp e2
  refine c_newTree hrows hsane (fun g y H' e hy => q1 g y H' (e1.trans (e2.trans e)) hy) (fun g d H' e hd => q2 g d H' (e1.trans (e2.trans e)) hd)
theorem M_Tree_without (T : TX K mg) : MethAt P w K mg base (L2.CX P w) "Tree" "without" 8 ["self", "path"] (spTWithout K) :=
  meth_ofX T 71 109 sc_Tree_without bn_Tree_without (fun vs H Q E h => by obtain ⟨a, x, fs, rfl, _⟩ := h; rfl) (b_tree_without T)
end
end K45



namespace K45
open PySem L2 Sa
inductive Action where
  | read (p : Str) | kind (z : Str) | list (z : Str) | find (z w : Str) | count (z : Str)
  | write (p : Str) (ls : List Str) | remove (p : Str) | move (p t : Str) | splice (p : Str) (old new : List Str)
def ActAt (K : PySem.W.Frag) (H : Hp) (a : Addr) : Action → Prop
  | .read p => SqT K H a [.str "read", .str p]
  | .kind z => SqT K H a [.str "kind", .str z]
  | .list z => SqT K H a [.str "list", .str z]
  | .find z w => SqT K H a [.str "find", .str z, .str w]
  | .count z => SqT K H a [.str "count", .str z]
  | .write p ls => ∃ l, SqT K H a [.str "write", .str p, .ref l] ∧ SqT K H l (ls.map V.str)
  | .remove p => SqT K H a [.str "remove", .str p]
  | .move p t => SqT K H a [.str "move", .str p, .str t]
  | .splice p old new => ∃ l m, SqT K H a [.str "splice", .str p, .ref l, .ref m] ∧ SqT K H l (old.map V.str) ∧ SqT K H m (new.map V.str)
theorem ActAt.kp {K : PySem.W.Frag} {H H' : Hp} {a : Addr} (e : Kp [] H H') : ∀ {x : Action}, ActAt K H a x → ActAt K H' a x
  | .read _, h => SqT.kp e h
  | .kind _, h => SqT.kp e h
  | .list _, h => SqT.kp e h
  | .find _ _, h => SqT.kp e h
  | .count _, h => SqT.kp e h
  | .write _ _, ⟨l, h1, h2⟩ => ⟨l, SqT.kp e h1, SqT.kp e h2⟩
  | .remove _, h => SqT.kp e h
  | .move _ _, h => SqT.kp e h
  | .splice _ _ _, ⟨l, m, h1, h2, h3⟩ => ⟨l, m, SqT.kp e h1, SqT.kp e h2, SqT.kp e h3⟩
def saneS (z : Str) : Prop := z.length ≤ 1000
def saneL (ys : List Str) : Prop := ys.length ≤ 500 ∧ ∀ y ∈ ys, y.length ≤ 1000
def Action.sane : Action → Prop
  | .read p => saneS p
  | .kind z => saneS z
  | .list z => saneS z
  | .find z w => saneS z ∧ saneS w
  | .count z => saneS z
  | .write p ls => saneS p ∧ saneL ls
  | .remove p => saneS p
  | .move p t => saneS p ∧ saneS t
  | .splice p old new => saneS p ∧ saneL old ∧ saneL new
def Action.bad : Action → Option Str
  | .read p => if isPathS p then none else some "path"
  | .kind z => if isPlaceS z then none else some "place"
  | .list z => if isPlaceS z then none else some "place"
  | .find z w => if isPlaceS z then (if isWordS w then none else some "word") else some "place"
  | .count z => if isPlaceS z then none else some "place"
  | .write p ls => if isPathS p then (if isLinesS ls then none else some "lines") else some "path"
  | .remove p => if isPathS p then none else some "path"
  | .move p t => if isPathS p then (if isPathS t then none else some "target") else some "path"
  | .splice p old new => if isPathS p then (if isLinesS old && decide (0 < old.length) then (if isLinesS new then none else some "new") else some "old") else some "path"
section
variable {P : Program} {w : World} {K : PySem.W.Frag} {mg : Str → Option Value} {base : Heap}
def RaisesE (K : PySem.W.Frag) (H : Hp) (E : XK) (nm : Str) : Prop := ∀ d H', Kp [] H H' → H' d = some (.xd [("name", .str nm)]) → E (.ref (He.ga K "OutOfRange")) (some d) H'
theorem RaisesE.kp {K : PySem.W.Frag} {H H1 : Hp} {E : XK} {nm : Str} (h : RaisesE K H E nm) (e : Kp [] H H1) : RaisesE K H1 E nm := fun d H' e' hd => h d H' (e.trans e') hd
def spCheck (K : PySem.W.Frag) : Sp := fun vs H Q E => ∃ (b : Bool) (nm : Str), vs = [.bl b, .str nm] ∧ (b = true → Q .non H) ∧ (b = false → RaisesE K H E nm)
theorem sc__check : FnScope ["good", "name"] ["good", "name"] (defScope s__check) := ⟨rfl, rfl, rfl, by decide +kernel, rfl, by decide +kernel, by decide +kernel⟩
theorem bn__check : BindN "_check" s__check ["good", "name"] := fun _ _ _ _ _ _ us hl => match us, hl with | [_, _], _ => rfl
theorem b__check (T : TX K mg) : BodyX P w K mg base "_check" s__check ["good", "name"] 3 (spCheck K) := by
  intro cdv A outer s H vs Q E h X hr tk
  obtain ⟨b, nm, rfl, q1, q2⟩ := h
  have E_OutOfRange := E_OutOfRange (P := P) (w := w) (base := base) T
  refine ⟨_, (pss_one (ps_if (pt_not (pt_tru (K := K) (pv 0))) (pss_one (ps_raiseE (K := K) E_OutOfRange hr tk (pa_cons (pv 1) pa_nil))) pss_nil)), ?_⟩
  walk_at "st"
  refine c_iteNB (fun g => ?_) (fun g => ?_)
  · walk_at "st"
    exact c_err fun d H2 N => q2 g d H2 N.kp N.at_
  · walk_at "st"
    exact q1 g
theorem D__check (T : TX K mg) : DefAt P w K mg base (L2.CX P w) "_check" 4 ["good", "name"] (spCheck K) :=
  def_ofX T 10 25 sc__check bn__check (by walk_at "len") (b__check T)
def spCheckAct (K : PySem.W.Frag) : Sp := fun vs H Q E => ∃ (a : Addr) (x : Action), vs = [.ref a] ∧ ActAt K H a x ∧ x.sane ∧ (x.bad = none → ∀ H', Kp [] H H' → Q .non H') ∧ (∀ nm, x.bad = some nm → RaisesE K H E nm)
theorem sc_check_action : FnScope ["action", "word"] ["action"] (defScope s_check_action) := ⟨rfl, rfl, rfl, by decide +kernel, rfl, by decide +kernel, by decide +kernel⟩
theorem bn_check_action : BindN "check_action" s_check_action ["action"] := fun _ _ _ _ _ _ us hl => match us, hl with | [_], _ => rfl
theorem b_check_action (T : TX K mg) : BodyX P w K mg base "check_action" s_check_action ["action", "word"] 4 (spCheckAct K) := by
  intro cdv A outer s H vs Q E h X hr tk
  obtain ⟨a, x, rfl, ha, hs, q1, q2⟩ := h
  have D__check := D__check (P := P) (w := w) (base := base) T; have D_is_lines := D_is_lines (P := P) (w := w) (base := base) T; have D_is_path := D_is_path (P := P) (w := w) (base := base) T; have D_is_place := D_is_place (P := P) (w := w) (base := base) T; have D_is_word := D_is_word (P := P) (w := w) (base := base) T
  refine ⟨_, (pss_cons (ps_set (i := 1) sc_check_action.nd rfl (Or.inl rfl) (pe_ix (ix_U (K := K)) (pv 0) pe_int (fun _ _ => rfl))) (pss_cons (ps_if (PW.pt (pw_or (pt_cmpR (op_eqU (K := K) hr.units) (pv 1) pe_str (nomark _)) (pw_or (pt_cmpR (op_eqU (K := K) hr.units) (pv 1) pe_str (nomark _)) (pw_or (pt_cmpR (op_eqU (K := K) hr.units) (pv 1) pe_str (nomark _)) (pw_or1 (pt_cmpR (op_eqU (K := K) hr.units) (pv 1) pe_str (nomark _))))))) (pss_one (ps_expr (pe_callX D__check hr tk (pa_cons (pe_callA D_is_place hr pass0 (pa_cons (pe_ix (ix_U (K := K)) (pv 0) pe_int (fun _ _ => rfl)) pa_nil)) (pa_cons pe_str pa_nil))))) (pss_one (ps_expr (pe_callX D__check hr tk (pa_cons (pe_callA D_is_path hr pass0 (pa_cons (pe_ix (ix_U (K := K)) (pv 0) pe_int (fun _ _ => rfl)) pa_nil)) (pa_cons pe_str pa_nil)))))) (pss_one (ps_if (pt_cmpR (op_eqU (K := K) hr.units) (pv 1) pe_str (nomark _)) (pss_one (ps_expr (pe_callX D__check hr tk (pa_cons (pe_callA D_is_word hr pass0 (pa_cons (pe_ix (ix_U (K := K)) (pv 0) pe_int (fun _ _ => rfl)) pa_nil)) (pa_cons pe_str pa_nil))))) (pss_one (ps_if (pt_cmpR (op_eqU (K := K) hr.units) (pv 1) pe_str (nomark _)) (pss_one (ps_expr (pe_callX D__check hr tk (pa_cons (pe_callA D_is_lines hr pass0 (pa_cons (pe_ix (ix_U (K := K)) (pv 0) pe_int (fun _ _ => rfl)) pa_nil)) (pa_cons pe_str pa_nil))))) (pss_one (ps_if (pt_cmpR (op_eqU (K := K) hr.units) (pv 1) pe_str (nomark _)) (pss_one (ps_expr (pe_callX D__check hr tk (pa_cons (pe_callA D_is_path hr pass0 (pa_cons (pe_ix (ix_U (K := K)) (pv 0) pe_int (fun _ _ => rfl)) pa_nil)) (pa_cons pe_str pa_nil))))) (pss_one (ps_if (pt_cmpR (op_eqU (K := K) hr.units) (pv 1) pe_str (nomark _)) (pss_cons (ps_expr (pe_callX D__check hr tk (pa_cons (pe_and (pe_callA D_is_lines hr pass0 (pa_cons (pe_ix (ix_U (K := K)) (pv 0) pe_int (fun _ _ => rfl)) pa_nil)) (pe_one (pe_cmpR op_gtU (pe_callB (cr_len (K := K)) rfl (T.free 2) PySem.boot_len (pa_cons (pe_ix (ix_U (K := K)) (pv 0) pe_int (fun _ _ => rfl)) pa_nil)) pe_int (nomark _)))) (pa_cons pe_str pa_nil)))) (pss_one (ps_expr (pe_callX D__check hr tk (pa_cons (pe_callA D_is_lines hr pass0 (pa_cons (pe_ix (ix_U (K := K)) (pv 0) pe_int (fun _ _ => rfl)) pa_nil)) (pa_cons pe_str pa_nil)))))) pss_nil)))))))))), ?_⟩
  have big : ∀ {z : Str}, saneS z → z.length ≤ 100000 := fun {z} h => Nat.le_trans h (by decide)
  have bigL : ∀ {ys : List Str}, saneL ys → ys.length ≤ 1000 ∧ ∀ y ∈ ys, y.length ≤ 100000 := fun {ys} h => ⟨Nat.le_trans h.1 (by decide), fun y hy => Nat.le_trans (h.2 y hy) (by decide)⟩
  cases x with
  | read p =>
    walk_at "dc"
    refine ⟨p, rfl, big hs, fun H1 e1 => ?_⟩
    walk_at "st"
    refine ⟨_, _, rfl, fun g1 => ?_, fun g1 => ?_⟩
    rotate_left
    · exact (q2 _ (by simp [Action.bad, g1])).kp e1
    walk_at "dc"
    exact q1 (by simp [Action.bad, g1]) _ e1
  | kind p =>
    walk_at "dc"
    refine ⟨p, rfl, big hs, fun H1 e1 => ?_⟩
    walk_at "st"
    refine ⟨_, _, rfl, fun g1 => ?_, fun g1 => ?_⟩
    rotate_left
    · exact (q2 _ (by simp [Action.bad, g1])).kp e1
    walk_at "dc"
    exact q1 (by simp [Action.bad, g1]) _ e1
  | list p =>
    walk_at "dc"
    refine ⟨p, rfl, big hs, fun H1 e1 => ?_⟩
    walk_at "st"
    refine ⟨_, _, rfl, fun g1 => ?_, fun g1 => ?_⟩
    rotate_left
    · exact (q2 _ (by simp [Action.bad, g1])).kp e1
    walk_at "dc"
    exact q1 (by simp [Action.bad, g1]) _ e1
  | count p =>
    walk_at "dc"
    refine ⟨p, rfl, big hs, fun H1 e1 => ?_⟩
    walk_at "st"
    refine ⟨_, _, rfl, fun g1 => ?_, fun g1 => ?_⟩
    rotate_left
    · exact (q2 _ (by simp [Action.bad, g1])).kp e1
    walk_at "dc"
    exact q1 (by simp [Action.bad, g1]) _ e1
  | remove p =>
    walk_at "dc"
    refine ⟨p, rfl, big hs, fun H1 e1 => ?_⟩
    walk_at "st"
    refine ⟨_, _, rfl, fun g1 => ?_, fun g1 => ?_⟩
    rotate_left
    · exact (q2 _ (by simp [Action.bad, g1])).kp e1
    walk_at "dc"
    exact q1 (by simp [Action.bad, g1]) _ e1
  | find z w =>
    walk_at "dc"
    refine ⟨z, rfl, big hs.1, fun H1 e1 => ?_⟩
    walk_at "st"
    refine ⟨_, _, rfl, fun g1 => ?_, fun g1 => ?_⟩
    rotate_left
    · exact (q2 _ (by simp [Action.bad, g1])).kp e1
    walk_at "dc"
    refine c_ixT (SqT.kp e1 ha) rfl ?_
    walk_at "st"
    refine ⟨w, rfl, big hs.2, fun H2 e2 => ?_⟩
    walk_at "st"
    refine ⟨_, _, rfl, fun g2 => ?_, fun g2 => ?_⟩
    rotate_left
    · exact (q2 _ (by simp [Action.bad, g1, g2])).kp (e1.trans e2)
    walk_at "dc"
    exact q1 (by simp [Action.bad, g1, g2]) _ (e1.trans e2)
  | move p t =>
    walk_at "dc"
    refine ⟨p, rfl, big hs.1, fun H1 e1 => ?_⟩
    walk_at "st"
    refine ⟨_, _, rfl, fun g1 => ?_, fun g1 => ?_⟩
    rotate_left
    · exact (q2 _ (by simp [Action.bad, g1])).kp e1
    walk_at "dc"
    refine c_ixT (SqT.kp e1 ha) rfl ?_
    walk_at "st"
    refine ⟨t, rfl, big hs.2, fun H2 e2 => ?_⟩
    walk_at "st"
    refine ⟨_, _, rfl, fun g2 => ?_, fun g2 => ?_⟩
    rotate_left
    · exact (q2 _ (by simp [Action.bad, g1, g2])).kp (e1.trans e2)
    walk_at "dc"
    exact q1 (by simp [Action.bad, g1, g2]) _ (e1.trans e2)
  | write p ls =>
    obtain ⟨l, ha, hl⟩ := ha
    walk_at "dc"
    refine ⟨p, rfl, big hs.1, fun H1 e1 => ?_⟩
    walk_at "st"
    refine ⟨_, _, rfl, fun g1 => ?_, fun g1 => ?_⟩
    rotate_left
    · exact (q2 _ (by simp [Action.bad, g1])).kp e1
    walk_at "dc"
    refine c_ixT (SqT.kp e1 ha) rfl ?_
    walk_at "st"
    refine ⟨_, _, rfl, SqT.kp e1 hl, (bigL hs.2).1, (bigL hs.2).2, fun H2 e2 => ?_⟩
    walk_at "st"
    refine ⟨_, _, rfl, fun g2 => ?_, fun g2 => ?_⟩
    rotate_left
    · exact (q2 _ (by simp [Action.bad, g1, g2])).kp (e1.trans e2)
    walk_at "dc"
    exact q1 (by simp [Action.bad, g1, g2]) _ (e1.trans e2)
  | splice p old new =>
    obtain ⟨l, m, ha, hl, hm⟩ := ha
    walk_at "dc"
    refine ⟨p, rfl, big hs.1, fun H1 e1 => ?_⟩
    walk_at "st"
    refine ⟨_, _, rfl, fun g1 => ?_, fun g1 => ?_⟩
    rotate_left
    · exact (q2 _ (by simp [Action.bad, g1])).kp e1
    walk_at "dc"
    refine c_ixT (SqT.kp e1 ha) rfl ?_
    walk_at "st"
    refine ⟨_, _, rfl, SqT.kp e1 hl, (bigL hs.2.1).1, (bigL hs.2.1).2, fun H2 e2 => ?_⟩
    walk_at "st"
    refine c_andK (decide (0 < old.length)) (fun R k => ?_) (fun H3 e3 => ?_)
    · walk_at "st"
      refine c_ixT (SqT.kp (e1.trans e2) ha) rfl ?_
      walk_at "st"
      refine c_lenT (SqT.kp (e1.trans e2) hl) ?_
      walk_at "st"
      have e : decide ((0 : Int) < ((old.map V.str).length : Int)) = decide (0 < old.length) := by rw [List.length_map]; congr 1; exact propext ⟨fun h => by omega, fun h => by omega⟩
      rw [e]
      exact k _ Kp.refl
    walk_at "st"
    refine ⟨_, _, rfl, fun g2 => ?_, fun g2 => ?_⟩
    rotate_left
    · exact (q2 _ (by simp only [Action.bad, g1, g2]; rfl)).kp ((e1.trans e2).trans e3)
    walk_at "dc"
    refine c_ixT (SqT.kp ((e1.trans e2).trans e3) ha) rfl ?_
    walk_at "st"
    refine ⟨_, _, rfl, SqT.kp ((e1.trans e2).trans e3) hm, (bigL hs.2.2).1, (bigL hs.2.2).2, fun H4 e4 => ?_⟩
    walk_at "st"
    refine ⟨_, _, rfl, fun g3 => ?_, fun g3 => ?_⟩
    rotate_left
    · exact (q2 _ (by simp only [Action.bad, g1, g2, g3]; rfl)).kp (((e1.trans e2).trans e3).trans e4)
    walk_at "dc"
    exact q1 (by simp only [Action.bad, g1, g2, g3]; rfl) _ (((e1.trans e2).trans e3).trans e4)
theorem D_check_action (T : TX K mg) : DefAt P w K mg base (L2.CX P w) "check_action" 5 ["action"] (spCheckAct K) :=
  def_ofX T 11 26 sc_check_action bn_check_action (by walk_at "len") (b_check_action T)
end
end K45



namespace K45
open PySem L2 Sa
def Action.isQ : Action → Bool
  | .read _ | .kind _ | .list _ | .find _ _ | .count _ => true
  | _ => false
def insideF (fs : List File) (z : Str) : List Str := (pathsOf fs).filter fun y => isInsideS y z
def aboveF (fs : List File) (z : Str) : List Str := (pathsOf fs).filter fun y => isInsideS z y
def startN (z : Str) : Int := if decide (z = PySem.Str.ofString "") = true then 0 else (z.length : Int) + 1
def firstN (z p : Str) : Str := (Txt.partition (cutS p (some (startN z)) none) (PySem.Str.ofString "/")).1 ++ (Txt.partition (cutS p (some (startN z)) none) (PySem.Str.ofString "/")).2.1
def namesF (fs : List File) (z : Str) : List Str := sortS (ded ((insideF fs z).map (firstN z)))
def rowsD (p : Str) (ls : List Str) (w : Str) : List PyData := ((List.range ls.length).filter fun i => occS (ls.getD i Str.empty) w).map fun i => .tuple [.str p, .int (i : Nat)]
def foundPs (fs : List File) (z : Str) : List Str := sortS (insideF fs z ++ if (at? fs z).isSome then [z] else [])
def foundF (fs : List File) (z w : Str) : List PyData := (foundPs fs z).flatMap fun p => rowsD p ((at? fs p).getD []) w
def wordD (w : Str) : PyData := .tuple [.str w]
def askF (fs : List File) : Action → PyData
  | .read p => (match at? fs p with
    | none => wordD "none"
    | some ls => .tuple [.str "lines", strsD ls])
  | .kind z => if (at? fs z).isSome then wordD "file" else if isFolderF fs z then wordD "folder" else wordD "none"
  | .find z w => if (at? fs z).isSome || isFolderF fs z then .tuple [.str "found", .tuple (foundF fs z w)] else wordD "none"
  | .count z => if isFolderF fs z then .tuple [.str "many", .int ((insideF fs z).length : Nat)] else wordD "none"
  | .list z => if isFolderF fs z then .tuple [.str "names", strsD (namesF fs z)] else wordD "none"
  | _ => wordD "none"
theorem lenSum (xs : List Str) (n : Nat) (h : ∀ x ∈ xs, x.length ≤ n) : (xs.map (·.length)).sum ≤ n * xs.length := by
  induction xs with
  | nil => simp
  | cons x r ih =>
    have h1 := h x (List.mem_cons_self ..)
    have h2 := ih fun y hy => h y (List.mem_cons_of_mem _ hy)
    rw [List.map_cons, List.sum_cons, List.length_cons, Nat.mul_add, Nat.mul_one]
    omega
theorem path_len {p : Str} (h : isPathS p = true) : p.length ≤ 26 := by
  unfold isPathS at h
  rw [Bool.and_eq_true, decide_eq_true_eq, List.all_eq_true] at h
  have e := split_len p (PySem.Str.ofString "/")
  have s := lenSum (Txt.split p (PySem.Str.ofString "/")) 8 fun x hx => by
    have := h.2 x hx
    unfold isNameS at this
    simp only [Bool.and_eq_true, decide_eq_true_eq] at this
    exact this.1.2
  have e1 : (PySem.Str.ofString "/").length = 1 := by decide
  rw [e1] at e
  omega
theorem good_len {fs : List File} (h : goodF fs = true) : fs.length ≤ 20 := by
  unfold goodF at h
  simp only [Bool.and_eq_true, decide_eq_true_eq] at h
  exact h.1.1
theorem good_row {fs : List File} (h : goodF fs = true) {f : File} (hf : f ∈ fs) : isPathS f.1 = true ∧ isLinesS f.2 = true ∧ ∀ o ∈ pathsOf fs, isInsideS f.1 o = false := by
  unfold goodF at h
  simp only [Bool.and_eq_true, List.all_eq_true] at h
  have h2 := h.2 f hf
  unfold goodRow at h2
  simp only [Bool.and_eq_true, Bool.not_eq_true', List.any_eq_false] at h2
  exact ⟨h2.1.1, h2.1.2, fun o ho => by have := h2.2 o ho; simpa using this⟩
theorem good_path {fs : List File} (h : goodF fs = true) : ∀ p ∈ pathsOf fs, p.length ≤ 1000 := fun p hp => by
  obtain ⟨f, hf, rfl⟩ := List.mem_map.mp hp
  have := path_len (good_row h hf).1
  omega
theorem lines_len {ls : List Str} (h : isLinesS ls = true) : ls.length ≤ 12 ∧ ∀ y ∈ ls, y.length ≤ 20 ∧ isPlainS y = true := by
  unfold isLinesS at h
  simp only [Bool.and_eq_true, decide_eq_true_eq, List.all_eq_true] at h
  refine ⟨h.1, fun y hy => ?_⟩
  have := h.2 y hy
  unfold isLineS at this
  simp only [Bool.and_eq_true, decide_eq_true_eq] at this
  exact this
theorem good_sane {fs : List File} (h : goodF fs = true) : Sane fs := by
  refine ⟨by have := good_len h; omega, fun f hf => ?_⟩
  obtain ⟨h1, h2, _⟩ := good_row h hf
  have := path_len h1
  have l := lines_len h2
  exact ⟨by omega, by omega, fun y hy => by have := (l.2 y hy).1; omega⟩
theorem at_mem {fs : List File} {p : Str} {ls : List Str} (h : at? fs p = some ls) : (p, ls) ∈ fs := by
  unfold at? at h
  obtain ⟨f, h1, h2⟩ := Option.map_eq_some_iff.mp h
  have e := List.find?_some h1
  have m := List.mem_of_find?_eq_some h1
  simp only [decide_eq_true_eq] at e
  subst e h2
  exact m
theorem plain_ok {z : Str} (h : isPlainS z = true) : okS z = true := okS_iff.mpr fun c hc => by
  have := List.all_eq_true.mp h c hc
  unfold plainC at this
  simp only [Bool.and_eq_true, decide_eq_true_eq] at this
  omega
structure TreeG (K : PySem.W.Frag) (H : Hp) (t : Addr) (fs : List File) : Prop where
  at_ : TreeAt K H t fs
  good : goodF fs = true
theorem TreeG.kp {K : PySem.W.Frag} {H H' : Hp} {t : Addr} {fs : List File} (h : TreeG K H t fs) (e : Kp [] H H') : TreeG K H' t fs := ⟨h.at_.kp e, h.good⟩
theorem TreeG.ins {K : PySem.W.Frag} {H : Hp} {t : Addr} {fs : List File} (h : TreeG K H t fs) : ∃ dx d, H t = some (.ins (He.ga K "Tree") dx [("_files", .ref d)]) := by
  obtain ⟨⟨dx, d, _, hx, _⟩, _⟩ := h
  exact ⟨dx, d, hx⟩
theorem c_recvT {K : PySem.W.Frag} {H : Hp} {t : Addr} {fs : List File} {m : Str} {R : Hp → Prop} (h : TreeG K H t fs) (hm : ([("_files", V.non)] : List (Str × V)).lookup m = none) (q : R H) : RecvK K "Tree" m (.ref t) H R := by
  obtain ⟨dx, d, hx⟩ := h.ins
  refine c_recv hx ?_ q
  simp only [List.lookup] at hm ⊢
  split at hm
  · cases hm
  · rename_i hz; rfl
theorem ded_snoc (xs : List Str) (x : Str) : ded (xs ++ [x]) = if x ∈ ded xs then ded xs else ded xs ++ [x] := by
  have e : ded (xs ++ [x]) = stepT (ded xs) x := by show (xs ++ [x]).foldl stepT [] = _; rw [List.foldl_append]; rfl
  rw [e]
  unfold stepT
  by_cases h : x ∈ ded xs
  · rw [if_pos h, if_pos (List.any_eq_true.mpr ⟨x, h, by simp⟩)]
  · rw [if_neg h, if_neg (fun hz => by obtain ⟨y, hy, e⟩ := List.any_eq_true.mp hz; exact h ((beq_iff_eq.mp e) ▸ hy))]
section
variable {P : Program} {w : World} {K : PySem.W.Frag} {mg : Str → Option Value} {base : Heap}
theorem dtNONE (T : TX K mg) (H : Hp) : Dt K H (.ref (He.ga K "NONE")) (wordD "none") := Dt.of (T.cst 1 rfl H) rfl
theorem dtDONE (T : TX K mg) (H : Hp) : Dt K H (.ref (He.ga K "DONE")) (wordD "done") := Dt.of (T.cst 0 rfl H) rfl
theorem atQUESTIONS (T : TX K mg) (H : Hp) : SqT K H (He.ga K "QUESTIONS") ((["read", "kind", "list", "find", "count"] : List Str).map V.str) := strsD_at (Dt.of (T.cst 2 rfl H) rfl)
def spIsQ (K : PySem.W.Frag) : Sp := fun vs H Q _ => ∃ (a : Addr) (x : Action), vs = [.ref a] ∧ ActAt K H a x ∧ Q (.bl x.isQ) H
theorem sc_is_question : FnScope ["action"] ["action"] (defScope s_is_question) := ⟨rfl, rfl, rfl, by decide +kernel, rfl, by decide +kernel, by decide +kernel⟩
theorem bn_is_question : BindN "is_question" s_is_question ["action"] := fun _ _ _ _ _ _ us hl => match us, hl with | [_], _ => rfl
theorem b_is_question (T : TX K mg) : Body P w K mg base "is_question" s_is_question ["action"] 1 (spIsQ K) := by
  intro cdv A outer s H vs Q E h X hr
  obtain ⟨a, x, rfl, ha, q⟩ := h
  refine ⟨_, (pss_one (ps_ret (pe_cmpR (op_inU (K := K)) (pe_ix (ix_U (K := K)) (pv 0) pe_int (fun _ _ => rfl)) (pe_gCon (T.glo 22)) rfl))), ?_⟩
  have hq := atQUESTIONS T H
  cases x <;> (first | obtain ⟨l, m, ha, _, _⟩ := ha | obtain ⟨l, ha, _⟩ := ha | skip) <;>
    (walk_at "st"; refine c_inSs (.inr hq) ?_; first | exact q | (refine cast (congrArg (fun b => Q (.bl b) H) ?_) q; decide +kernel))
theorem D_is_question (T : TX K mg) : DefAt P w K mg base CX0 "is_question" 2 ["action"] (spIsQ K) :=
  def_of T 9 23 sc_is_question bn_is_question (by walk_at "len") (b_is_question T)
def placesF (xs ys : List Str) : List Nat := (List.range ((xs.length : Int) - ys.length + 1).toNat).filter fun i => decide (cutL xs (some ((i : Nat) : Int)) (some ((i : Nat) + (ys.length : Int))) = ys)
def spPlaces (K : PySem.W.Frag) : Sp := fun vs H Q _ => ∃ (a b : Addr) (xs ys : List Str), vs = [.ref a, .ref b] ∧ SqT K H a (xs.map V.str) ∧ SqT K H b (ys.map V.str) ∧ (∀ y ∈ xs, okS y = true) ∧ (∀ y ∈ ys, okS y = true) ∧ xs.length ≤ 1000 ∧ ys.length ≤ 1000 ∧
  ∀ p H', H p = none → Kp [] H H' → H' p = some (.lst ((placesF xs ys).map fun i => V.int (i : Nat))) → Q (.ref p) H'
theorem sc_places_of : FnScope ["lines", "part", "many", "at"] ["lines", "part"] (defScope s_places_of) := ⟨rfl, rfl, rfl, by decide +kernel, rfl, by decide +kernel, by decide +kernel⟩
theorem bn_places_of : BindN "places_of" s_places_of ["lines", "part"] := fun _ _ _ _ _ _ us hl => match us, hl with | [_, _], _ => rfl
theorem b_places_of (T : TX K mg) : Body P w K mg base "places_of" s_places_of ["lines", "part", "many", "at"] 1 (spPlaces K) := by
  intro cdv A outer s H vs Q E h X hr
  obtain ⟨a, b, xs, ys, rfl, ha, hb, ox, oy, lx, ly, q⟩ := h
  refine ⟨_, (pss_cons (ps_set (i := 2) sc_places_of.nd rfl (Or.inr rfl) (pe_callB (cr_len (K := K)) rfl (T.free 2) PySem.boot_len (pa_cons (pv 1) pa_nil))) (pss_one (ps_ret (pe_lc (own := [("at", 3)]) rfl sc_places_of.nd (pi_range1 rfl (T.free 27) (pa_cons (pe_op (op_addU (K := K)) (pe_op op_subU (pe_callB (cr_len (K := K)) rfl (T.free 2) PySem.boot_len (pa_cons (pv 0) pa_nil)) (pv 2)) pe_int) pa_nil)) (blkOk_by (N := ["lines", "part", "many", "at"]) (sc := defScope s_places_of) (by decide +kernel)) (fun _ _ _ _ _ => (pg_name (i := 3) sc_places_of.nd rfl (Or.inl rfl))) (fun _ _ _ _ _ => (pts_one (pt_cmpR (op_eqU (K := K) hr.units) (pe_callTy (cr_tuple (K := K)) rfl (T.free 28) (by decide +kernel) (pa_cons (pe_slice (sl_U (K := K)) (pv 0) (po_some (pv 3)) (po_some (pe_op (op_addU (K := K)) (pv 3) (pv 2)))) pa_nil)) (pe_callTy (cr_tuple (K := K)) rfl (T.free 28) (by decide +kernel) (pa_cons (pv 1) pa_nil)) (nomark _)))) (fun _ _ _ _ _ => (pv 3)))))), ?_⟩
  walk_at "st"
  rw [List.length_map, List.length_map]
  refine c_r1C (by omega) ?_
  refine lcQ_fil (itn_r (lo := 0)) (fun i => V.int (i : Nat)) (fun i => decide (cutL xs (some ((i : Nat) : Int)) (some ((i : Nat) + (ys.length : Int))) = ys)) (by omega) (fun _ _ => trivial) (fun i x H' H'' R S hi e y k1 k2 => ?_) (fun Dl H1 hD e hacc => ?_)
  · obtain ⟨rfl, rfl⟩ := y
    walk_at "st"
    refine ⟨rfl, ?_⟩
    walk_at "st"
    refine c_slT (SqT.kp e ha) fun p H2 e2 hp => ?_
    walk_at "st"
    refine c_tupleT hp ?_
    walk_at "st"
    refine c_tupleT (SqT.kp (e.trans e2) hb) ?_
    walk_at "st"
    rw [cutL_map] at hp
    refine c_eqTS hp (SqT.kp (e.trans e2) hb) (fun y hy => ox y ?_) oy ?_
    · unfold cutL at hy
      exact List.mem_of_mem_drop (List.mem_of_mem_take hy)
    walk_at "st"
    rw [Int.zero_add]
    refine c_ite (fun g => ?_) (fun g => ?_)
    · walk_at "st"
      exact k1 (decide_eq_true g) _ e2
    · exact k2 (decide_eq_false g) _ e2
  · exact q Dl H1 hD e hacc
theorem D_places_of (T : TX K mg) : DefAt P w K mg base CX0 "places_of" 2 ["lines", "part"] (spPlaces K) :=
  def_of T 12 29 sc_places_of bn_places_of (by walk_at "len") (b_places_of T)
end
end K45



namespace K45
open PySem L2 Sa
theorem sub_len (x : Str) (i j : Nat) : (PySem.Builtin.Str.strSub x i j).length ≤ x.length := by
  show (x.cps.extract i j).size ≤ x.cps.size
  rw [Array.size_extract]
  omega
theorem part_len (x y : Str) : (Txt.partition x y).1.length ≤ x.length ∧ (Txt.partition x y).2.1.length ≤ y.length := by
  rcases PyProof.Rows.partition_whole x y with ⟨e, _⟩ | ⟨i, e, _⟩
  · rw [e]; exact ⟨Nat.le_refl _, Nat.zero_le _⟩
  · rw [e]; exact ⟨sub_len _ _ _, Nat.le_refl _⟩
theorem inside_small {fs : List File} (h : goodF fs = true) (z : Str) : (insideF fs z).length ≤ 20 ∧ ∀ p ∈ insideF fs z, p.length ≤ 1000 ∧ p ∈ pathsOf fs := by
  refine ⟨?_, fun p hp => ?_⟩
  · have := List.length_filter_le (fun y => isInsideS y z) (pathsOf fs)
    have h2 := good_len h
    have h3 : (pathsOf fs).length = fs.length := List.length_map ..
    unfold insideF
    omega
  · have := (List.mem_filter.mp hp).1
    exact ⟨good_path h p this, this⟩
section
variable {P : Program} {w : World} {K : PySem.W.Frag} {mg : Str → Option Value} {base : Heap}
def spNames (K : PySem.W.Frag) : Sp := fun vs H Q _ => ∃ (t : Addr) (z : Str) (fs : List File), vs = [.ref t, .str z] ∧ TreeG K H t fs ∧ z.length ≤ 1000 ∧ ∀ p H', Kp [] H H' → SqT K H' p ((namesF fs z).map V.str) → Q (.ref p) H'
theorem sc__names : FnScope ["tree", "place", "start", "found", "path", "name", "gap", "_"] ["tree", "place"] (defScope s__names) := ⟨rfl, rfl, rfl, by decide +kernel, rfl, by decide +kernel, by decide +kernel⟩
theorem bn__names : BindN "_names" s__names ["tree", "place"] := fun _ _ _ _ _ _ us hl => match us, hl with | [_, _], _ => rfl
theorem b__names (T : TX K mg) : Body P w K mg base "_names" s__names ["tree", "place", "start", "found", "path", "name", "gap", "_"] 3 (spNames K) := by
  intro cdv A outer s H vs Q E h X hr
  obtain ⟨t, z, fs, rfl, ht, hz, q⟩ := h
  have C_Tree := C_Tree T; have M_Tree_paths := M_Tree_paths (P := P) (w := w) (base := base) T
  refine ⟨_, (Evl.pss_cut (ps_set (i := 2) sc__names.nd rfl (Or.inl rfl) (pe_ifExp (pt_cmpR (op_eqU (K := K) hr.units) (pv 1) pe_str (nomark _)) pe_int (pe_op (op_addU (K := K)) (pe_callB (cr_len (K := K)) rfl (T.free 2) PySem.boot_len (pa_cons (pv 1) pa_nil)) pe_int))) (pss_cons (ps_set (i := 3) sc__names.nd rfl (Or.inl rfl) (pe_lst pa_nil)) (pss_cons (ps_for PassesOwn.never rfl (pi_tupU (K := K) (pe_methS1 M_Tree_paths C_Tree hr at0 (pv 0) (pa_cons (pv 1) pa_nil))) (pg_name (i := 4) sc__names.nd rfl (Or.inl rfl)) (pss_cons (ps_asg (pe_partitionU (pe_slice (sl_U (K := K)) (pv 4) (po_some (pv 2)) po_none) pe_str) (pg_tupU (K := K) (n := 3) rfl (pgs_cons (pg_name (i := 5) sc__names.nd rfl (Or.inl rfl)) (pgs_cons (pg_name (i := 6) sc__names.nd rfl (Or.inl rfl)) (pgs_cons (pg_name (i := 7) sc__names.nd rfl (Or.inl rfl)) pgs_nil))))) (pss_one (ps_if (pt_cmpR (op_notInU (K := K)) (pe_op (op_addU (K := K)) (pv 5) (pv 6)) (pv 3) rfl) (pss_one (ps_expr (pe_appendU (K := K) (pv 3) (pe_op (op_addU (K := K)) (pv 5) (pv 6))))) pss_nil)))) (pss_one (ps_ret (pe_callTy (cr_tuple (K := K)) rfl (T.free 28) (by decide +kernel) (pa_cons (pe_callB cr_sortedS rfl (T.free 30) (by decide +kernel) (pa_cons (pv 3) pa_nil)) pa_nil))))))), ?_⟩
  walk_at "st"
  refine c_cut (fun σ' H' => σ' = [some (.ref t), some (.str z), some (.int (startN z)), none, none, none, none, none] ∧ H = H') ?_ ?_
  · walk_at "st"
    refine c_ite (fun g => ?_) (fun g => ?_)
    · walk_at "st"
      exact ⟨by unfold startN; rw [decide_eq_true g]; rfl, rfl⟩
    · walk_at "st"
      exact ⟨by unfold startN; rw [decide_eq_false g]; rfl, rfl⟩
  rintro _ _ ⟨rfl, rfl⟩
  walk_at "st"
  walk_at "nw"
  intro l H1 N
  walk_at "st"
  refine c_recvT (ht.kp N.kp) rfl ?_
  walk_at "st"
  refine ⟨t, z, fs, rfl, (ht.kp N.kp).at_, by have := good_len ht.good; omega, good_path ht.good, hz, fun pp H2 e2 hpp => ?_⟩
  walk_at "st"
  obtain ⟨il, ip⟩ := inside_small ht.good z
  refine forQ (itn_t (ys := insideF fs z) (u := V.str)) (fun i σ H' => ∃ v4 v5 v6 v7, σ = [some (.ref t), some (.str z), some (.int (startN z)), some (.ref l), v4, v5, v6, v7] ∧ Kp [] H H' ∧ SqT K H' pp ((insideF fs z).map V.str) ∧
    H' l = some (.lst ((ded (((insideF fs z).take i).map (firstN z))).map V.str))) ⟨_, _, _, _, rfl, N.kp.trans e2, hpp, e2.at0 N.at_⟩ (by rintro i σ H' ⟨_, _, _, _, _, _, h, _⟩; exact h) ?_ ?_
  · rintro i x σ H3 _ hi ⟨v4, v5, v6, v7, rfl, e3, hp3, hl3⟩ ⟨rfl, y, hy, rfl⟩
    obtain ⟨yl, _⟩ := ip y (List.mem_of_getElem? hy)
    have cl := cutS_len y (some (startN z)) none
    have pl := part_len (cutS y (some (startN z)) none) (PySem.Str.ofString "/")
    have e1 : (PySem.Str.ofString "/").length = 1 := by decide
    have et : ((insideF fs z).take (i + 1)).map (firstN z) = ((insideF fs z).take i).map (firstN z) ++ [firstN z y] := by rw [take_succ' hy, List.map_append]; rfl
    have dl : (ded (((insideF fs z).take i).map (firstN z))).length ≤ 20 := by
      have := ded_le (((insideF fs z).take i).map (firstN z))
      rw [List.length_map, List.length_take] at this
      omega
    walk_at "st"
    refine c_slS (by rw [sizeLine_eq]; omega) ?_
    walk_at "st"
    refine c_parti (s := cutS y (some (startN z)) none) (z := PySem.Str.ofString "/") (by decide) (by rw [sizeLine_eq]; omega) fun q4 H4 N4 => ?_
    walk_at "st"
    refine c_addS (by rw [sizeLine_eq]; omega) ?_
    walk_at "st"
    refine c_notInSs (.inl (SqL.of (N4.keep hl3))) ?_
    walk_at "st"
    refine c_iteN (fun g => ?_) (fun g => ?_)
    · walk_at "st"
      refine c_addS (by rw [sizeLine_eq]; omega) ?_
      refine ⟨l, _, _, rfl, rfl, N4.keep hl3, by rw [sizeLine_eq, List.length_map]; omega, ?_⟩
      walk_at "st"
      have n0 : H l = none := N.fr
      refine ⟨_, _, _, _, rfl, (e3.trans N4.kp).fresh_mut n0, SqT.kt (Kt.upd1 (NoT.lst (N4.keep hl3))) (SqT.kp N4.kp hp3), ?_⟩
      have g : firstN z y ∉ ded (((insideF fs z).take i).map (firstN z)) := g
      rw [upd_same, et, ded_snoc, if_neg g, List.map_append]
      rfl
    · walk_at "st"
      refine ⟨_, _, _, _, rfl, e3.trans N4.kp, SqT.kp N4.kp hp3, ?_⟩
      have g : firstN z y ∈ ded (((insideF fs z).take i).map (firstN z)) := g
      rw [et, ded_snoc, if_pos g]
      exact N4.keep hl3
  · rintro σ H3 ⟨v4, v5, v6, v7, rfl, e3, hp3, hl3⟩
    rw [List.take_length] at hl3
    have dl := ded_le ((insideF fs z).map (firstN z))
    rw [List.length_map] at dl
    walk_at "st"
    refine c_sortedS (SqL.of hl3) (by omega) fun p4 H4 N4 => ?_
    walk_at "st"
    refine c_tupleL (SqL.of N4.at_) fun p5 H5 N5 => ?_
    exact q p5 H5 ((e3.trans N4.kp).trans N5.kp) (SqT.of N5.at_)
theorem D__names (T : TX K mg) : DefAt P w K mg base CX0 "_names" 4 ["tree", "place"] (spNames K) :=
  def_of T 13 31 sc__names bn__names (by walk_at "len") (b__names T)
def spRows (K : PySem.W.Frag) : Sp := fun vs H Q _ => ∃ (t : Addr) (z w : Str) (fs : List File), vs = [.ref t, .str z, .str w] ∧ TreeG K H t fs ∧ z.length ≤ 1000 ∧ ∀ p H', Kp [] H H' → Dt K H' (.ref p) (.tuple (foundF fs z w)) → Q (.ref p) H'
theorem foundPs_mem {fs : List File} {z p : Str} (h : p ∈ foundPs fs z) : ∃ ls, at? fs p = some ls := by
  have h2 := (sortS_perm _).subset h
  rcases List.mem_append.mp h2 with h3 | h3
  · have := (List.mem_filter.mp h3).1
    obtain ⟨f, hf, e⟩ := List.mem_map.mp this
    cases q : at? fs p with
    | some ls => exact ⟨ls, rfl⟩
    | none =>
      unfold at? at q
      rw [Option.map_eq_none_iff, List.find?_eq_none] at q
      have := q f hf
      rw [← e] at this
      simp at this
  · by_cases hz : (at? fs z).isSome = true
    · rw [if_pos hz] at h3
      rw [List.mem_singleton.mp h3]
      exact Option.isSome_iff_exists.mp hz
    · rw [if_neg hz] at h3; cases h3
theorem sc__rows : FnScope ["tree", "place", "word", "paths", "found", "path", "at", "line"] ["tree", "place", "word"] (defScope s__rows) := ⟨rfl, rfl, rfl, by decide +kernel, rfl, by decide +kernel, by decide +kernel⟩
theorem bn__rows : BindN "_rows" s__rows ["tree", "place", "word"] := fun _ _ _ _ _ _ us hl => match us, hl with | [_, _, _], _ => rfl
theorem b__rows (T : TX K mg) : Body P w K mg base "_rows" s__rows ["tree", "place", "word", "paths", "found", "path", "at", "line"] 3 (spRows K) := by
  intro cdv A outer s H vs Q E h X hr
  obtain ⟨t, z, wd, fs, rfl, ht, hz, q⟩ := h
  have C_Tree := C_Tree T; have M_Tree_lines := M_Tree_lines (P := P) (w := w) (base := base) T; have M_Tree_paths := M_Tree_paths (P := P) (w := w) (base := base) T
  refine ⟨_, (pss_cons (ps_set (i := 3) sc__rows.nd rfl (Or.inl rfl) (pe_callTy (cr_list (K := K)) rfl (T.free 33) (by decide +kernel) (pa_cons (pe_methS1 M_Tree_paths C_Tree hr at0 (pv 0) (pa_cons (pv 1) pa_nil)) pa_nil))) (Evl.pss_cut (ps_if (pt_cmpR op_isNotU (pe_methS1 M_Tree_lines C_Tree hr at0 (pv 0) (pa_cons (pv 1) pa_nil)) pe_non (nomark _)) (pss_one (ps_expr (pe_appendU (K := K) (pv 3) (pv 1)))) pss_nil) (pss_cons (ps_set (i := 4) sc__rows.nd rfl (Or.inl rfl) (pe_lst pa_nil)) (pss_cons (ps_for PassesOwn.never rfl (pi_listU (K := K) (pe_callB cr_sortedS rfl (T.free 30) (by decide +kernel) (pa_cons (pv 3) pa_nil))) (pg_name (i := 5) sc__rows.nd rfl (Or.inr rfl)) (pss_one (ps_expr (pe_extendU (K := K) (pv 4) (pe_lc (own := [("at", 6), ("line", 7)]) rfl sc__rows.nd (pi_enumT (K := K) rfl (T.free 32) (pa_cons (pe_methS1 M_Tree_lines C_Tree hr at0 (pv 0) (pa_cons (pv 5) pa_nil)) pa_nil)) (blkOk_by (N := ["tree", "place", "word", "paths", "found", "path", "at", "line"]) (sc := defScope s__rows) (by decide +kernel)) (fun _ _ _ _ _ => (pg_tupU (K := K) (n := 2) rfl (pgs_cons (pg_name (i := 6) sc__rows.nd rfl (Or.inl rfl)) (pgs_cons (pg_name (i := 7) sc__rows.nd rfl (Or.inl rfl)) pgs_nil)))) (fun _ _ _ _ _ => (pts_one (pt_cmpR (op_inU (K := K)) (pv 2) (pv 7) rfl))) (fun _ _ _ _ _ => (pe_tup (pa_cons (pv 5) (pa_cons (pv 6) pa_nil))))))))) (pss_one (ps_ret (pe_callTy (cr_tuple (K := K)) rfl (T.free 28) (by decide +kernel) (pa_cons (pv 4) pa_nil)))))))), ?_⟩
  walk_at "st"
  refine c_recvT ht rfl ?_
  walk_at "st"
  obtain ⟨il, ip⟩ := inside_small ht.good z
  refine ⟨t, z, fs, rfl, ht.at_, by have := good_len ht.good; omega, good_path ht.good, hz, fun pp H1 e1 hpp => ?_⟩
  walk_at "st"
  refine c_listT hpp fun l H2 N => ?_
  walk_at "st"
  have e2 := e1.trans N.kp
  have hl2 : H2 l = some (.lst ((insideF fs z).map V.str)) := N.at_
  refine c_cut (fun σ' H' => σ' = [some (.ref t), some (.str z), some (.str wd), some (.ref l), none, none, none, none] ∧ Kp [] H H' ∧ H' l = some (.lst ((insideF fs z ++ if (at? fs z).isSome then [z] else []).map V.str))) ?_ ?_
  · walk_at "st"
    refine c_recvT (ht.kp e2) rfl ?_
    walk_at "st"
    refine ⟨t, z, fs, rfl, (ht.kp e2).at_, fun g => ?_, fun ls la g hla => ?_⟩
    · walk_at "st"
      refine c_iteF (by rfl) ?_
      walk_at "st"
      refine ⟨rfl, e2, ?_⟩
      rw [g, hl2]
      show _ = some (HO.lst ((insideF fs z ++ if false = true then [z] else []).map V.str))
      rw [if_neg Bool.false_ne_true, List.append_nil]
    · walk_at "st"
      refine c_iteT (by rfl) ?_
      walk_at "st"
      have n0 : H l = none := free0 e1 N.fr
      refine ⟨rfl, e2.fresh_mut n0, ?_⟩
      rw [upd_same, g]
      show _ = some (HO.lst ((insideF fs z ++ if true = true then [z] else []).map V.str))
      rw [if_pos rfl, List.map_append]
      rfl
  rintro _ H3 ⟨rfl, e3, hl3⟩
  walk_at "st"
  walk_at "nw"
  intro fd H4 N4
  walk_at "st"
  have pl : (insideF fs z ++ if (at? fs z).isSome then [z] else []).length ≤ 21 := by
    rw [List.length_append]
    split
    · rw [List.length_singleton]; omega
    · rw [List.length_nil]; omega
  refine c_sortedS (SqL.of (N4.keep hl3)) (by omega) fun sp H5 N5 => ?_
  walk_at "st"
  have e5 := (e3.trans N4.kp).trans N5.kp
  have nfd : H fd = none := free0 e3 N4.fr
  refine forQ (itn_l (ys := foundPs fs z) (u := V.str)) (fun i σ H' => ∃ v5 v6 v7 ws, σ = [some (.ref t), some (.str z), some (.str wd), some (.ref l), some (.ref fd), v5, v6, v7] ∧ Kp [] H H' ∧ SqL K H' sp ((foundPs fs z).map V.str) ∧
    H' fd = some (.lst ws) ∧ DtAll K H' ws (((foundPs fs z).take i).flatMap fun p => rowsD p ((at? fs p).getD []) wd) ∧ ws.length ≤ 12 * i) ⟨_, _, _, [], rfl, e5, SqL.of N5.at_, N5.keep N4.at_, .nil, by simp⟩ (by rintro i σ H' ⟨_, _, _, _, _, _, h, _⟩; exact h) ?_ ?_
  · rintro i x σ H6 _ hi ⟨v5, v6, v7, ws, rfl, e6, hsp, hfd, hws, hwl⟩ ⟨rfl, p, hp, rfl⟩
    obtain ⟨ls, hls⟩ := foundPs_mem (List.mem_of_getElem? hp)
    have hll : ls.length ≤ 12 := (lines_len (good_row ht.good (at_mem hls)).2.1).1
    have il2 : i < 21 := by have := sortS_len (insideF fs z ++ if (at? fs z).isSome then [z] else []); unfold foundPs at hi; omega
    walk_at "st"
    refine c_recvT (ht.kp e6) rfl ?_
    walk_at "st"
    refine ⟨t, p, fs, rfl, (ht.kp e6).at_, fun g => by rw [g] at hls; (cases hls), fun ls' la g hla => ?_⟩
    obtain rfl : ls' = ls := by rw [g] at hls; exact Option.some.inj hls
    refine ⟨la, _, rfl, hla, ?_⟩
    refine lcQ_dt (K := K) (itn_et (ys := ls') (u := V.str)) (fun i => .tuple [.str p, .int (i : Nat)]) (fun i => occS (ls'.getD i Str.empty) wd) (by omega) (fun H' e => SqT.kp e hla) (fun j x H' H'' R S hj e y k1 k2 => ?_) (fun D ws2 H7 hD e7 hacc hws2 => ?_)
    · obtain ⟨T1, y, rfl, N1, hy⟩ := y
      walk_at "st"
      refine ⟨rfl, ?_⟩
      walk_at "st"
      refine c_inT ?_
      walk_at "st"
      have ey : ls'.getD j Str.empty = y := getD_of hy
      refine c_iteB (fun g => ?_) (fun g => ?_)
      · walk_at "st"
        walk_at "nw"
        intro q4 H4 N4
        exact k1 (by rw [ey]; exact g) _ _ N4.kp (.tup (SqT.of N4.at_) (.cons (.str p) (.cons (.int _) .nil)))
      · exact k2 (by rw [ey]; exact g) _ Kp.refl
    have w2 : ws2.length ≤ 12 := by
      rw [dta_len hws2, List.length_map]
      have := List.length_filter_le (fun i => occS (ls'.getD i Str.empty) wd) (List.range ls'.length)
      rw [List.length_range] at this
      omega
    have hfd7 := e7.at0 hfd
    refine ⟨fd, D, ws, ws2, rfl, rfl, hfd7, hacc, by rw [sizeLine_eq]; omega, ?_⟩
    walk_at "st"
    have kt : Kt H7 (upd H7 fd (.lst (ws ++ ws2))) := Kt.upd1 (NoT.lst hfd7)
    have nsp : sp ≠ fd := (ne_of_none N4.at_ N5.fr).symm
    refine ⟨_, _, _, ws ++ ws2, rfl, (e6.trans e7).fresh_mut nfd, SqL.other nsp (SqL.kp e7 hsp), upd_same, ?_, by rw [List.length_append]; omega⟩
    rw [take_succ' hp, List.flatMap_append]
    refine dta_app (DtAll.kt (e7.kt.trans kt) hws) ?_
    have := DtAll.kt kt hws2
    show DtAll _ _ _ (rowsD p ((at? fs p).getD []) wd ++ [])
    rw [hls, List.append_nil]
    exact this
  · rintro σ H6 ⟨v5, v6, v7, ws, rfl, e6, hsp, hfd, hws, hwl⟩
    rw [List.take_length] at hws
    walk_at "st"
    refine c_tupleL (SqL.of hfd) fun p5 H7 N7 => ?_
    exact q p5 H7 (e6.trans N7.kp) (.tup (SqT.of N7.at_) (DtAll.kp hws N7.kp))
theorem D__rows (T : TX K mg) : DefAt P w K mg base CX0 "_rows" 4 ["tree", "place", "word"] (spRows K) :=
  def_of T 14 34 sc__rows bn__rows (by walk_at "len") (b__rows T)
def spAsk (K : PySem.W.Frag) : Sp := fun vs H Q _ => ∃ (t a : Addr) (x : Action) (fs : List File), vs = [.ref t, .ref a] ∧ TreeG K H t fs ∧ ActAt K H a x ∧ x.isQ = true ∧ x.sane ∧ ∀ v H', Kp [] H H' → Dt K H' v (askF fs x) → Q v H'
theorem two_of (u v : V) (r : List V) : cutL (u :: v :: r) none (some 2) = [u, v] := by
  unfold cutL
  have e1 : HT.sIx (u :: v :: r).length 0 none = 0 := rfl
  rw [e1, sIx_of (by decide), List.drop_zero, Nat.sub_zero]
  have e2 : min (2 : Int).toNat (u :: v :: r).length = 2 := by simp only [List.length_cons]; omega
  rw [e2]
  rfl
theorem sc__ask : FnScope ["tree", "action", "word", "place", "lines", "is_file"] ["tree", "action"] (defScope s__ask) := ⟨rfl, rfl, rfl, by decide +kernel, rfl, by decide +kernel, by decide +kernel⟩
theorem bn__ask : BindN "_ask" s__ask ["tree", "action"] := fun _ _ _ _ _ _ us hl => match us, hl with | [_, _], _ => rfl
theorem b__ask (T : TX K mg) : Body P w K mg base "_ask" s__ask ["tree", "action", "word", "place", "lines", "is_file"] 4 (spAsk K) := by
  intro cdv A outer s H vs Q E h X hr
  obtain ⟨t, a, x, fs, rfl, ht, ha, hq, hs, q⟩ := h
  have C_Tree := C_Tree T; have D__names := D__names (P := P) (w := w) (base := base) T; have D__rows := D__rows (P := P) (w := w) (base := base) T; have M_Tree_is_folder := M_Tree_is_folder (P := P) (w := w) (base := base) T; have M_Tree_lines := M_Tree_lines (P := P) (w := w) (base := base) T; have M_Tree_paths := M_Tree_paths (P := P) (w := w) (base := base) T
  refine ⟨_, (pss_cons (ps_asg (pe_slice (sl_U (K := K)) (pv 1) po_none (po_some pe_int)) (pg_tupU (K := K) (n := 2) rfl (pgs_cons (pg_name (i := 2) sc__ask.nd rfl (Or.inl rfl)) (pgs_cons (pg_name (i := 3) sc__ask.nd rfl (Or.inl rfl)) pgs_nil)))) (pss_cons (ps_if (pt_cmpR (op_eqU (K := K) hr.units) (pv 2) pe_str (nomark _)) (pss_cons (ps_set (i := 4) sc__ask.nd rfl (Or.inl rfl) (pe_methS1 M_Tree_lines C_Tree hr at0 (pv 0) (pa_cons (pv 3) pa_nil))) (pss_one (ps_ret (pe_ifExp (pt_cmpR op_isU (pv 4) pe_non (nomark _)) (pe_gCon (T.glo 35)) (pe_tup (pa_cons pe_str (pa_cons (pv 4) pa_nil))))))) pss_nil) (pss_cons (ps_set (i := 5) sc__ask.nd rfl (Or.inl rfl) (pe_cmpR op_isNotU (pe_methS1 M_Tree_lines C_Tree hr at0 (pv 0) (pa_cons (pv 3) pa_nil)) pe_non (nomark _))) (pss_cons (ps_if (PW.pt (pw_and (pt_cmpR (op_eqU (K := K) hr.units) (pv 2) pe_str (nomark _)) (pw_and1 (pt_tru (K := K) (pv 5))))) (pss_one (ps_ret (pe_tup (pa_cons pe_str pa_nil)))) pss_nil) (pss_cons (ps_if (PW.pt (pw_and (pt_cmpR (op_eqU (K := K) hr.units) (pv 2) pe_str (nomark _)) (pw_and1 (pt_tru (K := K) (pv 5))))) (pss_one (ps_ret (pe_tup (pa_cons pe_str (pa_cons (pe_callA D__rows hr pass0 (pa_cons (pv 0) (pa_cons (pv 3) (pa_cons (pe_ix (ix_U (K := K)) (pv 1) pe_int (fun _ _ => rfl)) pa_nil)))) pa_nil))))) pss_nil) (pss_cons (ps_if (pt_not (pt_tru (K := K) (pe_methS1 M_Tree_is_folder C_Tree hr at0 (pv 0) (pa_cons (pv 3) pa_nil)))) (pss_one (ps_ret (pe_gCon (T.glo 35)))) pss_nil) (pss_cons (ps_if (pt_cmpR (op_eqU (K := K) hr.units) (pv 2) pe_str (nomark _)) (pss_one (ps_ret (pe_tup (pa_cons pe_str pa_nil)))) pss_nil) (pss_cons (ps_if (pt_cmpR (op_eqU (K := K) hr.units) (pv 2) pe_str (nomark _)) (pss_one (ps_ret (pe_tup (pa_cons pe_str (pa_cons (pe_callA D__rows hr pass0 (pa_cons (pv 0) (pa_cons (pv 3) (pa_cons (pe_ix (ix_U (K := K)) (pv 1) pe_int (fun _ _ => rfl)) pa_nil)))) pa_nil))))) pss_nil) (pss_cons (ps_if (pt_cmpR (op_eqU (K := K) hr.units) (pv 2) pe_str (nomark _)) (pss_one (ps_ret (pe_tup (pa_cons pe_str (pa_cons (pe_callB (cr_len (K := K)) rfl (T.free 2) PySem.boot_len (pa_cons (pe_methS1 M_Tree_paths C_Tree hr at0 (pv 0) (pa_cons (pv 3) pa_nil)) pa_nil)) pa_nil))))) pss_nil) (pss_one (ps_ret (pe_tup (pa_cons pe_str (pa_cons (pe_callA D__names hr pass0 (pa_cons (pv 0) (pa_cons (pv 3) pa_nil))) pa_nil)))))))))))))), ?_⟩
  have lk : ∀ {H1 : Hp} {z : Str} {Q1 : VK}, Kp [] H H1 → (at? fs z = none → Q1 .non H1) → (∀ ls l, at? fs z = some ls → SqT K H1 l (ls.map V.str) → Q1 (.ref l) H1) → spTLines K [.ref t, .str z] H1 Q1 E0 := fun e h1 h2 => ⟨t, _, fs, rfl, (ht.kp e).at_, h1, h2⟩
  have fo : ∀ {H1 : Hp} {z : Str} {Q1 : VK}, Kp [] H H1 → z.length ≤ 1000 → (∀ H', Kp [] H H' → Q1 (.bl (isFolderF fs z)) H') → spTFolder K [.ref t, .str z] H1 Q1 E0 := fun e hz h => ⟨t, _, fs, rfl, (ht.kp e).at_, by have := good_len ht.good; omega, good_path ht.good, hz, fun H' e' => h H' (e.trans e')⟩
  have NO : ∀ H', Kp [] H H' → askF fs x = wordD "none" → Q (.ref (He.ga K "NONE")) H' := fun H' e h => q _ H' e (by rw [h]; exact dtNONE T H')
  cases x with
  | read p =>
    walk_at "st"
    refine c_slT ha fun p1 H1 e1 hp1 => ?_
    rw [two_of] at hp1
    walk_at "dc"
    refine c_recvT (ht.kp e1) rfl ?_
    walk_at "dc"
    refine lk e1 (fun g => ?_) (fun ls l g hl => ?_)
    · walk_at "dc"
      exact NO _ e1 (by simp only [askF, g])
    · walk_at "dc"
      walk_at "nw"
      intro q3 H3 N3
      refine q _ H3 (e1.trans N3.kp) ?_
      simp only [askF, g]
      exact .tup (SqT.of N3.at_) (.cons (.str _) (.cons (dt_strs (SqT.kp N3.kp hl)) .nil))
  | kind z =>
    have hz : z.length ≤ 1000 := hs
    walk_at "st"
    refine c_slT ha fun p1 H1 e1 hp1 => ?_
    rw [two_of] at hp1
    walk_at "dc"
    refine c_recvT (ht.kp e1) rfl ?_
    walk_at "dc"
    refine lk e1 (fun g => ?_) (fun ls l g hl => ?_)
    · walk_at "dc"
      refine c_recvT (ht.kp e1) rfl ?_
      walk_at "dc"
      refine fo e1 hz fun H2 e2 => ?_
      walk_at "dc"
      refine c_iteNB (fun g2 => ?_) (fun g2 => ?_)
      · walk_at "dc"
        exact NO _ e2 (by simp only [askF, g, g2]; rfl)
      · walk_at "dc"
        walk_at "nw"
        intro q3 H3 N3
        refine q _ H3 (e2.trans N3.kp) ?_
        simp only [askF, g, g2]
        exact .tup (SqT.of N3.at_) (.cons (.str _) .nil)
    · walk_at "dc"
      walk_at "nw"
      intro q3 H3 N3
      refine q _ H3 (e1.trans N3.kp) ?_
      simp only [askF, g]
      exact .tup (SqT.of N3.at_) (.cons (.str _) .nil)
  | list z =>
    have hz : z.length ≤ 1000 := hs
    walk_at "st"
    refine c_slT ha fun p1 H1 e1 hp1 => ?_
    rw [two_of] at hp1
    walk_at "dc"
    refine c_recvT (ht.kp e1) rfl ?_
    walk_at "dc"
    have fin : ∀ v5 : V, ∀ Q2 : St → Hp → Prop, True := fun _ _ => trivial
    refine lk e1 (fun g => ?_) (fun ls l g hl => ?_) <;>
    · walk_at "dc"
      refine c_recvT (ht.kp e1) rfl ?_
      walk_at "dc"
      refine fo e1 hz fun H2 e2 => ?_
      walk_at "dc"
      refine c_iteNB (fun g2 => ?_) (fun g2 => ?_)
      · walk_at "dc"
        exact NO _ e2 (by simp only [askF, g2]; rfl)
      · walk_at "dc"
        refine ⟨t, z, fs, rfl, ht.kp e2, hz, fun p3 H3 e3 hp3 => ?_⟩
        walk_at "dc"
        walk_at "nw"
        intro q4 H4 N4
        refine q _ H4 ((e2.trans e3).trans N4.kp) ?_
        simp only [askF, g2]
        exact .tup (SqT.of N4.at_) (.cons (.str _) (.cons (dt_strs (SqT.kp N4.kp hp3)) .nil))
  | count z =>
    have hz : z.length ≤ 1000 := hs
    walk_at "st"
    refine c_slT ha fun p1 H1 e1 hp1 => ?_
    rw [two_of] at hp1
    walk_at "dc"
    refine c_recvT (ht.kp e1) rfl ?_
    walk_at "dc"
    refine lk e1 (fun g => ?_) (fun ls l g hl => ?_) <;>
    · walk_at "dc"
      refine c_recvT (ht.kp e1) rfl ?_
      walk_at "dc"
      refine fo e1 hz fun H2 e2 => ?_
      walk_at "dc"
      refine c_iteNB (fun g2 => ?_) (fun g2 => ?_)
      · walk_at "dc"
        exact NO _ e2 (by simp only [askF, g2]; rfl)
      · walk_at "dc"
        refine c_recvT (ht.kp e2) rfl ?_
        walk_at "dc"
        refine ⟨t, z, fs, rfl, (ht.kp e2).at_, by have := good_len ht.good; omega, good_path ht.good, hz, fun p3 H3 e3 hp3 => ?_⟩
        walk_at "dc"
        walk_at "nw"
        intro q4 H4 N4
        refine q _ H4 ((e2.trans e3).trans N4.kp) ?_
        simp only [askF, g2]
        refine .tup (SqT.of N4.at_) (.cons (.str _) (.cons ?_ .nil))
        rw [List.length_map]
        exact .int _
  | find z wd =>
    have hz : z.length ≤ 1000 := hs.1
    walk_at "st"
    refine c_slT ha fun p1 H1 e1 hp1 => ?_
    rw [two_of] at hp1
    walk_at "dc"
    refine c_recvT (ht.kp e1) rfl ?_
    walk_at "dc"
    refine lk e1 (fun g => ?_) (fun ls l g hl => ?_)
    · walk_at "dc"
      refine c_recvT (ht.kp e1) rfl ?_
      walk_at "dc"
      refine fo e1 hz fun H2 e2 => ?_
      walk_at "dc"
      refine c_iteNB (fun g2 => ?_) (fun g2 => ?_)
      · walk_at "dc"
        exact NO _ e2 (by simp only [askF, g, g2]; rfl)
      · walk_at "dc"
        refine c_ixT (SqT.kp e2 ha) rfl ?_
        walk_at "dc"
        refine ⟨t, z, wd, fs, rfl, ht.kp e2, hz, fun p3 H3 e3 hp3 => ?_⟩
        walk_at "dc"
        walk_at "nw"
        intro q4 H4 N4
        refine q _ H4 ((e2.trans e3).trans N4.kp) ?_
        simp only [askF, g, g2]
        exact .tup (SqT.of N4.at_) (.cons (.str _) (.cons (Dt.kp hp3 N4.kp) .nil))
    · walk_at "dc"
      refine c_ixT (SqT.kp e1 ha) rfl ?_
      walk_at "dc"
      refine ⟨t, z, wd, fs, rfl, ht.kp e1, hz, fun p3 H3 e3 hp3 => ?_⟩
      walk_at "dc"
      walk_at "nw"
      intro q4 H4 N4
      refine q _ H4 ((e1.trans e3).trans N4.kp) ?_
      simp only [askF, g]
      exact .tup (SqT.of N4.at_) (.cons (.str _) (.cons (Dt.kp hp3 N4.kp) .nil))
  | _ => cases hq
theorem D__ask (T : TX K mg) : DefAt P w K mg base CX0 "_ask" 5 ["tree", "action"] (spAsk K) :=
  def_of T 15 36 sc__ask bn__ask (by walk_at "len") (b__ask T)
end
end K45



namespace K45
open PySem L2 Sa
def blockedF (fs : List File) (p : Str) : Bool := decide (0 < (insideF fs p).length) || decide (0 < (aboveF fs p).length)
def splicedL (ls old new : List Str) (i : Nat) : List Str := ls.take i ++ new ++ ls.drop (i + old.length)
def deedF (fs : List File) : Action → PyData × List File
  | .write p ls => if blockedF fs p then (wordD "blocked", fs) else if (at? fs p).isNone && decide (fs.length = 20) then (wordD "full", fs) else (wordD "done", sortF (withF fs p ls))
  | .remove p => if (at? fs p).isNone then (wordD "missing", fs) else (wordD "done", sortF (withoutF fs p))
  | .move p t => (match at? fs p with
    | none => (wordD "missing", fs)
    | some ls => if (at? (sortF (withoutF fs p)) t).isSome || blockedF (sortF (withoutF fs p)) t then (wordD "blocked", fs) else (wordD "done", sortF (withF (sortF (withoutF fs p)) t ls)))
  | .splice p old new => (match at? fs p with
    | none => (wordD "missing", fs)
    | some ls => (match placesF ls old with
      | [] => (wordD "absent", fs)
      | [i] => if decide ((12 : Int) < (ls.length : Int) - old.length + new.length) then (wordD "long", fs) else (wordD "done", sortF (withF fs p (splicedL ls old new i)))
      | _ => (wordD "ambiguous", fs)))
  | _ => (wordD "none", fs)
def actF (fs : List File) (x : Action) : PyData × List File := if x.isQ then (askF fs x, fs) else deedF fs x
structure GoodP (fs : List File) : Prop where
  len : fs.length ≤ 20
  once : Once fs
  path : ∀ f ∈ fs, isPathS f.1 = true
  lines : ∀ f ∈ fs, isLinesS f.2 = true
  apart : ∀ f ∈ fs, ∀ g ∈ fs, isInsideS f.1 g.1 = false
theorem fold_nodup : ∀ (xs σ : List Str), xs.Nodup → (∀ x ∈ xs, x ∉ σ) → xs.foldl stepT σ = σ ++ xs
  | [], σ, _, _ => by simp
  | x :: r, σ, h, hn => by
    obtain ⟨h1, h2⟩ := List.nodup_cons.mp h
    have e : stepT σ x = σ ++ [x] := by
      unfold stepT
      rw [if_neg fun hz => by obtain ⟨y, hy, e⟩ := List.any_eq_true.mp hz; exact hn x (List.mem_cons_self ..) ((beq_iff_eq.mp e) ▸ hy)]
    rw [List.foldl_cons, e, fold_nodup r (σ ++ [x]) h2 fun y hy hm => ?_, List.append_assoc]
    · rfl
    · rcases List.mem_append.mp hm with hm | hm
      · exact hn y (List.mem_cons_of_mem _ hy) hm
      · rw [List.mem_singleton.mp hm] at hy; exact h1 hy
theorem ded_nodup {xs : List Str} (h : xs.Nodup) : ded xs = xs := by
  have := fold_nodup xs [] h (by simp)
  exact this
theorem goodF_iff {fs : List File} : goodF fs = true ↔ GoodP fs := by
  constructor
  · intro h
    exact ⟨good_len h, goodF_once h, fun f hf => (good_row h hf).1, fun f hf => (good_row h hf).2.1, fun f hf g hg => (good_row h hf).2.2 g.1 (List.mem_map_of_mem hg)⟩
  · intro h
    unfold goodF
    rw [ded_nodup (xs := pathsOf fs) h.once]
    have e : (pathsOf fs).length = fs.length := List.length_map ..
    rw [e, decide_eq_true h.len, decide_eq_false (Nat.lt_irrefl _), Bool.not_false, Bool.true_and, Bool.true_and, List.all_eq_true]
    intro f hf
    unfold goodRow
    rw [h.path f hf, h.lines f hf, Bool.true_and, Bool.true_and, Bool.not_eq_true', List.any_eq_false]
    intro o ho
    obtain ⟨g, hg, rfl⟩ := List.mem_map.mp ho
    rw [h.apart f hf g hg]
    exact Bool.false_ne_true
theorem GoodP.perm {fs gs : List File} (h : GoodP fs) (p : fs.Perm gs) : GoodP gs :=
  ⟨by rw [← p.length_eq]; exact h.len, (p.map Prod.fst).nodup h.once, fun f hf => h.path f (p.symm.subset hf), fun f hf => h.lines f (p.symm.subset hf), fun f hf g hg => h.apart f (p.symm.subset hf) g (p.symm.subset hg)⟩
theorem GoodP.sort {fs : List File} (h : GoodP fs) : GoodP (sortF fs) := h.perm (sortF_perm fs).symm
theorem GoodP.without {fs : List File} (h : GoodP fs) (p : Str) : GoodP (withoutF fs p) := by
  have sub : ∀ f ∈ withoutF fs p, f ∈ fs := fun f hf => (List.mem_filter.mp hf).1
  exact ⟨Nat.le_trans (List.length_filter_le _ _) h.len, List.Nodup.sublist (List.Sublist.map _ List.filter_sublist) h.once, fun f hf => h.path f (sub f hf), fun f hf => h.lines f (sub f hf), fun f hf g hg => h.apart f (sub f hf) g (sub g hg)⟩
theorem starts_len {x y : Str} (h : Txt.startswith x y = true) : y.length ≤ x.length := by
  rw [← cut_starts, decide_eq_true_eq] at h
  have := cutS_len x none (some (y.length : Int))
  rw [h] at this
  exact this
theorem path_ne {p : Str} (h : isPathS p = true) : p ≠ PySem.Str.ofString "" := fun e => by
  rw [e] at h
  revert h
  decide +kernel
theorem self_out {p : Str} (h : isPathS p = true) : isInsideS p p = false := by
  unfold isInsideS
  rw [decide_eq_false (path_ne h), Bool.false_or]
  cases q : Txt.startswith p (p ++ PySem.Str.ofString "/") with
  | false => rfl
  | true =>
    have := starts_len q
    rw [str_app_len] at this
    have e1 : (PySem.Str.ofString "/").length = 1 := by decide
    omega
theorem nob {fs : List File} {p : Str} (h : blockedF fs p = false) : (∀ g ∈ fs, isInsideS g.1 p = false) ∧ ∀ g ∈ fs, isInsideS p g.1 = false := by
  unfold blockedF at h
  simp only [Bool.or_eq_false_iff, decide_eq_false_iff_not, Nat.not_lt, Nat.le_zero, List.length_eq_zero_iff] at h
  refine ⟨fun g hg => ?_, fun g hg => ?_⟩
  · have := List.filter_eq_nil_iff.mp h.1 g.1 (List.mem_map_of_mem hg)
    simpa using this
  · have := List.filter_eq_nil_iff.mp h.2 g.1 (List.mem_map_of_mem hg)
    simpa using this
theorem at_isSome {fs : List File} {p : Str} : (at? fs p).isSome = true ↔ p ∈ pathsOf fs := by
  unfold at? pathsOf
  rw [Option.isSome_map, List.find?_isSome, List.mem_map]
  constructor
  · rintro ⟨f, hf, e⟩; exact ⟨f, hf, by simpa using e⟩
  · rintro ⟨f, hf, e⟩; exact ⟨f, hf, by simpa using e⟩
theorem without_len {fs : List File} {p : Str} (h : p ∈ pathsOf fs) : (withoutF fs p).length < fs.length := by
  obtain ⟨f, hf, e⟩ := List.mem_map.mp h
  unfold withoutF
  refine List.length_filter_lt_length_iff_exists.mpr ⟨f, hf, ?_⟩
  simp [e]
theorem GoodP.withf {fs : List File} {p : Str} {ls : List Str} (h : GoodP fs) (hp : isPathS p = true) (hl : isLinesS ls = true) (nb : (∀ g ∈ fs, isInsideS g.1 p = false) ∧ ∀ g ∈ fs, isInsideS p g.1 = false)
    (hn : fs.length < 20 ∨ (at? fs p).isSome = true) : GoodP (withF fs p ls) := by
  have hw := h.without p
  have mem : ∀ f ∈ withF fs p ls, f ∈ withoutF fs p ∨ f = (p, ls) := fun f hf => by
    rcases List.mem_append.mp hf with hf | hf
    · exact .inl hf
    · exact .inr (List.mem_singleton.mp hf)
  have sub : ∀ f ∈ withoutF fs p, f ∈ fs := fun f hf => (List.mem_filter.mp hf).1
  refine ⟨?_, ?_, fun f hf => ?_, fun f hf => ?_, fun f hf g hg => ?_⟩
  · unfold withF
    rw [List.length_append, List.length_singleton]
    rcases hn with hn | hn
    · have := List.length_filter_le (fun f : File => !decide (f.1 = p)) fs
      unfold withoutF
      omega
    · have := without_len (at_isSome.mp hn)
      have := h.len
      omega
  · unfold withF Once
    rw [List.map_append, List.nodup_append]
    refine ⟨hw.once, by simp, fun a ha b hb => ?_⟩
    simp only [List.map_cons, List.map_nil, List.mem_singleton] at hb
    subst hb
    obtain ⟨f, hf, rfl⟩ := List.mem_map.mp ha
    have := (List.mem_filter.mp hf).2
    simpa using this
  · rcases mem f hf with hf | rfl
    · exact hw.path f hf
    · exact hp
  · rcases mem f hf with hf | rfl
    · exact hw.lines f hf
    · exact hl
  · rcases mem f hf with hf | rfl <;> rcases mem g hg with hg | rfl
    · exact hw.apart f hf g hg
    · exact nb.1 f (sub f hf)
    · exact nb.2 g (sub g hg)
    · exact self_out hp
theorem own_nob {fs : List File} {p : Str} (h : GoodP fs) (hp : p ∈ pathsOf fs) : (∀ g ∈ fs, isInsideS g.1 p = false) ∧ ∀ g ∈ fs, isInsideS p g.1 = false := by
  obtain ⟨f, hf, rfl⟩ := List.mem_map.mp hp
  exact ⟨fun g hg => h.apart g hg f hf, fun g hg => h.apart f hf g hg⟩
theorem places_lt {xs ys : List Str} {i : Nat} (h : i ∈ placesF xs ys) : i + ys.length ≤ xs.length := by
  have := List.mem_range.mp (List.mem_filter.mp h).1
  omega
theorem lines_splice {ls old new : List Str} {i : Nat} (h1 : isLinesS ls = true) (h2 : isLinesS new = true) (hi : i + old.length ≤ ls.length) (hn : ¬ (12 : Int) < (ls.length : Int) - old.length + new.length) : isLinesS (splicedL ls old new i) = true := by
  unfold isLinesS at h1 h2 ⊢
  simp only [Bool.and_eq_true, decide_eq_true_eq, List.all_eq_true] at h1 h2 ⊢
  unfold splicedL
  refine ⟨?_, fun y hy => ?_⟩
  · rw [List.length_append, List.length_append, List.length_take, List.length_drop]
    omega
  · rcases List.mem_append.mp hy with hy | hy
    · rcases List.mem_append.mp hy with hy | hy
      · exact h1.2 y (List.mem_of_mem_take hy)
      · exact h2.2 y hy
    · exact h1.2 y (List.mem_of_mem_drop hy)
theorem GoodP.act {fs : List File} {x : Action} (h : GoodP fs) (hb : x.bad = none) : GoodP (actF fs x).2 := by
  unfold actF
  cases x with
  | write p ls =>
    simp only [Action.isQ, Bool.false_eq_true, if_false, deedF]
    simp only [Action.bad] at hb
    split at hb
    · rename_i hp
      split at hb
      · rename_i hl
        split
        · exact h
        · rename_i hbl
          split
          · exact h
          · rename_i hf
            refine (h.withf hp hl (nob (by simpa using hbl)) ?_).sort
            simp only [Bool.and_eq_true, decide_eq_true_eq, not_and] at hf
            cases q : at? fs p with
            | some _ => exact .inr rfl
            | none =>
              have := hf (by rw [q]; rfl)
              have := h.len
              exact .inl (by omega)
      · cases hb
    · cases hb
  | remove p =>
    simp only [Action.isQ, Bool.false_eq_true, if_false, deedF]
    split
    · exact h
    · exact (h.without p).sort
  | move p t =>
    simp only [Action.isQ, Bool.false_eq_true, if_false, deedF]
    simp only [Action.bad] at hb
    split at hb
    · rename_i hp
      split at hb
      · rename_i ht
        cases q : at? fs p with
        | none => exact h
        | some ls =>
          simp only
          split
          · exact h
          · rename_i hf
            simp only [Bool.or_eq_true, not_or, Bool.not_eq_true] at hf
            have hw := (h.without p).sort
            have hm := at_mem q
            refine (hw.withf ht (h.lines _ hm) (nob hf.2) (.inl ?_)).sort
            rw [sortF_len]
            have := without_len (List.mem_map_of_mem (f := Prod.fst) hm)
            have := h.len
            simp only at *
            omega
      · cases hb
    · cases hb
  | splice p old new =>
    simp only [Action.isQ, Bool.false_eq_true, if_false, deedF]
    simp only [Action.bad] at hb
    split at hb
    · rename_i hp
      split at hb
      · split at hb
        · rename_i hnew
          cases q : at? fs p with
          | none => exact h
          | some ls =>
            simp only
            have hm := at_mem q
            have hpm : p ∈ pathsOf fs := List.mem_map_of_mem (f := Prod.fst) hm
            split
            · exact h
            · rename_i i hpl
              split
              · exact h
              · rename_i hlong
                have hi := places_lt (xs := ls) (ys := old) (i := i) (by rw [hpl]; exact List.mem_singleton.mpr rfl)
                exact (h.withf hp (lines_splice (h.lines _ hm) hnew hi (by simpa using hlong)) (own_nob h hpm) (.inr (by rw [q]; rfl))).sort
            · exact h
        · cases hb
      · cases hb
    · cases hb
  | _ => exact h
end K45



namespace K45
open PySem L2 Sa
def RetA (K : PySem.W.Frag) (H : Hp) (Q : VK) (r : PyData × List File) : Prop := ∀ p v t' H', Kp [] H H' → SqT K H' p [v, .ref t'] → Dt K H' v r.1 → TreeG K H' t' r.2 → Q (.ref p) H'
theorem RetA.kp {K : PySem.W.Frag} {H H1 : Hp} {Q : VK} {r : PyData × List File} (h : RetA K H Q r) (e : Kp [] H H1) : RetA K H1 Q r := fun p v t' H' e' h1 h2 h3 => h p v t' H' (e.trans e') h1 h2 h3
theorem RetA.now {K : PySem.W.Frag} {H H1 : Hp} {Q : VK} {r : PyData × List File} {v : V} {t' : Addr} (h : RetA K H Q r) (e : Kp [] H H1) (hv : Dt K H1 v r.1) (ht : TreeG K H1 t' r.2) : [v, V.ref t'].length ≤ sizeLine ∧ ∀ p, H1 p = none → Ret Q (.ref p) (upd H1 p (.tup [v, .ref t'])) :=
  ⟨by rw [sizeLine_eq]; exact Nat.le_of_ble_eq_true rfl, fun p hp => h p v t' _ (e.trans (Kp.new hp)) (SqT.of upd_same) (Dt.kp hv (Kp.new hp)) (ht.kp (Kp.new hp))⟩
theorem newT {K : PySem.W.Frag} {H : Hp} {t : Addr} {gs : List File} (h : TreeAt K H t (sortF gs)) (g : GoodP gs) : TreeG K H t (sortF gs) := ⟨h, goodF_iff.mpr g.sort⟩
section
variable {P : Program} {w : World} {K : PySem.W.Frag} {mg : Str → Option Value} {base : Heap}
def spBlocked (K : PySem.W.Frag) : Sp := fun vs H Q _ => ∃ (t : Addr) (p : Str) (fs : List File), vs = [.ref t, .str p] ∧ TreeG K H t fs ∧ p.length ≤ 1000 ∧ ∀ H', Kp [] H H' → Q (.bl (blockedF fs p)) H'
theorem posI {α : Type} (xs : List α) : decide ((0 : Int) < (xs.length : Int)) = decide (0 < xs.length) := by congr 1; exact propext ⟨fun h => by omega, fun h => by omega⟩
theorem sc__is_blocked : FnScope ["tree", "path"] ["tree", "path"] (defScope s__is_blocked) := ⟨rfl, rfl, rfl, by decide +kernel, rfl, by decide +kernel, by decide +kernel⟩
theorem bn__is_blocked : BindN "_is_blocked" s__is_blocked ["tree", "path"] := fun _ _ _ _ _ _ us hl => match us, hl with | [_, _], _ => rfl
theorem b__is_blocked (T : TX K mg) : Body P w K mg base "_is_blocked" s__is_blocked ["tree", "path"] 3 (spBlocked K) := by
  intro cdv A outer s H vs Q E h X hr
  obtain ⟨t, p, fs, rfl, ht, hp, q⟩ := h
  have C_Tree := C_Tree T; have M_Tree_above := M_Tree_above (P := P) (w := w) (base := base) T; have M_Tree_paths := M_Tree_paths (P := P) (w := w) (base := base) T
  refine ⟨_, (pss_one (ps_ret (pe_or (pe_cmpR op_gtU (pe_callB (cr_len (K := K)) rfl (T.free 2) PySem.boot_len (pa_cons (pe_methS1 M_Tree_paths C_Tree hr at0 (pv 0) (pa_cons (pv 1) pa_nil)) pa_nil)) pe_int (nomark _)) (pe_one (pe_cmpR op_gtU (pe_callB (cr_len (K := K)) rfl (T.free 2) PySem.boot_len (pa_cons (pe_methS1 M_Tree_above C_Tree hr at0 (pv 0) (pa_cons (pv 1) pa_nil)) pa_nil)) pe_int (nomark _)))))), ?_⟩
  have hl := good_len ht.good
  walk_at "st"
  refine c_recvT ht rfl ?_
  walk_at "st"
  refine ⟨t, p, fs, rfl, ht.at_, by omega, good_path ht.good, hp, fun pp H1 e1 hpp => ?_⟩
  walk_at "st"
  rw [posI, List.length_map]
  refine c_orK (decide (0 < (aboveF fs p).length)) (fun R k => ?_) (fun H' e' => q H' (e1.trans e'))
  walk_at "st"
  refine c_recvT (ht.kp e1) rfl ?_
  walk_at "st"
  refine ⟨t, p, fs, rfl, (ht.kp e1).at_, by omega, good_path ht.good, hp, fun pp H2 e2 hpp => ?_⟩
  walk_at "st"
  rw [posI, List.length_map]
  exact k _ e2
theorem D__is_blocked (T : TX K mg) : DefAt P w K mg base CX0 "_is_blocked" 4 ["tree", "path"] (spBlocked K) :=
  def_of T 16 37 sc__is_blocked bn__is_blocked (by walk_at "len") (b__is_blocked T)
def spWrite (K : PySem.W.Frag) : Sp := fun vs H Q _ => ∃ (t l : Addr) (p : Str) (ls : List Str) (fs : List File), vs = [.ref t, .str p, .ref l] ∧ TreeG K H t fs ∧ isPathS p = true ∧ isLinesS ls = true ∧ SqT K H l (ls.map V.str) ∧ RetA K H Q (deedF fs (.write p ls))
theorem noE {K : PySem.W.Frag} {gs : List File} {p : Prop} (g : GoodP gs) (h : goodF gs = false) : p := by rw [goodF_iff.mpr g] at h; cases h
theorem sc__write : FnScope ["tree", "path", "lines"] ["tree", "path", "lines"] (defScope s__write) := ⟨rfl, rfl, rfl, by decide +kernel, rfl, by decide +kernel, by decide +kernel⟩
theorem bn__write : BindN "_write" s__write ["tree", "path", "lines"] := fun _ _ _ _ _ _ us hl => match us, hl with | [_, _, _], _ => rfl
theorem b__write (T : TX K mg) : BodyX P w K mg base "_write" s__write ["tree", "path", "lines"] 8 (spWrite K) := by
  intro cdv A outer s H vs Q E h X hr tk
  obtain ⟨t, l, p, ls, fs, rfl, ht, hp, hl, hls, q⟩ := h
  have C_Tree := C_Tree T; have D__is_blocked := D__is_blocked (P := P) (w := w) (base := base) T; have M_Tree_files := M_Tree_files (P := P) (w := w) (base := base) T; have M_Tree_lines := M_Tree_lines (P := P) (w := w) (base := base) T; have M_Tree_with_file := M_Tree_with_file (P := P) (w := w) (base := base) T
  refine ⟨_, (pss_cons (ps_if (pt_tru (K := K) (pe_callA D__is_blocked hr pass0 (pa_cons (pv 0) (pa_cons (pv 1) pa_nil)))) (pss_one (ps_ret (pe_tup (pa_cons (pe_tup (pa_cons pe_str pa_nil)) (pa_cons (pv 0) pa_nil))))) pss_nil) (pss_cons (ps_if (PW.pt (pw_and (pt_cmpR op_isU (pe_methS1 M_Tree_lines C_Tree hr at0 (pv 0) (pa_cons (pv 1) pa_nil)) pe_non (nomark _)) (pw_and1 (pt_cmpR (op_eqU (K := K) hr.units) (pe_callB (cr_len (K := K)) rfl (T.free 2) PySem.boot_len (pa_cons (pe_methS0 M_Tree_files C_Tree hr at0 (pv 0)) pa_nil)) (pe_gInt (T.int 20)) (nomark _))))) (pss_one (ps_ret (pe_tup (pa_cons (pe_tup (pa_cons pe_str pa_nil)) (pa_cons (pv 0) pa_nil))))) pss_nil) (pss_one (ps_ret (pe_tup (pa_cons (pe_gCon (T.glo 38)) (pa_cons (pe_methS1 M_Tree_with_file C_Tree hr (atW tk) (pv 0) (pa_cons (pv 1) (pa_cons (pv 2) pa_nil))) pa_nil))))))), ?_⟩
  have gp := goodF_iff.mp ht.good
  have pl := path_len hp
  walk_at "st"
  refine ⟨t, p, fs, rfl, ht, by omega, fun H1 e1 => ?_⟩
  walk_at "st"
  refine c_iteB (fun g => ?_) (fun g => ?_)
  · walk_at "st"
    walk_at "nw"
    intro p1 H2 N2
    walk_at "st"
    have e : deedF fs (.write p ls) = (wordD "blocked", fs) := by simp only [deedF, g, if_true]
    rw [e] at q
    exact q.now (e1.trans N2.kp) (.tup (SqT.of N2.at_) (.cons (.str _) .nil)) (ht.kp (e1.trans N2.kp))
  walk_at "st"
  refine c_recvT (ht.kp e1) rfl ?_
  walk_at "st"
  have done : ∀ H2, Kp [] H H2 → ¬ ((at? fs p).isNone && decide (fs.length = 20)) = true → spTWith K [.ref t, .str p, .ref l] H2 (fun v H3 => Ret Q v H3) (fun _ _ _ => False) → True := fun _ _ _ _ => trivial
  have gw : ¬ ((at? fs p).isNone && decide (fs.length = 20)) = true → GoodP (withF fs p ls) := fun hf => gp.withf hp hl (nob g) (by
    simp only [Bool.and_eq_true, decide_eq_true_eq, not_and] at hf
    cases q : at? fs p with
    | some _ => exact .inr rfl
    | none =>
      have := hf (by rw [q]; rfl)
      have := gp.len
      exact .inl (by omega))
  refine ⟨t, p, fs, rfl, (ht.kp e1).at_, fun g1 => ?_, fun ls1 l1 g1 hl1 => ?_⟩
  · walk_at "dc"
    refine c_recvT (ht.kp e1) rfl ?_
    walk_at "st"
    refine ⟨t, fs, rfl, (ht.kp e1).at_, by have := gp.len; omega, fun pf H2 rs e2 hpf hrs hok => ?_⟩
    walk_at "st"
    have hrl : (rs.map fun r => V.ref r.1).length = fs.length := by rw [List.length_map, ← hrs, List.length_map]
    rw [hrl]
    refine c_ite (fun g2 => ?_) (fun g2 => ?_)
    · walk_at "st"
      walk_at "nw"
      intro p1 H3 N3
      walk_at "st"
      have e : deedF fs (.write p ls) = (wordD "full", fs) := by
        simp only [deedF, g, g1, Bool.false_eq_true, if_false]
        rw [if_pos]
        rw [decide_eq_true (by omega)]
        rfl
      rw [e] at q
      exact q.now ((e1.trans e2).trans N3.kp) (.tup (SqT.of N3.at_) (.cons (.str _) .nil)) (ht.kp ((e1.trans e2).trans N3.kp))
    · have hf : ¬ ((at? fs p).isNone && decide (fs.length = 20)) = true := by rw [g1, decide_eq_false (by omega)]; simp
      have e : deedF fs (.write p ls) = (wordD "done", sortF (withF fs p ls)) := by simp only [deedF, g, Bool.false_eq_true, if_false]; rw [if_neg hf]
      rw [e] at q
      walk_at "st"
      refine c_recvT (ht.kp (e1.trans e2)) rfl ?_
      walk_at "st"
      refine ⟨t, l, p, ls, fs, rfl, (ht.kp (e1.trans e2)).at_, by have := gp.len; omega, SqT.kp (e1.trans e2) hls, good_sane (goodF_iff.mpr (gw hf)), fun _ y H3 e3 hy => ?_, fun h => noE (K := K) (gw hf) h⟩
      walk_at "st"
      exact q.now ((e1.trans e2).trans e3) (dtDONE T _) (newT hy (gw hf))
  · have hf : ¬ ((at? fs p).isNone && decide (fs.length = 20)) = true := by rw [g1]; simp
    have e : deedF fs (.write p ls) = (wordD "done", sortF (withF fs p ls)) := by simp only [deedF, g, Bool.false_eq_true, if_false]; rw [if_neg hf]
    rw [e] at q
    walk_at "dc"
    refine c_recvT (ht.kp e1) rfl ?_
    walk_at "st"
    refine ⟨t, l, p, ls, fs, rfl, (ht.kp e1).at_, by have := gp.len; omega, SqT.kp e1 hls, good_sane (goodF_iff.mpr (gw hf)), fun _ y H3 e3 hy => ?_, fun h => noE (K := K) (gw hf) h⟩
    walk_at "st"
    exact q.now (e1.trans e3) (dtDONE T _) (newT hy (gw hf))
theorem D__write (T : TX K mg) : DefAt P w K mg base (L2.CX P w) "_write" 9 ["tree", "path", "lines"] (spWrite K) :=
  def_ofX T 17 39 sc__write bn__write (by walk_at "len") (b__write T)
def spMove (K : PySem.W.Frag) : Sp := fun vs H Q _ => ∃ (t : Addr) (p z : Str) (fs : List File), vs = [.ref t, .str p, .str z] ∧ TreeG K H t fs ∧ isPathS p = true ∧ isPathS z = true ∧ RetA K H Q (deedF fs (.move p z))
theorem sc__move : FnScope ["tree", "path", "target", "lines", "rest"] ["tree", "path", "target"] (defScope s__move) := ⟨rfl, rfl, rfl, by decide +kernel, rfl, by decide +kernel, by decide +kernel⟩
theorem bn__move : BindN "_move" s__move ["tree", "path", "target"] := fun _ _ _ _ _ _ us hl => match us, hl with | [_, _, _], _ => rfl
theorem b__move (T : TX K mg) : BodyX P w K mg base "_move" s__move ["tree", "path", "target", "lines", "rest"] 8 (spMove K) := by
  intro cdv A outer s H vs Q E h X hr tk
  obtain ⟨t, p, z, fs, rfl, ht, hp, hz, q⟩ := h
  have C_Tree := C_Tree T; have D__is_blocked := D__is_blocked (P := P) (w := w) (base := base) T; have M_Tree_lines := M_Tree_lines (P := P) (w := w) (base := base) T; have M_Tree_with_file := M_Tree_with_file (P := P) (w := w) (base := base) T; have M_Tree_without := M_Tree_without (P := P) (w := w) (base := base) T
  refine ⟨_, (pss_cons (ps_set (i := 3) sc__move.nd rfl (Or.inl rfl) (pe_methS1 M_Tree_lines C_Tree hr at0 (pv 0) (pa_cons (pv 1) pa_nil))) (pss_cons (ps_if (pt_cmpR op_isU (pv 3) pe_non (nomark _)) (pss_one (ps_ret (pe_tup (pa_cons (pe_tup (pa_cons pe_str pa_nil)) (pa_cons (pv 0) pa_nil))))) pss_nil) (pss_cons (ps_set (i := 4) sc__move.nd rfl (Or.inl rfl) (pe_methS1 M_Tree_without C_Tree hr (atW tk) (pv 0) (pa_cons (pv 1) pa_nil))) (pss_cons (ps_if (PW.pt (pw_or (pt_cmpR op_isNotU (pe_methS1 M_Tree_lines C_Tree hr at0 (pv 4) (pa_cons (pv 2) pa_nil)) pe_non (nomark _)) (pw_or1 (pt_tru (K := K) (pe_callA D__is_blocked hr pass0 (pa_cons (pv 4) (pa_cons (pv 2) pa_nil))))))) (pss_one (ps_ret (pe_tup (pa_cons (pe_tup (pa_cons pe_str pa_nil)) (pa_cons (pv 0) pa_nil))))) pss_nil) (pss_one (ps_ret (pe_tup (pa_cons (pe_gCon (T.glo 38)) (pa_cons (pe_methS1 M_Tree_with_file C_Tree hr (atW tk) (pv 4) (pa_cons (pv 2) (pa_cons (pv 3) pa_nil))) pa_nil))))))))), ?_⟩
  have gp := goodF_iff.mp ht.good
  have zl := path_len hz
  walk_at "st"
  refine c_recvT ht rfl ?_
  walk_at "st"
  refine ⟨t, p, fs, rfl, ht.at_, fun g1 => ?_, fun ls la g1 hla => ?_⟩
  · walk_at "dc"
    walk_at "nw"
    intro p1 H2 N2
    walk_at "st"
    have e : deedF fs (.move p z) = (wordD "missing", fs) := by simp only [deedF, g1]
    rw [e] at q
    exact q.now N2.kp (.tup (SqT.of N2.at_) (.cons (.str _) .nil)) (ht.kp N2.kp)
  have hm := at_mem g1
  have gw := gp.without p
  walk_at "dc"
  refine c_recvT ht rfl ?_
  walk_at "st"
  refine ⟨t, p, fs, rfl, ht.at_, by have := gp.len; omega, good_sane (goodF_iff.mpr gw), fun _ r H1 e1 hr => ?_, fun h => noE (K := K) gw h⟩
  have hr : TreeG K H1 r (sortF (withoutF fs p)) := newT hr gw
  walk_at "st"
  refine c_recvT hr rfl ?_
  walk_at "st"
  have bad : ∀ H2, Kp [] H1 H2 → ((at? (sortF (withoutF fs p)) z).isSome || blockedF (sortF (withoutF fs p)) z) = true → RetA K H Q (wordD "blocked", fs) := fun H2 e2 g => by
    have e : deedF fs (.move p z) = (wordD "blocked", fs) := by simp only [deedF, g1]; rw [if_pos g]
    rw [e] at q
    exact q
  refine ⟨r, z, _, rfl, hr.at_, fun g2 => ?_, fun ls2 l2 g2 hl2 => ?_⟩
  · walk_at "dc"
    refine ⟨r, z, _, rfl, hr, by omega, fun H2 e2 => ?_⟩
    walk_at "st"
    refine c_iteB (fun g => ?_) (fun g => ?_)
    · walk_at "st"
      walk_at "nw"
      intro p1 H3 N3
      walk_at "st"
      exact (bad _ Kp.refl (by rw [g, Bool.or_true])).now ((e1.trans e2).trans N3.kp) (.tup (SqT.of N3.at_) (.cons (.str _) .nil)) (ht.kp ((e1.trans e2).trans N3.kp))
    · have gr : GoodP (withF (sortF (withoutF fs p)) z ls) := gw.sort.withf hz (gp.lines _ hm) (nob g) (.inl (by
        rw [sortF_len]
        have := without_len (List.mem_map_of_mem (f := Prod.fst) hm)
        have := gp.len
        simp only at *
        omega))
      have e : deedF fs (.move p z) = (wordD "done", sortF (withF (sortF (withoutF fs p)) z ls)) := by simp only [deedF, g1, g2, g]; rfl
      rw [e] at q
      walk_at "st"
      refine c_recvT (hr.kp e2) rfl ?_
      walk_at "st"
      refine ⟨r, la, z, ls, _, rfl, (hr.kp e2).at_, by rw [sortF_len]; have := gw.len; omega, SqT.kp (e1.trans e2) hla, good_sane (goodF_iff.mpr gr), fun _ y H3 e3 hy => ?_, fun h => noE (K := K) gr h⟩
      walk_at "st"
      exact q.now ((e1.trans e2).trans e3) (dtDONE T _) (newT hy gr)
  · walk_at "dc"
    walk_at "nw"
    intro p1 H3 N3
    walk_at "st"
    exact (bad _ Kp.refl (by rw [g2]; rfl)).now (e1.trans N3.kp) (.tup (SqT.of N3.at_) (.cons (.str _) .nil)) (ht.kp (e1.trans N3.kp))
theorem D__move (T : TX K mg) : DefAt P w K mg base (L2.CX P w) "_move" 9 ["tree", "path", "target"] (spMove K) :=
  def_ofX T 18 40 sc__move bn__move (by walk_at "len") (b__move T)
def spSplice (K : PySem.W.Frag) : Sp := fun vs H Q _ => ∃ (t l m : Addr) (p : Str) (old new : List Str) (fs : List File), vs = [.ref t, .str p, .ref l, .ref m] ∧ TreeG K H t fs ∧ isPathS p = true ∧ isLinesS old = true ∧ isLinesS new = true ∧ SqT K H l (old.map V.str) ∧ SqT K H m (new.map V.str) ∧ RetA K H Q (deedF fs (.splice p old new))
theorem sc__splice : FnScope ["tree", "path", "old", "new", "lines", "places", "at"] ["tree", "path", "old", "new"] (defScope s__splice) := ⟨rfl, rfl, rfl, by decide +kernel, rfl, by decide +kernel, by decide +kernel⟩
theorem bn__splice : BindN "_splice" s__splice ["tree", "path", "old", "new"] := fun _ _ _ _ _ _ us hl => match us, hl with | [_, _, _, _], _ => rfl
theorem b__splice (T : TX K mg) : BodyX P w K mg base "_splice" s__splice ["tree", "path", "old", "new", "lines", "places", "at"] 8 (spSplice K) := by
  intro cdv A outer s H vs Q E h X hr tk
  obtain ⟨t, l, m, p, old, new, fs, rfl, ht, hp, ho, hn, hl, hm, q⟩ := h
  have C_Tree := C_Tree T; have D_places_of := D_places_of (P := P) (w := w) (base := base) T; have M_Tree_lines := M_Tree_lines (P := P) (w := w) (base := base) T; have M_Tree_with_file := M_Tree_with_file (P := P) (w := w) (base := base) T
  refine ⟨_, (pss_cons (ps_set (i := 4) sc__splice.nd rfl (Or.inl rfl) (pe_methS1 M_Tree_lines C_Tree hr at0 (pv 0) (pa_cons (pv 1) pa_nil))) (pss_cons (ps_if (pt_cmpR op_isU (pv 4) pe_non (nomark _)) (pss_one (ps_ret (pe_tup (pa_cons (pe_tup (pa_cons pe_str pa_nil)) (pa_cons (pv 0) pa_nil))))) pss_nil) (pss_cons (ps_set (i := 5) sc__splice.nd rfl (Or.inl rfl) (pe_callA D_places_of hr pass0 (pa_cons (pv 4) (pa_cons (pv 2) pa_nil)))) (pss_cons (ps_if (pt_not (pt_tru (K := K) (pv 5))) (pss_one (ps_ret (pe_tup (pa_cons (pe_tup (pa_cons pe_str pa_nil)) (pa_cons (pv 0) pa_nil))))) pss_nil) (pss_cons (ps_if (pt_cmpR op_gtU (pe_callB (cr_len (K := K)) rfl (T.free 2) PySem.boot_len (pa_cons (pv 5) pa_nil)) pe_int (nomark _)) (pss_one (ps_ret (pe_tup (pa_cons (pe_tup (pa_cons pe_str pa_nil)) (pa_cons (pv 0) pa_nil))))) pss_nil) (pss_cons (ps_if (pt_cmpR op_gtU (pe_op (op_addU (K := K)) (pe_op op_subU (pe_callB (cr_len (K := K)) rfl (T.free 2) PySem.boot_len (pa_cons (pv 4) pa_nil)) (pe_callB (cr_len (K := K)) rfl (T.free 2) PySem.boot_len (pa_cons (pv 2) pa_nil))) (pe_callB (cr_len (K := K)) rfl (T.free 2) PySem.boot_len (pa_cons (pv 3) pa_nil))) (pe_gInt (T.int 15)) (nomark _)) (pss_one (ps_ret (pe_tup (pa_cons (pe_tup (pa_cons pe_str pa_nil)) (pa_cons (pv 0) pa_nil))))) pss_nil) (pss_cons (ps_set (i := 6) sc__splice.nd rfl (Or.inl rfl) (pe_ix (ix_U (K := K)) (pv 5) pe_int (fun _ _ => rfl))) (pss_one (ps_ret (pe_tup (pa_cons (pe_gCon (T.glo 38)) (pa_cons (pe_methS1 M_Tree_with_file C_Tree hr (atW tk) (pv 0) (pa_cons (pv 1) (pa_cons (pe_op (op_addU (K := K)) (pe_op (op_addU (K := K)) (pe_slice (sl_U (K := K)) (pv 4) po_none (po_some (pv 6))) (pe_callTy (cr_tuple (K := K)) rfl (T.free 28) (by decide +kernel) (pa_cons (pv 3) pa_nil))) (pe_slice (sl_U (K := K)) (pv 4) (po_some (pe_op (op_addU (K := K)) (pv 6) (pe_callB (cr_len (K := K)) rfl (T.free 2) PySem.boot_len (pa_cons (pv 2) pa_nil)))) po_none)) pa_nil))) pa_nil)))))))))))), ?_⟩
  have gp := goodF_iff.mp ht.good
  obtain ⟨ol, oo⟩ := lines_len ho
  obtain ⟨nl, no⟩ := lines_len hn
  walk_at "st"
  refine c_recvT ht rfl ?_
  walk_at "st"
  refine ⟨t, p, fs, rfl, ht.at_, fun g1 => ?_, fun ls la g1 hla => ?_⟩
  · walk_at "dc"
    walk_at "nw"
    intro p1 H2 N2
    walk_at "st"
    have e : deedF fs (.splice p old new) = (wordD "missing", fs) := by simp only [deedF, g1]
    rw [e] at q
    exact q.now N2.kp (.tup (SqT.of N2.at_) (.cons (.str _) .nil)) (ht.kp N2.kp)
  have hme := at_mem g1
  have hls := gp.lines _ hme
  obtain ⟨ll, lo⟩ := lines_len hls
  walk_at "dc"
  refine ⟨la, l, ls, old, rfl, hla, hl, fun y hy => plain_ok (lo y hy).2, fun y hy => plain_ok (oo y hy).2, by simp only at ll; omega, by omega, fun pp H1 hpn e1 hpp => ?_⟩
  walk_at "st"
  refine c_truL (SqL.of hpp) ?_
  have ei : (((placesF ls old).map fun i => V.int (i : Nat)).isEmpty) = (placesF ls old).isEmpty := by cases placesF ls old <;> rfl
  rw [ei]
  refine c_iteNB (fun g2 => ?_) (fun g2 => ?_)
  · have g2 : placesF ls old = [] := by cases h : placesF ls old with
      | nil => rfl
      | cons a b => rw [h] at g2; cases g2
    walk_at "st"
    walk_at "nw"
    intro p1 H3 N3
    walk_at "st"
    have e : deedF fs (.splice p old new) = (wordD "absent", fs) := by simp only [deedF, g1, g2]
    rw [e] at q
    exact q.now (e1.trans N3.kp) (.tup (SqT.of N3.at_) (.cons (.str _) .nil)) (ht.kp (e1.trans N3.kp))
  obtain ⟨i, r, hpl⟩ : ∃ i r, placesF ls old = i :: r := by
    cases h : placesF ls old with
    | nil => rw [h] at g2; cases g2
    | cons a b => exact ⟨a, b, rfl⟩
  rw [hpl] at hpp
  have hi := places_lt (xs := ls) (ys := old) (i := i) (by rw [hpl]; exact List.mem_cons_self ..)
  walk_at "st"
  refine c_ite (fun g3 => ?_) (fun g3 => ?_)
  · walk_at "st"
    walk_at "nw"
    intro p1 H3 N3
    walk_at "st"
    have e : deedF fs (.splice p old new) = (wordD "ambiguous", fs) := by
      simp only [List.length_map, List.length_cons] at g3
      cases r with
      | nil => simp at g3
      | cons a b => simp only [deedF, g1, hpl]
    rw [e] at q
    exact q.now (e1.trans N3.kp) (.tup (SqT.of N3.at_) (.cons (.str _) .nil)) (ht.kp (e1.trans N3.kp))
  have er : r = [] := by
    cases r with
    | nil => rfl
    | cons a b => exact absurd (by simp only [List.length_map, List.length_cons]; omega) g3
  subst er
  walk_at "st"
  refine c_lenT (SqT.kp e1 hla) ?_
  walk_at "st"
  refine c_lenT (SqT.kp e1 hl) ?_
  walk_at "st"
  refine c_lenT (SqT.kp e1 hm) ?_
  walk_at "st"
  rw [List.length_map, List.length_map, List.length_map]
  refine c_ite (fun g4 => ?_) (fun g4 => ?_)
  · walk_at "st"
    walk_at "nw"
    intro p1 H3 N3
    walk_at "st"
    have e : deedF fs (.splice p old new) = (wordD "long", fs) := by simp only [deedF, g1, hpl]; rw [if_pos (decide_eq_true g4)]
    rw [e] at q
    exact q.now (e1.trans N3.kp) (.tup (SqT.of N3.at_) (.cons (.str _) .nil)) (ht.kp (e1.trans N3.kp))
  have e : deedF fs (.splice p old new) = (wordD "done", sortF (withF fs p (splicedL ls old new i))) := by simp only [deedF, g1, hpl]; rw [if_neg (by simpa using g4)]
  rw [e] at q
  have gw : GoodP (withF fs p (splicedL ls old new i)) := gp.withf hp (lines_splice hls hn hi g4) (own_nob gp (List.mem_map_of_mem (f := Prod.fst) hme)) (.inr (by rw [g1]; rfl))
  walk_at "st"
  refine c_recvT (ht.kp e1) rfl ?_
  walk_at "st"
  refine c_slT (SqT.kp e1 hla) fun a2 H2 e2 h2 => ?_
  walk_at "st"
  refine c_tupleT (SqT.kp (e1.trans e2) hm) ?_
  walk_at "st"
  have c1 : (cutL (ls.map V.str) none (some (i : Int))).length ≤ 12 := by
    unfold cutL
    rw [List.length_take, List.length_drop, List.length_map]
    simp only at ll
    omega
  refine c_addT h2 (SqT.kp (e1.trans e2) hm) (by rw [sizeLine_eq, List.length_map]; omega) fun a3 H3 e3 h3 => ?_
  walk_at "st"
  refine c_lenT (SqT.kp ((e1.trans e2).trans e3) hl) ?_
  walk_at "st"
  refine c_slT (SqT.kp ((e1.trans e2).trans e3) hla) fun a4 H4 e4 h4 => ?_
  walk_at "st"
  have c2 : (cutL (ls.map V.str) (some ((i : Int) + ((old.map V.str).length : Int))) none).length ≤ 12 := by
    unfold cutL
    rw [List.length_take, List.length_drop, List.length_map]
    simp only at ll
    omega
  refine c_addT (SqT.kp e4 h3) h4 (by rw [sizeLine_eq, List.length_append, List.length_map]; omega) fun a5 H5 e5 h5 => ?_
  walk_at "st"
  have k5 := (((e1.trans e2).trans e3).trans e4).trans e5
  have h5 : SqT K H5 a5 ((splicedL ls old new i).map V.str) := by
    rw [cutL_map, cutL_map, cutL_to (by omega) (by omega), List.length_map, cutL_from (by omega) (by omega)] at h5
    have e1 : ((i : Int) + (old.length : Int)).toNat = i + old.length := by omega
    rw [e1, Int.toNat_natCast] at h5
    unfold splicedL
    rw [List.map_append, List.map_append]
    exact h5
  refine ⟨t, a5, p, _, fs, rfl, (ht.kp k5).at_, by have := gp.len; omega, h5, good_sane (goodF_iff.mpr gw), fun _ y H6 e6 hy => ?_, fun h => noE (K := K) gw h⟩
  walk_at "st"
  exact q.now (k5.trans e6) (dtDONE T _) (newT hy gw)
theorem D__splice (T : TX K mg) : DefAt P w K mg base (L2.CX P w) "_splice" 9 ["tree", "path", "old", "new"] (spSplice K) :=
  def_ofX T 19 41 sc__splice bn__splice (by walk_at "len") (b__splice T)
def spAct (K : PySem.W.Frag) : Sp := fun vs H Q E => ∃ (t a : Addr) (x : Action) (fs : List File), vs = [.ref t, .ref a] ∧ TreeG K H t fs ∧ ActAt K H a x ∧ x.sane ∧ (x.bad = none → RetA K H Q (actF fs x)) ∧ (∀ nm, x.bad = some nm → RaisesE K H E nm)
theorem sc_act : FnScope ["tree", "action"] ["tree", "action"] (defScope s_act) := ⟨rfl, rfl, rfl, by decide +kernel, rfl, by decide +kernel, by decide +kernel⟩
theorem bn_act : BindN "act" s_act ["tree", "action"] := fun _ _ _ _ _ _ us hl => match us, hl with | [_, _], _ => rfl
theorem b_act (T : TX K mg) : BodyX P w K mg base "act" s_act ["tree", "action"] 9 (spAct K) := by
  intro cdv A outer s H vs Q E h X hr tk
  obtain ⟨t, a, x, fs, rfl, ht, ha, hs, q, qb⟩ := h
  have C_Tree := C_Tree T; have D__ask := D__ask (P := P) (w := w) (base := base) T; have D__move := D__move (P := P) (w := w) (base := base) T; have D__splice := D__splice (P := P) (w := w) (base := base) T; have D__write := D__write (P := P) (w := w) (base := base) T; have D_check_action := D_check_action (P := P) (w := w) (base := base) T; have D_is_question := D_is_question (P := P) (w := w) (base := base) T; have M_Tree_lines := M_Tree_lines (P := P) (w := w) (base := base) T; have M_Tree_without := M_Tree_without (P := P) (w := w) (base := base) T
  refine ⟨_, (pss_cons (ps_expr (pe_callX D_check_action hr tk (pa_cons (pv 1) pa_nil))) (pss_cons (ps_if (pt_tru (K := K) (pe_callA D_is_question hr pass0 (pa_cons (pv 1) pa_nil))) (pss_one (ps_ret (pe_tup (pa_cons (pe_callA D__ask hr pass0 (pa_cons (pv 0) (pa_cons (pv 1) pa_nil))) (pa_cons (pv 0) pa_nil))))) pss_nil) (pss_cons (ps_if (pt_cmpR (op_eqU (K := K) hr.units) (pe_ix (ix_U (K := K)) (pv 1) pe_int (fun _ _ => rfl)) pe_str (nomark _)) (pss_one (ps_ret (pe_callX D__write hr tk (pa_cons (pv 0) (pa_cons (pe_ix (ix_U (K := K)) (pv 1) pe_int (fun _ _ => rfl)) (pa_cons (pe_ix (ix_U (K := K)) (pv 1) pe_int (fun _ _ => rfl)) pa_nil)))))) pss_nil) (pss_cons (ps_if (pt_cmpR (op_eqU (K := K) hr.units) (pe_ix (ix_U (K := K)) (pv 1) pe_int (fun _ _ => rfl)) pe_str (nomark _)) (pss_one (ps_ret (pe_callX D__move hr tk (pa_cons (pv 0) (pa_cons (pe_ix (ix_U (K := K)) (pv 1) pe_int (fun _ _ => rfl)) (pa_cons (pe_ix (ix_U (K := K)) (pv 1) pe_int (fun _ _ => rfl)) pa_nil)))))) pss_nil) (pss_cons (ps_if (pt_cmpR (op_eqU (K := K) hr.units) (pe_ix (ix_U (K := K)) (pv 1) pe_int (fun _ _ => rfl)) pe_str (nomark _)) (pss_one (ps_ret (pe_callX D__splice hr tk (pa_cons (pv 0) (pa_cons (pe_ix (ix_U (K := K)) (pv 1) pe_int (fun _ _ => rfl)) (pa_cons (pe_ix (ix_U (K := K)) (pv 1) pe_int (fun _ _ => rfl)) (pa_cons (pe_ix (ix_U (K := K)) (pv 1) pe_int (fun _ _ => rfl)) pa_nil))))))) pss_nil) (pss_cons (ps_if (pt_cmpR op_isU (pe_methS1 M_Tree_lines C_Tree hr at0 (pv 0) (pa_cons (pe_ix (ix_U (K := K)) (pv 1) pe_int (fun _ _ => rfl)) pa_nil)) pe_non (nomark _)) (pss_one (ps_ret (pe_tup (pa_cons (pe_tup (pa_cons pe_str pa_nil)) (pa_cons (pv 0) pa_nil))))) pss_nil) (pss_one (ps_ret (pe_tup (pa_cons (pe_gCon (T.glo 38)) (pa_cons (pe_methS1 M_Tree_without C_Tree hr (atW tk) (pv 0) (pa_cons (pe_ix (ix_U (K := K)) (pv 1) pe_int (fun _ _ => rfl)) pa_nil)) pa_nil))))))))))), ?_⟩
  walk_at "st"
  refine ⟨a, x, rfl, ha, hs, fun hb H1 e1 => ?_, fun nm h => qb nm h⟩
  have q := (q hb).kp e1
  have ha := ha.kp e1
  have ht := ht.kp e1
  walk_at "st"
  refine ⟨a, x, rfl, ha, ?_⟩
  walk_at "st"
  refine c_iteB (fun g => ?_) (fun g => ?_)
  · walk_at "st"
    refine ⟨t, a, x, fs, rfl, ht, ha, g, hs, fun v H2 e2 hv => ?_⟩
    walk_at "st"
    have e : actF fs x = (askF fs x, fs) := by unfold actF; rw [if_pos g]
    rw [e] at q
    exact q.now e2 hv (ht.kp e2)
  have e : actF fs x = deedF fs x := by unfold actF; rw [g]; rfl
  rw [e] at q
  cases x with
  | write p ls =>
    obtain ⟨l, ha, hl⟩ := ha
    simp only [Action.bad] at hb
    split at hb
    · rename_i hp
      split at hb
      · rename_i hls
        walk_at "dc"
        exact ⟨t, l, p, ls, fs, rfl, ht, hp, hls, hl, q⟩
      · cases hb
    · cases hb
  | move p z =>
    simp only [Action.bad] at hb
    split at hb
    · rename_i hp
      split at hb
      · rename_i hz
        walk_at "dc"
        exact ⟨t, p, z, fs, rfl, ht, hp, hz, q⟩
      · cases hb
    · cases hb
  | splice p old new =>
    obtain ⟨l, m, ha, hl, hm⟩ := ha
    simp only [Action.bad] at hb
    split at hb
    · rename_i hp
      split at hb
      · rename_i ho
        split at hb
        · rename_i hn
          walk_at "dc"
          rw [Bool.and_eq_true] at ho
          exact ⟨t, l, m, p, old, new, fs, rfl, ht, hp, ho.1, hn, hl, hm, q⟩
        · cases hb
      · cases hb
    · cases hb
  | remove p =>
    simp only [Action.bad] at hb
    split at hb
    · rename_i hp
      have gp := goodF_iff.mp ht.good
      walk_at "dc"
      refine c_recvT ht rfl ?_
      walk_at "dc"
      refine ⟨t, p, fs, rfl, ht.at_, fun g1 => ?_, fun ls la g1 hla => ?_⟩
      · walk_at "dc"
        walk_at "nw"
        intro p1 H2 N2
        walk_at "st"
        have e : deedF fs (.remove p) = (wordD "missing", fs) := by simp only [deedF, g1]; rfl
        rw [e] at q
        exact q.now N2.kp (.tup (SqT.of N2.at_) (.cons (.str _) .nil)) (ht.kp N2.kp)
      · walk_at "dc"
        refine c_recvT ht rfl ?_
        walk_at "dc"
        have e : deedF fs (.remove p) = (wordD "done", sortF (withoutF fs p)) := by simp only [deedF, g1]; rfl
        rw [e] at q
        have gw := gp.without p
        refine ⟨t, p, fs, rfl, ht.at_, by have := gp.len; omega, good_sane (goodF_iff.mpr gw), fun _ y H3 e3 hy => ?_, fun h => noE (K := K) gw h⟩
        walk_at "st"
        exact q.now e3 (dtDONE T _) (newT hy gw)
    · cases hb
  | _ => cases g
theorem D_act (T : TX K mg) : DefAt P w K mg base (L2.CX P w) "act" 10 ["tree", "action"] (spAct K) :=
  def_ofX T 20 42 sc_act bn_act (by walk_at "len") (b_act T)
end
end K45



namespace K45
open PySem L2 Sa
def pathNames : List Str := ["a", "b", "ab", "x1"]
structure Pth (z : Str) : Prop where
  ex : ∃ ns : List Str, z = Txt.join (PySem.Str.ofString "/") ns ∧ 1 ≤ ns.length ∧ ns.length ≤ 3 ∧ ∀ n ∈ ns, n ∈ pathNames
theorem pathNames_len : ∀ n ∈ pathNames, n.length ≤ 2 := by decide +kernel
theorem sum_le {m : Nat} : ∀ {ns : List Str}, (∀ n ∈ ns, n.length ≤ m) → (ns.map (·.length)).sum ≤ ns.length * m
  | [], _ => Nat.zero_le _
  | n :: r, h => by
    have h1 := h n (List.mem_cons_self ..)
    have h2 := sum_le (ns := r) fun z hz => h z (List.mem_cons_of_mem _ hz)
    simp only [List.map_cons, List.sum_cons, List.length_cons, Nat.add_mul, Nat.one_mul]
    omega
theorem Pth.len {z : Str} (h : Pth z) : z.length ≤ 8 := by
  obtain ⟨ns, rfl, h1, h2, h3⟩ := h.ex
  rw [tjoin, ← join_len]
  have e1 := sum_le (m := 2) fun n hn => pathNames_len n (h3 n hn)
  have e2 : (PySem.Str.ofString "/").length = 1 := by decide
  rw [e2]
  omega
theorem pathNames_pos : ∀ n ∈ pathNames, 1 ≤ n.length := by decide +kernel
theorem Pth.pos {z : Str} (h : Pth z) : 1 ≤ z.length := by
  obtain ⟨ns, rfl, h1, h2, h3⟩ := h.ex
  rw [tjoin, ← join_len]
  cases ns with
  | nil => simp at h1
  | cons n r =>
    have := pathNames_pos n (h3 n (List.mem_cons_self ..))
    simp only [List.map_cons, List.sum_cons]
    omega
theorem Pth.parts {z : Str} (h : Pth z) (y : Str) : 1 ≤ (Txt.split z y).length := by
  cases e : Txt.split z y with
  | nil =>
    have j := StrLaws.join_split z y
    rw [e] at j
    have := h.pos
    rw [← j] at this
    exact absurd this (by show ¬ 1 ≤ 0; omega)
  | cons a r => simp
section
variable {P : Program} {w : World} {K : PySem.W.Frag} {mg : Str → Option Value} {base : Heap}
end
end K45



namespace K45
open PySem L2 Sa
def filesKv (ls : List (Addr × File)) : List (Key × V) := ls.map fun l => ((Sum.inr l.2.1 : Key), V.ref l.1)
structure FilesR (K : PySem.W.Frag) (H : Hp) (d : Addr) (fs : List File) : Prop where
  ex : ∃ ls : List (Addr × File), Rd H d (.dK (filesKv ls)) ∧ (∀ l ∈ ls, SqT K H l.1 (l.2.2.map V.str)) ∧ ls.map Prod.snd = fs
structure FilesAt (K : PySem.W.Frag) (H : Hp) (d : Addr) (fs : List File) : Prop where
  ex : ∃ ls : List (Addr × File), H d = some (.dK (filesKv ls)) ∧ (∀ l ∈ ls, SqT K H l.1 (l.2.2.map V.str)) ∧ ls.map Prod.snd = fs
section
variable {K : PySem.W.Frag} {H H' : Hp} {d b e : Addr} {fs : List File} {p : Str}
theorem FilesAt.r (h : FilesAt K H d fs) : FilesR K H d fs := by
  obtain ⟨ls, h1, h2, h3⟩ := h.ex
  exact ⟨ls, .inl h1, h2, h3⟩
theorem FilesAt.kp (h : FilesAt K H d fs) (e : Kp [] H H') : FilesAt K H' d fs := by
  obtain ⟨ls, h1, h2, h3⟩ := h.ex
  exact ⟨ls, e.at0 h1, fun l hl => SqT.kp e (h2 l hl), h3⟩
theorem FilesAt.ne (h : FilesAt K H d fs) (B : Bx H b e) : d ≠ b := fun z => by
  obtain ⟨ls, h1, _⟩ := h.ex
  obtain ⟨_, _, h2, _⟩ := B.ex
  rw [z, h2] at h1
  cases h1
theorem FilesAt.kb (h : FilesAt K H d fs) (B : Bx H b e) (k : Kp [b] H H') : FilesAt K H' d fs := by
  have n := h.ne B
  obtain ⟨ls, h1, h2, h3⟩ := h.ex
  exact ⟨ls, k.at1 n h1, fun l hl => SqT.kt (B.kt k) (h2 l hl), h3⟩
theorem find_at (ls : List (Addr × File)) (p : Str) : at? (ls.map Prod.snd) p = (ls.find? fun l => decide (l.2.1 = p)).map fun l => l.2.2 := by
  unfold at?
  rw [List.find?_map, Option.map_map]
  rfl
theorem filesKv_val (ls : List (Addr × File)) (p : Str) : valV (filesKv ls) (Sum.inr p) = (ls.find? fun l => decide (l.2.1 = p)).map fun l => V.ref l.1 := by
  unfold valV filesKv
  rw [List.find?_map, Option.map_map]
  congr 1
  congr 1
  funext l
  simp
theorem FilesR.get (h : FilesR K H d fs) {ls : List Str} (g : at? fs p = some ls) : ∃ a, DGet H d (.str p) (some (.ref a)) ∧ SqT K H a (ls.map V.str) := by
  obtain ⟨rs, h1, h2, rfl⟩ := h.ex
  rw [find_at] at g
  obtain ⟨l, hl, rfl⟩ := Option.map_eq_some_iff.mp g
  exact ⟨l.1, .inl ⟨_, Sum.inr p, h1, rfl, by rw [filesKv_val, hl]; rfl⟩, h2 l (List.mem_of_find?_eq_some hl)⟩
theorem FilesR.dget (h : FilesR K H d fs) (p : Str) : ∃ o, DGet H d (.str p) o ∧ o.isSome = (at? fs p).isSome := by
  obtain ⟨rs, h1, h2, rfl⟩ := h.ex
  refine ⟨_, .inl ⟨_, Sum.inr p, h1, rfl, rfl⟩, ?_⟩
  rw [filesKv_val, find_at, Option.isSome_map, Option.isSome_map]
theorem FilesAt.nil {K : PySem.W.Frag} (h : H d = some (.dK [])) : FilesAt K H d [] := ⟨[], h, by simp, rfl⟩
end
theorem c_dinF {K : PySem.W.Frag} {H : Hp} {d : Addr} {fs : List File} {p : Str} {Q : VK} (h : FilesR K H d fs) (q : Q (.bl (at? fs p).isSome) H) : DinK false (.ref d) (.str p) H Q := by
  obtain ⟨o, h1, h2⟩ := h.dget p
  refine ⟨d, o, rfl, h1, ?_⟩
  show Q (.bl o.isSome) H
  rw [h2]; exact q
theorem c_dninF {K : PySem.W.Frag} {H : Hp} {d : Addr} {fs : List File} {p : Str} {Q : VK} (h : FilesR K H d fs) (q : Q (.bl (!(at? fs p).isSome)) H) : DinK true (.ref d) (.str p) H Q := by
  obtain ⟨o, h1, h2⟩ := h.dget p
  refine ⟨d, o, rfl, h1, ?_⟩
  show Q (.bl (!o.isSome)) H
  rw [h2]; exact q
theorem c_dgetF {K : PySem.W.Frag} {H : Hp} {d : Addr} {fs : List File} {p : Str} {ls : List Str} {Q : VK} (h : FilesR K H d fs) (g : at? fs p = some ls) (q : ∀ a, SqT K H a (ls.map V.str) → Q (.ref a) H) : ∃ a v, V.ref d = .ref a ∧ DGet H a (.str p) (some v) ∧ Q v H := by
  obtain ⟨a, h1, h2⟩ := h.get g
  exact ⟨d, .ref a, rfl, h1, q a h2⟩
theorem c_sortedF {K : PySem.W.Frag} {H : Hp} {d : Addr} {fs : List File} {Q : VK} (h : FilesR K H d fs) (hn : fs.length ≤ 60) (q : ∀ p H', New H p (.lst ((pathsOf (sortF fs)).map V.str)) H' → Q (.ref p) H') : rSortedDU [.ref d] H Q := by
  obtain ⟨ls, h1, h2, rfl⟩ := h.ex
  refine ⟨d, _, pathsOf (ls.map Prod.snd), rfl, h1, ?_, by unfold pathsOf; rw [List.length_map]; omega, fun ys p hp hs hf => ?_⟩
  · unfold filesKv pathsOf
    rw [List.map_map, List.map_map, List.map_map]
    rfl
  · rw [sorted_keys hp hs]
    exact q p _ ⟨hf, rfl⟩
theorem name_no {z : Str} (h : isNameS z = true) : 47 ∉ z.cps.toList := fun hm => by
  unfold isNameS at h
  simp only [Bool.and_eq_true, List.all_eq_true] at h
  have := h.2 47 hm
  revert this
  decide +kernel
theorem name_ok {z : Str} (h : isNameS z = true) : okS z = true := okS_iff.mpr fun c hc => by
  unfold isNameS at h
  simp only [Bool.and_eq_true, List.all_eq_true, decide_eq_true_eq] at h
  have := h.2 c hc
  exact (by decide +kernel : ∀ c ∈ (PySem.Str.ofString "abcdefghijklmnopqrstuvwxyz0123456789").cps.toList, c < 1114112) c this
theorem slash1 : (PySem.Str.ofString "/").cps.toList = [47] := by decide +kernel
theorem slash2 : PySem.Str.ofString "/" = ⟨#[47]⟩ := by decide +kernel
theorem split_join1 {ns : List Str} (h0 : ns ≠ []) (hn : ∀ n ∈ ns, 47 ∉ n.cps.toList) : Txt.split (Txt.join (PySem.Str.ofString "/") ns) (PySem.Str.ofString "/") = ns :=
  TL.split_join (y := PySem.Str.ofString "/") (s := 47) (S := []) slash1 (by rw [slash2]; decide +kernel) h0 hn
theorem path_join {ns : List Str} (h0 : ns ≠ []) (h3 : ns.length ≤ 3) (hn : ∀ n ∈ ns, isNameS n = true) : isPathS (Txt.join (PySem.Str.ofString "/") ns) = true := by
  unfold isPathS
  rw [split_join1 h0 fun n h => name_no (hn n h), decide_eq_true h3, Bool.true_and, List.all_eq_true]
  exact hn
theorem path_parts {p : Str} (h : isPathS p = true) : (Txt.split p (PySem.Str.ofString "/")).length ≤ 3 ∧ ∀ n ∈ Txt.split p (PySem.Str.ofString "/"), isNameS n = true := by
  unfold isPathS at h
  rw [Bool.and_eq_true, decide_eq_true_eq, List.all_eq_true] at h
  exact h
theorem mem_join {y : Str} {c : Nat} : ∀ {ys : List Str}, c ∈ (Str.join y ys).cps.toList → c ∈ y.cps.toList ∨ ∃ z ∈ ys, c ∈ z.cps.toList
  | [], h => by cases h
  | [x], h => .inr ⟨x, List.mem_singleton.mpr rfl, h⟩
  | x :: u :: r, h => by
    have h : c ∈ (x ++ y ++ Str.join y (u :: r)).cps.toList := h
    rw [cps_app, cps_app, List.mem_append, List.mem_append] at h
    rcases h with (h | h) | h
    · exact .inr ⟨x, List.mem_cons_self .., h⟩
    · exact .inl h
    · rcases mem_join h with h | ⟨z, hz, h⟩
      · exact .inl h
      · exact .inr ⟨z, List.mem_cons_of_mem _ hz, h⟩
theorem path_ok {p : Str} (h : isPathS p = true) : okS p = true := okS_iff.mpr fun c hc => by
  have j := StrLaws.join_split p (PySem.Str.ofString "/")
  rw [← j] at hc
  rcases mem_join hc with hc | ⟨z, hz, hc⟩
  · rw [slash1, List.mem_singleton] at hc
    omega
  · exact okS_iff.mp (name_ok ((path_parts h).2 z hz)) c hc
theorem Pth.path {z : Str} (h : Pth z) : isPathS z = true := by
  obtain ⟨ns, rfl, h1, h2, h3⟩ := h.ex
  exact path_join (by intro e; rw [e] at h1; simp at h1) h2 fun n hn => (by decide +kernel : ∀ n ∈ pathNames, isNameS n = true) n (h3 n hn)
section
variable {P : Program} {w : World} {K : PySem.W.Frag} {mg : Str → Option Value} {base : Heap}
def spLinesD (K : PySem.W.Frag) : Sp := fun vs H Q _ => ∃ (b d : Addr) (m : Int), vs = [.ref b, .int m] ∧ Bx H b d ∧ 0 ≤ m ∧ m ≤ 12 ∧ ∀ p ls H', isLinesS ls = true → (ls.length : Int) ≤ m → Kp [b] H H' → Bx H' b d → SqT K H' p (ls.map V.str) → Q (.ref p) H'
end
end K45



namespace K45
open PySem L2 Sa
theorem place_len {z : Str} (h : isPlaceS z = true) : z.length ≤ 26 := by
  unfold isPlaceS at h
  rw [Bool.or_eq_true, decide_eq_true_eq] at h
  rcases h with rfl | h
  · decide
  · exact path_len h
theorem word_len {z : Str} (h : isWordS z = true) : z.length ≤ 12 := by
  unfold isWordS at h
  simp only [Bool.and_eq_true, decide_eq_true_eq] at h
  exact h.1.2
theorem lines_sane {ls : List Str} (h : isLinesS ls = true) : saneL ls := by
  obtain ⟨h1, h2⟩ := lines_len h
  exact ⟨by omega, fun y hy => by have := (h2 y hy).1; omega⟩
theorem path_sane {p : Str} (h : isPathS p = true) : saneS p := by have := path_len h; unfold saneS; omega
theorem place_sane {p : Str} (h : isPlaceS p = true) : saneS p := by have := place_len h; unfold saneS; omega
theorem word_sane {p : Str} (h : isWordS p = true) : saneS p := by have := word_len h; unfold saneS; omega
theorem bad_sane {x : Action} (h : x.bad = none) : x.sane := by
  cases x with
  | read p =>
    simp only [Action.bad] at h
    split at h
    · exact path_sane ‹_›
    · cases h
  | kind p =>
    simp only [Action.bad] at h
    split at h
    · exact place_sane ‹_›
    · cases h
  | list p =>
    simp only [Action.bad] at h
    split at h
    · exact place_sane ‹_›
    · cases h
  | count p =>
    simp only [Action.bad] at h
    split at h
    · exact place_sane ‹_›
    · cases h
  | remove p =>
    simp only [Action.bad] at h
    split at h
    · exact path_sane ‹_›
    · cases h
  | find p w =>
    simp only [Action.bad] at h
    split at h
    · split at h
      · exact ⟨place_sane ‹_›, word_sane ‹_›⟩
      · cases h
    · cases h
  | move p t =>
    simp only [Action.bad] at h
    split at h
    · split at h
      · exact ⟨path_sane ‹_›, path_sane ‹_›⟩
      · cases h
    · cases h
  | write p ls =>
    simp only [Action.bad] at h
    split at h
    · split at h
      · exact ⟨path_sane ‹_›, lines_sane ‹_›⟩
      · cases h
    · cases h
  | splice p old new =>
    simp only [Action.bad] at h
    split at h
    · split at h
      · split at h
        · rename_i h1 h2 h3
          rw [Bool.and_eq_true] at h2
          exact ⟨path_sane h1, lines_sane h2.1, lines_sane h3⟩
        · cases h
      · cases h
    · cases h
section
variable {P : Program} {w : World} {K : PySem.W.Frag} {mg : Str → Option Value} {base : Heap}
end
end K45



namespace K45
open PySem L2 Sa
structure Fit (n w : Nat) (d : PyData) : Prop where
  lay : PyData.canLay0 d = true
  dep : PyData.depth d ≤ n
  wt : PyData.weight d ≤ w
  shrt : PyData.intsShort 13 d = true
  show_ : PyData.showable d = true
structure FitAll (n w : Nat) (ds : List PyData) : Prop where
  lay : PyData.canLayAll0 ds = true
  dep : PyData.depthAll ds ≤ n
  wt : PyData.weightAll ds ≤ w
  shrt : PyData.intsShortAll 13 ds = true
  show_ : PyData.showableAll ds = true
theorem Fit.mono {n w n' w' : Nat} {d : PyData} (h : Fit n w d) (h1 : n ≤ n') (h2 : w ≤ w') : Fit n' w' d := ⟨h.lay, Nat.le_trans h.dep h1, Nat.le_trans h.wt h2, h.shrt, h.show_⟩
theorem Fit.none : Fit 0 0 .none := ⟨rfl, Nat.le_refl _, Nat.le_refl _, rfl, rfl⟩
theorem Fit.bool (b : Bool) : Fit 0 0 (.bool b) := ⟨rfl, Nat.le_refl _, Nat.le_refl _, rfl, rfl⟩
theorem Fit.str {z : Str} {w : Nat} (h : okS z = true) (hw : z.length ≤ w) : Fit 0 w (.str z) := ⟨by unfold PyData.canLay0; exact h, Nat.le_refl _, by unfold PyData.weight; exact hw, by simp only [PyData.intsShort], by simp only [PyData.showable]⟩
theorem nat_short : ∀ n ∈ List.range 1000, (PyData.shown (.int ((n : Nat) : Int))).length ≤ 13 ∧ ((n : Nat) : Int).natAbs.log2 < 1920 ∧ PyData.weight (.int ((n : Nat) : Int)) ≤ 10 := by decide +kernel
theorem Fit.nat {n : Nat} (h : n < 1000) : Fit 0 10 (.int (n : Nat)) := by
  obtain ⟨h1, h2, h3⟩ := nat_short n (List.mem_range.mpr h)
  exact ⟨by simp only [PyData.canLay0], Nat.le_refl _, h3, by simp only [PyData.intsShort, decide_eq_true_eq]; exact h1, by simp only [PyData.showable, decide_eq_true_eq]; exact h2⟩
theorem FitAll.nil {n : Nat} : FitAll n 0 [] := ⟨by simp only [PyData.canLayAll0], Nat.zero_le _, Nat.le_refl _, by simp only [PyData.intsShortAll], by simp only [PyData.showableAll]⟩
theorem FitAll.cons {n w v : Nat} {d : PyData} {ds : List PyData} (h : Fit n w d) (g : FitAll n v ds) : FitAll n (w + 1 + v) (d :: ds) :=
  ⟨by simp only [PyData.canLayAll0, h.lay, g.lay, Bool.and_self], by simp only [PyData.depthAll]; exact Nat.max_le.mpr ⟨h.dep, g.dep⟩, by simp only [PyData.weightAll]; have := h.wt; have := g.wt; omega, by simp only [PyData.intsShortAll, h.shrt, g.shrt, Bool.and_self], by simp only [PyData.showableAll, h.show_, g.show_, Bool.and_self]⟩
theorem FitAll.of {n w : Nat} : ∀ {ds : List PyData}, (∀ d ∈ ds, Fit n w d) → FitAll n ((w + 1) * ds.length) ds
  | [], _ => FitAll.nil
  | d :: r, h => by
    have g := FitAll.cons (h d (List.mem_cons_self ..)) (FitAll.of fun e he => h e (List.mem_cons_of_mem _ he))
    rw [List.length_cons, Nat.mul_add, Nat.mul_one]
    exact ⟨g.lay, g.dep, by have := g.wt; omega, g.shrt, g.show_⟩
theorem FitAll.mono {n w n' w' : Nat} {ds : List PyData} (h : FitAll n w ds) (h1 : n ≤ n') (h2 : w ≤ w') : FitAll n' w' ds := ⟨h.lay, Nat.le_trans h.dep h1, Nat.le_trans h.wt h2, h.shrt, h.show_⟩
theorem FitAll.tup {n w : Nat} {ds : List PyData} (h : FitAll n w ds) : Fit (n + 1) w (.tuple ds) :=
  ⟨by simp only [PyData.canLay0, h.lay], by simp only [PyData.depth]; have := h.dep; omega, by simp only [PyData.weight]; exact h.wt, by simp only [PyData.intsShort, h.shrt], by simp only [PyData.showable, h.show_]⟩
theorem FitAll.lst {n w : Nat} {ds : List PyData} (h : FitAll n w ds) : Fit (n + 1) w (.list ds) :=
  ⟨by simp only [PyData.canLay0, h.lay], by simp only [PyData.depth]; have := h.dep; omega, by simp only [PyData.weight]; exact h.wt, by simp only [PyData.intsShort, h.shrt], by simp only [PyData.showable, h.show_]⟩
theorem Fit.tup {n w m : Nat} {ds : List PyData} (h : ∀ d ∈ ds, Fit n w d) (hl : ds.length ≤ m) : Fit (n + 1) ((w + 1) * m) (.tuple ds) := ((FitAll.of h).mono (Nat.le_refl _) (Nat.mul_le_mul_left _ hl)).tup
theorem Fit.nice {n w : Nat} {d : PyData} (h : Fit n w d) (hn : n ≤ 64) (hw : w ≤ 1048576) : Nice d := by
  refine ⟨?_, h.shrt, h.show_⟩
  unfold PyData.layable0
  have e : (2 : Nat) ^ 20 = 1048576 := by decide
  rw [h.lay, decide_eq_true (Nat.le_trans h.dep hn), e, decide_eq_true (Nat.le_trans h.wt hw)]
  rfl
theorem Fit.shaped {n w : Nat} {d : PyData} (h : Fit n w d) (hn : n ≤ 64) : SeqAt.shaped d = true := by
  unfold SeqAt.shaped
  rw [h.lay, decide_eq_true (Nat.le_trans h.dep hn)]
  rfl
theorem Fit.strs {ys : List Str} {w m : Nat} (h : ∀ y ∈ ys, okS y = true ∧ y.length ≤ w) (hl : ys.length ≤ m) : Fit 1 ((w + 1) * m) (strsD ys) :=
  Fit.tup (fun d hd => by obtain ⟨y, hy, rfl⟩ := List.mem_map.mp hd; exact Fit.str (h y hy).1 (h y hy).2) (by rw [List.length_map]; exact hl)
theorem Fit.word {z : Str} (h : okS z = true) (hl : z.length ≤ 11) : Fit 1 12 (wordD z) := Fit.tup (m := 1) (fun d hd => by rw [List.mem_singleton.mp hd]; exact Fit.str h hl) (by simp)
theorem sub_ok {x : Str} {i j : Nat} (h : okS x = true) : okS (PySem.Builtin.Str.strSub x i j) = true := okS_iff.mpr fun c hc => by
  refine okS_iff.mp h c ?_
  have hc : c ∈ (x.cps.extract i j).toList := hc
  rw [Array.toList_extract] at hc
  exact List.mem_of_mem_drop (List.mem_of_mem_take hc)
theorem part_ok {x y : Str} (h : okS x = true) (hy : okS y = true) : okS (Txt.partition x y).1 = true ∧ okS (Txt.partition x y).2.1 = true := by
  rcases PyProof.Rows.partition_whole x y with ⟨e, _⟩ | ⟨i, e, _⟩
  · rw [e]; exact ⟨h, (by decide +kernel : okS Str.empty = true)⟩
  · rw [e]; exact ⟨sub_ok h, hy⟩
theorem cutS_ok {x : Str} {lo hi : Option Int} (h : okS x = true) : okS (cutS x lo hi) = true := okS_iff.mpr fun c hc => by
  refine okS_iff.mp h c ?_
  rw [txt_of x, cutS_txt, txt_cps] at hc
  exact List.mem_of_mem_drop (List.mem_of_mem_take hc)
theorem app_ok {x y : Str} (h : okS x = true) (hy : okS y = true) : okS (x ++ y) = true := okS_iff.mpr fun c hc => by
  rw [cps_app, List.mem_append] at hc
  exact hc.elim (okS_iff.mp h c) (okS_iff.mp hy c)
theorem first_ok {z p : Str} (h : okS p = true) (hl : p.length ≤ 26) : okS (firstN z p) = true ∧ (firstN z p).length ≤ 27 := by
  have c1 := cutS_ok (lo := some (startN z)) (hi := none) h
  obtain ⟨o1, o2⟩ := part_ok c1 (y := PySem.Str.ofString "/") (by decide +kernel)
  have l := part_len (cutS p (some (startN z)) none) (PySem.Str.ofString "/")
  have cl := cutS_len p (some (startN z)) none
  have e1 : (PySem.Str.ofString "/").length = 1 := by decide
  exact ⟨app_ok o1 o2, by unfold firstN; rw [str_app_len]; omega⟩
theorem ded_sub (xs : List Str) : ∀ x ∈ ded xs, x ∈ xs := by
  have : ∀ (xs σ : List Str), ∀ x ∈ xs.foldl stepT σ, x ∈ σ ∨ x ∈ xs := by
    intro xs
    induction xs with
    | nil => intro σ x hx; exact .inl hx
    | cons y r ih =>
      intro σ x hx
      rcases ih _ x hx with h | h
      · unfold stepT at h
        split at h
        · exact .inl h
        · rcases List.mem_append.mp h with h | h
          · exact .inl h
          · rw [List.mem_singleton.mp h]; exact .inr (List.mem_cons_self ..)
      · exact .inr (List.mem_cons_of_mem _ h)
  intro x hx
  rcases this xs [] x hx with h | h
  · cases h
  · exact h
theorem fit_rows {p w : Str} {ls : List Str} (hp : isPathS p = true) (hl : ls.length ≤ 12) : (rowsD p ls w).length ≤ 12 ∧ ∀ d ∈ rowsD p ls w, Fit 1 54 d := by
  unfold rowsD
  constructor
  · rw [List.length_map]
    have := List.length_filter_le (fun i => occS (ls.getD i Str.empty) w) (List.range ls.length)
    rw [List.length_range] at this
    omega
  · intro d hd
    obtain ⟨i, hi, rfl⟩ := List.mem_map.mp hd
    have hi : i < ls.length := List.mem_range.mp (List.mem_filter.mp hi).1
    refine Fit.tup (w := 26) (m := 2) (fun e he => ?_) (by simp)
    simp only [List.mem_cons, List.not_mem_nil, or_false] at he
    rcases he with rfl | rfl
    · exact Fit.str (path_ok hp) (path_len hp)
    · exact (Fit.nat (by omega)).mono (Nat.le_refl _) (by omega)
theorem flat_len {α β : Type} (f : α → List β) (m : Nat) : ∀ xs : List α, (∀ x ∈ xs, (f x).length ≤ m) → (xs.flatMap f).length ≤ m * xs.length
  | [], _ => by simp
  | x :: r, h => by
    have h1 := h x (List.mem_cons_self ..)
    have h2 := flat_len f m r fun y hy => h y (List.mem_cons_of_mem _ hy)
    rw [List.flatMap_cons, List.length_append, List.length_cons, Nat.mul_add, Nat.mul_one]
    omega
theorem inside_len {fs : List File} (h : GoodP fs) (z : Str) : (insideF fs z).length ≤ 20 := by
  have h1 := List.length_filter_le (fun y => isInsideS y z) (pathsOf fs)
  have h2 := h.len
  have h3 : (pathsOf fs).length = fs.length := List.length_map ..
  unfold insideF
  omega
theorem fit_two {w : Str} {d : PyData} {n m : Nat} (h : okS w = true) (hl : w.length ≤ 11) (hd : Fit n m d) (hm : 11 ≤ m) : Fit (n + 1) ((m + 1) * 2) (.tuple [.str w, d]) :=
  Fit.tup (fun e he => by
    simp only [List.mem_cons, List.not_mem_nil, or_false] at he
    rcases he with rfl | rfl
    · exact (Fit.str h hl).mono (Nat.zero_le _) hm
    · exact hd) (by simp)
theorem fit_ask {fs : List File} (h : GoodP fs) (x : Action) : Fit 3 30000 (askF fs x) := by
  have no : Fit 3 30000 (wordD "none") := (Fit.word (by decide +kernel) (by decide)).mono (by omega) (by omega)
  cases x with
  | read p =>
    simp only [askF]
    split
    · exact no
    · rename_i ls g
      obtain ⟨l1, l2⟩ := lines_len (h.lines _ (at_mem g))
      exact (fit_two (by decide +kernel) (by decide) (Fit.strs (w := 20) (m := 12) (fun y hy => ⟨plain_ok (l2 y hy).2, (l2 y hy).1⟩) l1) (by omega)).mono (by omega) (by omega)
  | kind z =>
    simp only [askF]
    split
    · exact (Fit.word (by decide +kernel) (by decide)).mono (by omega) (by omega)
    · split
      · exact (Fit.word (by decide +kernel) (by decide)).mono (by omega) (by omega)
      · exact no
  | list z =>
    simp only [askF]
    split
    · refine (fit_two (by decide +kernel) (by decide) (Fit.strs (ys := namesF fs z) (w := 27) (m := 20) (fun y hy => ?_) ?_) (by omega)).mono (by omega) (by omega)
      · have h1 := ded_sub _ y ((sortS_perm _).subset hy)
        obtain ⟨p, hp, rfl⟩ := List.mem_map.mp h1
        obtain ⟨f, hf, rfl⟩ := List.mem_map.mp (List.mem_filter.mp hp).1
        exact first_ok (path_ok (h.path f hf)) (path_len (h.path f hf))
      · unfold namesF
        rw [sortS_len]
        have := ded_le ((insideF fs z).map (firstN z))
        rw [List.length_map] at this
        have := inside_len h z
        omega
    · exact no
  | count z =>
    simp only [askF]
    split
    · have := inside_len h z
      exact (fit_two (by decide +kernel) (by decide) ((Fit.nat (n := (insideF fs z).length) (by omega)).mono (Nat.le_refl _) (by omega : 10 ≤ 11)) (by omega)).mono (by omega) (by omega)
    · exact no
  | find z w =>
    simp only [askF]
    split
    · have rows : ∀ p ∈ foundPs fs z, (rowsD p ((at? fs p).getD []) w).length ≤ 12 ∧ ∀ d ∈ rowsD p ((at? fs p).getD []) w, Fit 1 54 d := fun p hp => by
        obtain ⟨ls, hls⟩ := foundPs_mem hp
        rw [hls]
        exact fit_rows (h.path _ (at_mem hls)) (lines_len (h.lines _ (at_mem hls))).1
      have fl : (foundPs fs z).length ≤ 21 := by
        unfold foundPs
        rw [sortS_len, List.length_append]
        have := inside_len h z
        split
        · rw [List.length_singleton]; omega
        · rw [List.length_nil]; omega
      have h1 := flat_len (fun p => rowsD p ((at? fs p).getD []) w) 12 (foundPs fs z) fun p hp => (rows p hp).1
      refine (fit_two (by decide +kernel) (by decide) (Fit.tup (n := 1) (w := 54) (m := 252) (ds := foundF fs z w) (fun d hd => ?_) ?_) (by omega)).mono (by omega) (by omega)
      · obtain ⟨p, hp, hd⟩ := List.mem_flatMap.mp hd
        exact (rows p hp).2 d hd
      · unfold foundF
        omega
    · exact no
  | _ => exact no
theorem fit_act {fs : List File} (h : GoodP fs) (x : Action) : Fit 3 30000 (actF fs x).1 := by
  have wd : ∀ z : Str, z ∈ (["none", "done", "missing", "blocked", "full", "absent", "ambiguous", "long"] : List Str) → Fit 3 30000 (wordD z) := fun z hz => by
    have := (by decide +kernel : ∀ z ∈ (["none", "done", "missing", "blocked", "full", "absent", "ambiguous", "long"] : List Str), okS z = true ∧ z.length ≤ 11) z hz
    exact (Fit.word this.1 this.2).mono (by omega) (by omega)
  unfold actF
  split
  · exact fit_ask h x
  · cases x with
    | write p ls =>
      simp only [deedF]
      split
      · exact wd _ (by decide +kernel)
      · split <;> exact wd _ (by decide +kernel)
    | remove p =>
      simp only [deedF]
      split <;> exact wd _ (by decide +kernel)
    | move p t =>
      simp only [deedF]
      split
      · exact wd _ (by decide +kernel)
      · split <;> exact wd _ (by decide +kernel)
    | splice p old new =>
      simp only [deedF]
      split
      · exact wd _ (by decide +kernel)
      · split
        · exact wd _ (by decide +kernel)
        · split <;> exact wd _ (by decide +kernel)
        · exact wd _ (by decide +kernel)
    | _ => exact wd _ (by decide +kernel)
def fileD (f : File) : PyData := .tuple [.str f.1, strsD f.2]
def rowsOfD (fs : List File) : PyData := .tuple (fs.map fileD)
theorem fit_files {fs : List File} (h : GoodP fs) : Fit 3 20000 (rowsOfD fs) := by
  refine (Fit.tup (n := 2) (w := 600) (m := 20) (fun d hd => ?_) (by rw [List.length_map]; exact h.len)).mono (by omega) (by omega)
  obtain ⟨f, hf, rfl⟩ := List.mem_map.mp hd
  obtain ⟨l1, l2⟩ := lines_len (h.lines f hf)
  refine (Fit.tup (n := 1) (w := 252) (m := 2) (fun d hd => ?_) (by simp)).mono (by omega) (by omega)
  simp only [List.mem_cons, List.not_mem_nil, or_false] at hd
  rcases hd with rfl | rfl
  · exact (Fit.str (path_ok (h.path f hf)) (path_len (h.path f hf))).mono (by omega) (by omega)
  · exact (Fit.strs (w := 20) (m := 12) (fun y hy => ⟨plain_ok (l2 y hy).2, (l2 y hy).1⟩) l1).mono (by omega) (by omega)
end K45




namespace K45
open PySem L2 Sa
theorem law_cut (x y : Str) : decide (cutS x none (some ((y.length : Int) + 1)) = y ++ PySem.Str.ofString "/") = Txt.startswith x (y ++ PySem.Str.ofString "/") := by
  rw [← cut_starts, str_app_len]
  have e1 : (PySem.Str.ofString "/").length = 1 := by decide
  rw [e1]
  rfl
theorem itn_ks {d : Addr} {od : Obj} {ls : List (Addr × File)} : Itn (Itk d od (filesKv ls)) ls.length (fun H => H d = some (.frz od (.dK (filesKv ls)))) (Yq ls fun l => V.str l.2.1) := itn_k (f := fun l : Addr × File => (Sum.inr l.2.1 : Key)) (g := fun l => V.ref l.1)
section
variable {P : Program} {w : World} {K : PySem.W.Frag} {mg : Str → Option Value} {base : Heap}
end
def putR (fs : List File) (p : Str) (ls : List Str) : List File := if fs.any (fun f => decide (f.1 = p)) = true then fs.map (fun f => if f.1 = p then (p, ls) else f) else fs ++ [(p, ls)]
def putA (rs : List (Addr × File)) (p : Str) (a : Addr) (ls : List Str) : List (Addr × File) := if rs.any (fun r => decide (r.2.1 = p)) = true then rs.map (fun r => if r.2.1 = p then (a, (p, ls)) else r) else rs ++ [(a, (p, ls))]
theorem putA_snd (rs : List (Addr × File)) (p : Str) (a : Addr) (ls : List Str) : (putA rs p a ls).map Prod.snd = putR (rs.map Prod.snd) p ls := by
  unfold putA putR
  rw [List.any_map]
  have e : ((fun f : File => decide (f.1 = p)) ∘ Prod.snd) = fun r : Addr × File => decide (r.2.1 = p) := rfl
  rw [e]
  split
  · rw [List.map_map, List.map_map]
    congr 1
    funext r
    simp only [Function.comp]
    split <;> rfl
  · rw [List.map_append]; rfl
theorem putA_kv (rs : List (Addr × File)) (p : Str) (a : Addr) (ls : List Str) : filesKv (putA rs p a ls) = putK (filesKv rs) (Sum.inr p) (.ref a) := by
  unfold putA putK filesKv
  rw [List.any_map]
  have e : ((fun kv : Key × V => decide (kv.1 = (Sum.inr p : Key))) ∘ fun l : Addr × File => ((Sum.inr l.2.1 : Key), V.ref l.1)) = fun r : Addr × File => decide (r.2.1 = p) := by
    funext r
    simp
  rw [e]
  split
  · rw [List.map_map, List.map_map]
    congr 1
    funext r
    simp only [Function.comp, Sum.inr.injEq]
    split
    · rename_i h; rw [h]
    · rfl
  · rw [List.map_append]; rfl
theorem putR_perm {fs : List File} (h : Once fs) (p : Str) (ls : List Str) : (putR fs p ls).Perm (withF fs p ls) := by
  unfold putR withF withoutF
  split
  · rename_i hp
    induction fs with
    | nil => simp at hp
    | cons f r ih =>
      obtain ⟨h1, h2⟩ := List.nodup_cons.mp (show (f.1 :: r.map Prod.fst).Nodup from h)
      by_cases e : f.1 = p
      · have hr : ∀ g ∈ r, ¬ g.1 = p := fun g hg e2 => h1 (by rw [e, ← e2]; exact List.mem_map_of_mem (f := Prod.fst) hg)
        rw [List.map_cons, if_pos e, List.filter_cons_of_neg (by simp [e])]
        have e1 : r.map (fun f => if f.1 = p then (p, ls) else f) = r := by
          conv => rhs; rw [← List.map_id r]
          exact List.map_congr_left fun g hg => by rw [if_neg (hr g hg)]; rfl
        have e2 : r.filter (fun f => !decide (f.1 = p)) = r := List.filter_eq_self.mpr fun g hg => by rw [decide_eq_false (hr g hg)]; rfl
        rw [e1, e2]
        exact (List.perm_append_singleton (p, ls) r).symm
      · rw [List.map_cons, if_neg e, List.filter_cons_of_pos (by simp [e]), List.cons_append]
        refine List.Perm.cons f (ih h2 ?_)
        rw [List.any_cons, decide_eq_false e, Bool.false_or] at hp
        exact hp
  · rename_i hp
    have e2 : fs.filter (fun f => !decide (f.1 = p)) = fs := List.filter_eq_self.mpr fun g hg => by
      rw [List.any_eq_true] at hp
      cases q : decide (g.1 = p) with
      | false => rfl
      | true => exact absurd ⟨g, hg, q⟩ hp
    rw [e2]
section
variable {K : PySem.W.Frag} {H : Hp} {f la : Addr} {fs : List File} {p : Str} {ls : List Str} {R : Hp → Prop}
theorem c_putF (h : FilesAt K H f fs) (hn : fs.length ≤ 1000) (hl : SqT K H la (ls.map V.str)) (q : ∀ H', Kp [f] H H' → Kt H H' → FilesAt K H' f (putR fs p ls) → (∀ a o, a ≠ f → H' a = some o → H a = some o) → R H') : ∃ a H4, V.ref f = .ref a ∧ DPut H a (.str p) (.ref la) H4 ∧ R H4 := by
  obtain ⟨rs, h1, h2, rfl⟩ := h.ex
  have kt : ∀ o, Kt H (upd H f o) := fun o => Kt.upd1 (NoT.dK h1)
  refine c_dputAt h1 (by rw [sizeLine_eq]; unfold filesKv; rw [List.length_map] at hn ⊢; omega) ?_
  rw [← putA_kv rs p la ls]
  refine q _ (Kp.mut (by simp)) (kt _) ⟨putA rs p la ls, upd_same, fun r hr => ?_, putA_snd rs p la ls⟩ (fun a o ha ho => by rw [upd_ne ha] at ho; exact ho)
  unfold putA at hr
  split at hr
  · obtain ⟨r0, hr0, rfl⟩ := List.mem_map.mp hr
    split
    · exact SqT.kt (kt _) hl
    · exact SqT.kt (kt _) (h2 r0 hr0)
  · rcases List.mem_append.mp hr with hr | hr
    · exact SqT.kt (kt _) (h2 r hr)
    · rw [List.mem_singleton.mp hr]; exact SqT.kt (kt _) hl
end
section
variable {P : Program} {w : World} {K : PySem.W.Frag} {mg : Str → Option Value} {base : Heap}
def spLRows (K : PySem.W.Frag) : Sp := fun vs H Q _ => ∃ (f : Addr) (fs : List File), vs = [.ref f] ∧ FilesAt K H f fs ∧ Once fs ∧ fs.length ≤ 60 ∧ ∀ p H' (rs : List RowA), Kp [] H H' → SqT K H' p (rs.map fun r => V.ref r.1) → rs.map (fun r => r.2.2) = sortF fs → (∀ r ∈ rs, RowOk K H' r) → Q (.ref p) H'
theorem sc__law_files : FnScope ["_law_table_here", "_law_path_here"] ["_law_table_here"] (defScope s__law_files) := ⟨rfl, rfl, rfl, by decide +kernel, rfl, by decide +kernel, by decide +kernel⟩
theorem bn__law_files : BindN "_law_files" s__law_files ["_law_table_here"] := fun _ _ _ _ _ _ us hl => match us, hl with | [_], _ => rfl
theorem b__law_files (T : TX K mg) : Body P w K mg base "_law_files" s__law_files ["_law_table_here", "_law_path_here"] 1 (spLRows K) := by
  intro cdv A outer s H vs Q E h X hr
  obtain ⟨f, fs, rfl, F, ho, hn, q⟩ := h
  refine ⟨_, (pss_one (ps_ret (pe_callTy (cr_tuple (K := K)) rfl (T.free 28) (by decide +kernel) (pa_cons (pe_lc (own := [("_law_path_here", 1)]) rfl sc__law_files.nd (pi_listU (K := K) (pe_callB (cr_sortedDU rfl) rfl (T.free 30) (by decide +kernel) (pa_cons (pv 0) pa_nil))) (blkOk_by (N := ["_law_table_here", "_law_path_here"]) (sc := defScope s__law_files) (by decide +kernel)) (fun _ _ _ _ _ => (pg_name (i := 1) sc__law_files.nd rfl (Or.inl rfl))) (fun _ _ _ _ _ => pts_nil) (fun _ _ _ _ _ => (pe_tup (pa_cons (pv 1) (pa_cons (pe_dget (hu_of hr) (pv 0) (pv 1) (fun _ _ => rfl)) pa_nil))))) pa_nil)))), ?_⟩
  obtain ⟨ls, hf, hls, rfl⟩ := id F.ex
  walk_at "st"
  refine c_sortedF F.r hn fun p H1 N1 => ?_
  have hn2 : ls.length ≤ 60 := by rw [List.length_map] at hn; exact hn
  walk_at "st"
  generalize hfs : sortF (ls.map Prod.snd) = fs at *
  have hmem : ∀ r ∈ fs, r ∈ ls.map Prod.snd := fun r hr => (sortF_perm (ls.map Prod.snd)).subset (hfs ▸ hr)
  have hlen : fs.length = ls.length := by rw [← hfs, sortF_len, List.length_map]
  let d0 : File := (Str.empty, [])
  have hp1 : SqL K H1 p (fs.map fun r => V.str r.1) := by
    have := N1.at_
    unfold pathsOf at this
    rw [List.map_map] at this
    exact SqL.of this
  refine lcQ_new (itn_l (ys := fs) (u := fun r => V.str r.1)) (fun i => .tup [.str (fs.getD i d0).1, .ref (linesAt ls (fs.getD i d0).1)]) (by omega) (fun H' e => SqL.kp e hp1) (fun i y H' H'' R S hi e z k => ?_) (fun D qs H2 hD e2 hacc hql hqs => ?_)
  · obtain ⟨rfl, r, hr, rfl⟩ := z
    have k0 : Kp [] H H'' := N1.kp.trans e
    obtain ⟨l, hl1, rfl, hl3, hl4⟩ := linesAt_ok ho (hmem r (List.mem_of_getElem? hr))
    walk_at "st"
    refine ⟨rfl, ?_⟩
    walk_at "st"
    refine ⟨f, .ref l.1, rfl, .inl ⟨_, Sum.inr l.2.1, .inl (k0.at0 hf), rfl, by rw [filesKv_val, hl3]; rfl⟩, ?_⟩
    walk_at "st"
    walk_at "nw"
    intro q4 H4 N
    refine k q4 H4 N.fr N.kp ?_
    rw [N.at_, getD_of (d := d0) hr, hl4]
  walk_at "st"
  refine c_tupleL (SqL.of hacc) fun p3 H3 N3 => ?_
  have kk : Kp [] H H3 := (N1.kp.trans e2).trans N3.kp
  refine q p3 H3 (List.zipWith (fun q f => (q, linesAt ls f.1, f)) qs fs) kk ?_ ?_ ?_
  · have : (List.zipWith (fun q f => (q, linesAt ls f.1, f)) qs fs).map (fun r : RowA => V.ref r.1) = qs.map V.ref := by
      rw [List.map_zipWith]
      apply List.ext_getElem?
      intro i
      rw [List.getElem?_zipWith, List.getElem?_map]
      by_cases hi : i < qs.length
      · rw [List.getElem?_eq_getElem hi, List.getElem?_eq_getElem (by omega)]
        rfl
      · rw [List.getElem?_eq_none (by omega)]
        rfl
    rw [this]
    exact SqT.of N3.at_
  · rw [List.map_zipWith]
    apply List.ext_getElem?
    intro i
    rw [List.getElem?_zipWith]
    by_cases hi : i < fs.length
    · rw [List.getElem?_eq_getElem hi, List.getElem?_eq_getElem (by omega)]
    · rw [List.getElem?_eq_none (l := fs) (by omega), List.getElem?_eq_none (l := qs) (by omega)]
  · intro r hr
    obtain ⟨i, hi, e⟩ := List.mem_iff_getElem.mp hr
    rw [List.getElem_zipWith] at e
    subst e
    rw [List.length_zipWith] at hi
    have hiq : i < qs.length := by omega
    have hif : i < fs.length := by omega
    obtain ⟨_, a2⟩ := hqs i _ (List.getElem?_eq_getElem hiq)
    rw [getD_of (d := d0) (List.getElem?_eq_getElem hif)] at a2
    obtain ⟨l, hl1, hl2, hl3, hl4⟩ := linesAt_ok ho (hmem _ (List.getElem_mem hif))
    refine ⟨SqT.of (N3.keep a2), ?_⟩
    show SqT K H3 (linesAt ls (fs[i]).1) ((fs[i]).2.map V.str)
    rw [hl4, ← hl2]
    exact SqT.kp kk (hls l hl1)
theorem D__law_files (T : TX K mg) : DefAt P w K mg base CX0 "_law_files" 2 ["_law_table_here"] (spLRows K) :=
  def_of T 52 89 sc__law_files bn__law_files (by walk_at "len") (b__law_files T)
end
end K45



namespace K45
open PySem L2 Sa
theorem paths_perm {fs gs : List File} (h : fs.Perm gs) : (pathsOf fs).Perm (pathsOf gs) := h.map Prod.fst
theorem inside_perm {fs gs : List File} (h : fs.Perm gs) (z : Str) : (insideF fs z).Perm (insideF gs z) := (paths_perm h).filter _
theorem foundPs_eq {fs : List File} (G : GoodP fs) (ha : Asc fs) (z : Str) : foundPs fs z = (pathsOf fs).filter fun p => decide (p = z) || isInsideS p z := by
  unfold foundPs
  refine sorted_eq ((sortS_perm _).trans ?_) (sortS_asc _) (List.Pairwise.filter _ ha)
  have nd : (pathsOf fs).Nodup := G.once
  refine (List.perm_ext_iff_of_nodup ?_ (nd.filter _)).mpr fun a => ?_
  · rw [List.nodup_append]
    refine ⟨nd.filter _, by split <;> simp, fun a h1 b h2 e => ?_⟩
    split at h2
    · rename_i hz
      rw [List.mem_singleton.mp h2] at e
      subst e
      obtain ⟨g, hg, e2⟩ := List.mem_map.mp (at_isSome.mp hz)
      have h3 := (List.mem_filter.mp h1).2
      have h4 := self_out (G.path g hg)
      rw [e2] at h4
      rw [h4] at h3
      cases h3
    · cases h2
  · rw [List.mem_append, List.mem_filter]
    constructor
    · rintro (h | h)
      · obtain ⟨h1, h2⟩ := List.mem_filter.mp h
        exact ⟨h1, by rw [h2, Bool.or_true]⟩
      · split at h
        · rename_i hz
          rw [List.mem_singleton.mp h]
          exact ⟨at_isSome.mp hz, by simp⟩
        · cases h
    · rintro ⟨h1, h2⟩
      rcases Bool.or_eq_true _ _ |>.mp h2 with h2 | h2
      · have e := of_decide_eq_true h2
        subst e
        exact .inr (by rw [if_pos (at_isSome.mpr h1)]; exact List.mem_singleton.mpr rfl)
      · exact .inl (List.mem_filter.mpr ⟨h1, h2⟩)
theorem spl_par : ∀ (cs acc : List Nat), TL.spl [47] 0 acc cs = (match TL.par [47] acc cs with
    | none => [acc ++ cs]
    | some (p, q) => p :: TL.spl [47] 0 [] q)
  | [], acc => by rw [TL.spl_nil]; show _ = [acc ++ []]; rw [List.append_nil]
  | c :: r, acc => by
    by_cases h : TL.pre [47] (c :: r) = true
    · rw [TL.spl_hit h, TL.par_hit h]
      rfl
    · have h : TL.pre [47] (c :: r) = false := by simpa using h
      rw [TL.spl_miss h, TL.par_miss h, spl_par r (acc ++ [c])]
      cases TL.par [47] (acc ++ [c]) r with
      | none => simp
      | some pq => rfl
theorem spl_ne (cs acc : List Nat) : TL.spl [47] 0 acc cs ≠ [] := by
  rw [spl_par]
  cases TL.par [47] acc cs <;> simp
theorem split_first (r : Str) : ∃ a t, Txt.split r (PySem.Str.ofString "/") = a :: t ∧ a.length ≤ r.length ∧ (if decide ((1 : Int) < ((a :: t).length : Int)) = true then a ++ PySem.Str.ofString "/" else a) = (Txt.partition r (PySem.Str.ofString "/")).1 ++ (Txt.partition r (PySem.Str.ofString "/")).2.1 := by
  have es : Txt.split r (PySem.Str.ofString "/") = (TL.spl [47] 0 [] r.cps.toList).map SX.S := by
    have := SX.split_S (a := r.cps.toList) (b := [47]) (by simp) (by decide)
    rw [SX.S_tl] at this
    rw [slash2]
    exact this
  have hmem : ∀ a, a ∈ Txt.split r (PySem.Str.ofString "/") → a.length ≤ r.length := fun a ha => split_part ha
  rw [es] at hmem ⊢
  rw [spl_par] at hmem ⊢
  cases q : TL.par [47] [] r.cps.toList with
  | none =>
    have ep := SX.partition_none (a := r.cps.toList) (b := [47]) (by simp) q
    rw [SX.S_tl] at ep
    rw [q] at hmem
    refine ⟨SX.S ([] ++ r.cps.toList), [], rfl, hmem _ (List.mem_singleton.mpr rfl), ?_⟩
    rw [slash2, ep]
    show SX.S ([] ++ r.cps.toList) = r ++ SX.S []
    rw [List.nil_append, SX.S_tl]
    exact str_ext (by rw [cps_app]; simp)
  | some pq =>
    obtain ⟨p1, q1⟩ := pq
    have ep := SX.partition_some (a := r.cps.toList) (b := [47]) (by simp) q
    rw [SX.S_tl] at ep
    rw [q] at hmem
    refine ⟨SX.S p1, (TL.spl [47] 0 [] q1).map SX.S, rfl, hmem _ (List.mem_cons_self ..), ?_⟩
    rw [slash2, ep, if_pos]
    rw [decide_eq_true_eq, List.length_cons, List.length_map]
    have := List.length_pos_iff.mpr (spl_ne q1 [])
    omega
section
variable {P : Program} {w : World} {K : PySem.W.Frag} {mg : Str → Option Value} {base : Heap}
end
end K45



namespace K45
open PySem L2 Sa
theorem c_dgetR {K : PySem.W.Frag} {H : Hp} {d : Addr} {fs : List File} {p : Str} {ls : List Str} {Q : VK} (h : FilesR K H d fs) (g : at? fs p = some ls) (q : ∀ a, SqT K H a (ls.map V.str) → Q (.ref a) H) : DGetK (.ref d) (.str p) H Q := c_dgetF h g q
local macro_rules | `(tactic| walk_at "s1") => `(tactic| first | (with_reducible apply c_dgetK))
local macro_rules | `(tactic| walk_at "s1") => `(tactic| (with_reducible apply c_raiseO))
theorem TreeG.kb {K : PySem.W.Frag} {H H' : Hp} {t b d : Addr} {fs : List File} (h : TreeG K H t fs) (B : Bx H b d) (e : Kp [b] H H') : TreeG K H' t fs := by
  obtain ⟨⟨dx, dd, ls, h1, h2, h3, h4, h5⟩, g⟩ := h
  obtain ⟨_, _, hb, _⟩ := B.ex
  have n1 : t ≠ b := fun z => by rw [z, hb] at h1; cases h1
  have n2 : dd ≠ b := fun z => by rw [z, hb] at h2; cases h2
  exact ⟨⟨dx, dd, ls, e.at1 n1 h1, e.at1 n2 h2, fun l hl => SqT.kt (B.kt e) (h3 l hl), h4, h5⟩, g⟩
theorem at_sort {fs : List File} (G : GoodP fs) (p : Str) : at? (sortF fs) p = at? fs p := at_perm G.sort.once (sortF_perm fs) p
theorem c_intB {b : Bool} {H : Hp} {Q : VK} (q : Q (.int (if b then 1 else 0)) H) : rIntU [.bl b] H Q := .inr ⟨b, rfl, q⟩
section
variable {P : Program} {w : World} {K : PySem.W.Frag} {mg : Str → Option Value} {base : Heap}
def spLFound (K : PySem.W.Frag) : Sp := fun vs H Q _ => ∃ (f : Addr) (z wd : Str) (fs : List File), vs = [.ref f, .str z, .str wd] ∧ FilesAt K H f fs ∧ GoodP fs ∧ z.length ≤ 1000 ∧ ∀ p H', Kp [] H H' → Dt K H' (.ref p) (.tuple (foundF (sortF fs) z wd)) → Q (.ref p) H'
def spLAsked (K : PySem.W.Frag) : Sp := fun vs H Q _ => ∃ (f a : Addr) (x : Action) (fs : List File), vs = [.ref f, .ref a] ∧ FilesAt K H f fs ∧ GoodP fs ∧ ActAt K H a x ∧ x.isQ = true ∧ x.sane ∧ ∀ v H', Kp [] H H' → Dt K H' v (askF (sortF fs) x) → Q v H'
end
end K45



namespace K45
open PySem L2 Sa
section
variable {P : Program} {w : World} {K : PySem.W.Frag} {mg : Str → Option Value} {base : Heap}
def spAlike (K : PySem.W.Frag) : Sp := fun vs H Q _ => ∃ (x y : V) (d : PyData), vs = [x, y] ∧ Dp K H x d ∧ Dp K H y d ∧ Nice d ∧ Q (.bl true) H
end
end K45



namespace K45
open PySem L2 Sa
local macro_rules | `(tactic| walk_at "s1") => `(tactic| first | (with_reducible apply c_dgetK))
local macro_rules | `(tactic| walk_at "s1") => `(tactic| (with_reducible apply c_raiseO))
def rLenD : List V → Hp → VK → Prop := fun xs H Q => ∃ (a : Addr) (kvs : List (Key × V)), xs = [.ref a] ∧ Rd H a (.dK kvs) ∧ Q (.int kvs.length) H
theorem cr_lenD {X : Cx} : CallR X (.builtin "len") rLenD := by
  intro pins s σ H vs us Q I r h
  obtain ⟨a, kvs, rfl, e, q⟩ := h
  obtain ⟨u, rfl, ru⟩ := vals1 r
  cases ru
  exact d_len I e fun t s' I' => ⟨.int _, H, I', ⟨t, rfl⟩, q⟩
theorem c_lenF {K : PySem.W.Frag} {H : Hp} {f : Addr} {fs : List File} {Q : VK} (h : FilesR K H f fs) (q : Q (.int fs.length) H) : rLenD [.ref f] H Q := by
  obtain ⟨ls, h1, h2, rfl⟩ := h.ex
  refine ⟨f, _, rfl, h1, ?_⟩
  rw [List.length_map] at q
  unfold filesKv
  rw [List.length_map]
  exact q
def refuseF (fs : List File) : Action → Str
  | .write p _ => if blockedF fs p then "blocked" else if (at? fs p).isNone && decide (fs.length = 20) then "full" else ""
  | .remove p => if (at? fs p).isNone then "missing" else ""
  | .move p t => (match at? fs p with
    | none => "missing"
    | some _ => if (at? (withoutF fs p) t).isSome || blockedF (withoutF fs p) t then "blocked" else "")
  | .splice p old new => (match at? fs p with
    | none => "missing"
    | some ls => (match placesF ls old with
      | [] => "absent"
      | [_] => if decide ((12 : Int) < (ls.length : Int) - old.length + new.length) then "long" else ""
      | _ => "ambiguous"))
  | _ => ""
def laterF (fs : List File) : Action → List File
  | .write p ls => withF fs p ls
  | .remove p => withoutF fs p
  | .move p t => withF (withoutF fs p) t ((at? fs p).getD [])
  | .splice p old new => withF fs p (splicedL ((at? fs p).getD []) old new ((placesF ((at? fs p).getD []) old).getD 0 0))
  | _ => fs
theorem above_perm {fs gs : List File} (h : fs.Perm gs) (z : Str) : (aboveF fs z).Perm (aboveF gs z) := (paths_perm h).filter _
theorem blocked_perm {fs gs : List File} (h : fs.Perm gs) (z : Str) : blockedF fs z = blockedF gs z := by
  unfold blockedF
  rw [(inside_perm h z).length_eq, (above_perm h z).length_eq]
theorem without_perm {fs gs : List File} (h : fs.Perm gs) (p : Str) : (withoutF fs p).Perm (withoutF gs p) := h.filter _
theorem once_without {fs : List File} (h : Once fs) (p : Str) : Once (withoutF fs p) := List.Nodup.sublist (List.Sublist.map _ List.filter_sublist) h
theorem not_in_without (fs : List File) (p : Str) : p ∉ pathsOf (withoutF fs p) := fun h => by
  obtain ⟨f, hf, rfl⟩ := List.mem_map.mp h
  have := (List.mem_filter.mp hf).2
  simp at this
theorem once_with {fs : List File} (h : Once fs) (p : Str) (ls : List Str) : Once (withF fs p ls) := by
  unfold Once withF
  rw [List.map_append, List.nodup_append]
  refine ⟨once_without h p, by simp, fun a ha b hb => ?_⟩
  simp only [List.map_cons, List.map_nil, List.mem_singleton] at hb
  rw [hb]
  intro e
  rw [e] at ha
  exact not_in_without fs p ha
theorem sort_with {fs : List File} (h : Once fs) (p : Str) (ls : List Str) : sortF (withF (sortF fs) p ls) = sortF (withF fs p ls) :=
  sortF_congr ((without_perm (sortF_perm fs) p).append_right _) (once_with (sortF_once h) p ls)
theorem sort_without {fs : List File} (h : Once fs) (p : Str) : sortF (withoutF (sortF fs) p) = sortF (withoutF fs p) := sortF_congr (without_perm (sortF_perm fs) p) (once_without (sortF_once h) p)
theorem at_perm' {fs gs : List File} (h : Once fs) (p : fs.Perm gs) (z : Str) : at? fs z = at? gs z := at_perm h p z
theorem deed_eq {fs : List File} (G : GoodP fs) {x : Action} (hq : x.isQ = false) : (refuseF fs x = "" → deedF (sortF fs) x = (wordD "done", sortF (laterF fs x))) ∧ (refuseF fs x ≠ "" → deedF (sortF fs) x = (wordD (refuseF fs x), sortF fs)) := by
  have lit : ∀ z : Str, z ∈ (["none", "done", "missing", "blocked", "full", "absent", "ambiguous", "long"] : List Str) → z ≠ ("" : Str) := by decide +kernel
  cases x with
  | write p ls =>
    simp only [deedF, refuseF, laterF, blocked_perm (sortF_perm fs), at_sort G, sortF_len]
    split
    · exact ⟨fun h => absurd h (lit _ (by decide +kernel)), fun _ => rfl⟩
    · split
      · exact ⟨fun h => absurd h (lit _ (by decide +kernel)), fun _ => rfl⟩
      · exact ⟨fun _ => by rw [sort_with G.once], fun h => absurd rfl h⟩
  | remove p =>
    simp only [deedF, refuseF, laterF, at_sort G]
    split
    · exact ⟨fun h => absurd h (lit _ (by decide +kernel)), fun _ => rfl⟩
    · exact ⟨fun _ => by rw [sort_without G.once], fun h => absurd rfl h⟩
  | move p t =>
    simp only [deedF, refuseF, laterF, at_sort G]
    cases q : at? fs p with
    | none => simp only; exact ⟨fun h => absurd h (lit _ (by decide +kernel)), fun _ => by first | rfl | trivial⟩
    | some ls =>
      simp only [sort_without G.once]
      have pm := sortF_perm (withoutF fs p)
      rw [at_perm' (sortF_once (once_without G.once p)) pm, blocked_perm pm]
      split
      · exact ⟨fun h => absurd h (lit _ (by decide +kernel)), fun _ => rfl⟩
      · exact ⟨fun _ => by rw [sort_with (once_without G.once p)]; rfl, fun h => absurd rfl h⟩
  | splice p old new =>
    simp only [deedF, refuseF, laterF, at_sort G]
    cases q : at? fs p with
    | none => simp only; exact ⟨fun h => absurd h (lit _ (by decide +kernel)), fun _ => by first | rfl | trivial⟩
    | some ls =>
      simp only [Option.getD_some]
      cases hp : placesF ls old with
      | nil => simp only; exact ⟨fun h => absurd h (lit _ (by decide +kernel)), fun _ => by first | rfl | trivial⟩
      | cons i r =>
        cases r with
        | nil =>
          simp only
          split
          · exact ⟨fun h => absurd h (lit _ (by decide +kernel)), fun _ => rfl⟩
          · exact ⟨fun _ => by rw [sort_with G.once]; rfl, fun h => absurd rfl h⟩
        | cons j r => simp only; exact ⟨fun h => absurd h (lit _ (by decide +kernel)), fun _ => by first | rfl | trivial⟩
  | _ => cases hq
section
variable {P : Program} {w : World} {K : PySem.W.Frag} {mg : Str → Option Value} {base : Heap}
end
end K45



namespace K45
open PySem L2 Sa
local macro_rules | `(tactic| walk_at "s1") => `(tactic| first | (with_reducible apply c_dgetK))
local macro_rules | `(tactic| walk_at "s1") => `(tactic| (with_reducible apply c_raiseO))
def Action.word : Action → Str
  | .read _ => "read" | .kind _ => "kind" | .list _ => "list" | .find _ _ => "find" | .count _ => "count"
  | .write _ _ => "write" | .remove _ => "remove" | .move _ _ => "move" | .splice _ _ _ => "splice"
def Action.place : Action → Str
  | .read p => p | .kind p => p | .list p => p | .find p _ => p | .count p => p
  | .write p _ => p | .remove p => p | .move p _ => p | .splice p _ _ => p
theorem ActAt.head {K : PySem.W.Frag} {H : Hp} {a : Addr} {x : Action} (h : ActAt K H a x) : ∃ r, SqT K H a (.str x.word :: .str x.place :: r) := by
  cases x with
  | write p ls => obtain ⟨l, h, _⟩ := h; exact ⟨_, h⟩
  | splice p old new => obtain ⟨l, m, h, _⟩ := h; exact ⟨_, h⟩
  | _ => exact ⟨_, h⟩
theorem ActAt.kt {K : PySem.W.Frag} {H H' : Hp} {a : Addr} (e : Kt H H') : ∀ {x : Action}, ActAt K H a x → ActAt K H' a x
  | .read _, h => SqT.kt e h
  | .kind _, h => SqT.kt e h
  | .list _, h => SqT.kt e h
  | .find _ _, h => SqT.kt e h
  | .count _, h => SqT.kt e h
  | .write _ _, ⟨l, h1, h2⟩ => ⟨l, SqT.kt e h1, SqT.kt e h2⟩
  | .remove _, h => SqT.kt e h
  | .move _ _, h => SqT.kt e h
  | .splice _ _ _, ⟨l, m, h1, h2, h3⟩ => ⟨l, m, SqT.kt e h1, SqT.kt e h2, SqT.kt e h3⟩
theorem word_isQ (x : Action) : decide (x.word ∈ (["read", "kind", "list", "find", "count"] : List Str)) = x.isQ := by
  cases x with
  | read p =>
    show decide ((PySem.Str.ofString "read") ∈ (["read", "kind", "list", "find", "count"] : List Str)) = true
    decide +kernel
  | kind p =>
    show decide ((PySem.Str.ofString "kind") ∈ (["read", "kind", "list", "find", "count"] : List Str)) = true
    decide +kernel
  | list p =>
    show decide ((PySem.Str.ofString "list") ∈ (["read", "kind", "list", "find", "count"] : List Str)) = true
    decide +kernel
  | find p w =>
    show decide ((PySem.Str.ofString "find") ∈ (["read", "kind", "list", "find", "count"] : List Str)) = true
    decide +kernel
  | count p =>
    show decide ((PySem.Str.ofString "count") ∈ (["read", "kind", "list", "find", "count"] : List Str)) = true
    decide +kernel
  | write p ls =>
    show decide ((PySem.Str.ofString "write") ∈ (["read", "kind", "list", "find", "count"] : List Str)) = false
    decide +kernel
  | remove p =>
    show decide ((PySem.Str.ofString "remove") ∈ (["read", "kind", "list", "find", "count"] : List Str)) = false
    decide +kernel
  | move p t =>
    show decide ((PySem.Str.ofString "move") ∈ (["read", "kind", "list", "find", "count"] : List Str)) = false
    decide +kernel
  | splice p o n =>
    show decide ((PySem.Str.ofString "splice") ∈ (["read", "kind", "list", "find", "count"] : List Str)) = false
    decide +kernel
theorem putR_new {fs : List File} {p : Str} (h : p ∉ pathsOf fs) (ls : List Str) : putR fs p ls = fs ++ [(p, ls)] := by
  unfold putR
  rw [if_neg]
  intro hz
  obtain ⟨f, hf, e⟩ := List.any_eq_true.mp hz
  exact h (List.mem_map.mpr ⟨f, hf, of_decide_eq_true e⟩)
theorem without_new {fs : List File} {p : Str} (h : p ∉ pathsOf fs) : withoutF fs p = fs := List.filter_eq_self.mpr fun g hg => by
  rw [decide_eq_false fun e => h (List.mem_map.mpr ⟨g, hg, e⟩)]
  rfl
section
variable {P : Program} {w : World} {K : PySem.W.Frag} {mg : Str → Option Value} {base : Heap}
end
end K45




namespace K45
open PySem L2 Sa
local macro_rules | `(tactic| walk_at "s1") => `(tactic| first | (with_reducible apply c_dgetK))
local macro_rules | `(tactic| walk_at "s1") => `(tactic| (with_reducible apply c_raiseO))
def Action.d : Action → PyData
  | .read p => .tuple [.str "read", .str p]
  | .kind z => .tuple [.str "kind", .str z]
  | .list z => .tuple [.str "list", .str z]
  | .find z w => .tuple [.str "find", .str z, .str w]
  | .count z => .tuple [.str "count", .str z]
  | .write p ls => .tuple [.str "write", .str p, strsD ls]
  | .remove p => .tuple [.str "remove", .str p]
  | .move p t => .tuple [.str "move", .str p, .str t]
  | .splice p old new => .tuple [.str "splice", .str p, strsD old, strsD new]
theorem ActAt.dt {K : PySem.W.Frag} {H : Hp} {a : Addr} {x : Action} (h : ActAt K H a x) : Dt K H (.ref a) x.d := by
  cases x with
  | write p ls => obtain ⟨l, h1, h2⟩ := h; exact .tup h1 (.cons (.str _) (.cons (.str _) (.cons (dt_strs h2) .nil)))
  | splice p old new => obtain ⟨l, m, h1, h2, h3⟩ := h; exact .tup h1 (.cons (.str _) (.cons (.str _) (.cons (dt_strs h2) (.cons (dt_strs h3) .nil))))
  | find z w => exact .tup h (.cons (.str _) (.cons (.str _) (.cons (.str _) .nil)))
  | move z w => exact .tup h (.cons (.str _) (.cons (.str _) (.cons (.str _) .nil)))
  | _ => exact .tup h (.cons (.str _) (.cons (.str _) .nil))
theorem dta_one {K : PySem.W.Frag} {H : Hp} {xs : List V} {s : Str} {ds : List PyData} (h : DtAll K H xs (.str s :: ds)) : ∃ vs, xs = .str s :: vs ∧ DtAll K H vs ds := by
  obtain ⟨v, vs, rfl, h1, h2⟩ := dta_cons h
  rw [dt_str h1]
  exact ⟨vs, rfl, h2⟩
theorem dta_strsD {K : PySem.W.Frag} {H : Hp} {xs : List V} {ys : List Str} {ds : List PyData} (h : DtAll K H xs (strsD ys :: ds)) : ∃ l vs, xs = .ref l :: vs ∧ SqT K H l (ys.map V.str) ∧ DtAll K H vs ds := by
  obtain ⟨v, vs, rfl, h1, h2⟩ := dta_cons h
  obtain ⟨l, rfl, h3⟩ := strsD_of h1
  exact ⟨l, vs, rfl, h3, h2⟩
theorem two_inv {K : PySem.W.Frag} {H : Hp} {v : V} {s z : Str} (h : Dt K H v (.tuple [.str s, .str z])) : ∃ a, v = .ref a ∧ SqT K H a [.str s, .str z] := by
  obtain ⟨a, xs, e, h1, h2⟩ := dt_tup h
  obtain ⟨ys, e2, h3⟩ := dta_one h2
  obtain ⟨zs, e3, h4⟩ := dta_one h3
  have e4 := dta_nil h4
  rw [e4] at e3
  rw [e3] at e2
  rw [e2] at h1
  exact ⟨a, e, h1⟩
theorem three_inv {K : PySem.W.Frag} {H : Hp} {v : V} {s z w : Str} (h : Dt K H v (.tuple [.str s, .str z, .str w])) : ∃ a, v = .ref a ∧ SqT K H a [.str s, .str z, .str w] := by
  obtain ⟨a, xs, e, h1, h2⟩ := dt_tup h
  obtain ⟨ys, e2, h3⟩ := dta_one h2
  obtain ⟨zs, e3, h4⟩ := dta_one h3
  obtain ⟨us, e4, h5⟩ := dta_one h4
  have e5 := dta_nil h5
  rw [e5] at e4
  rw [e4] at e3
  rw [e3] at e2
  rw [e2] at h1
  exact ⟨a, e, h1⟩
theorem ActAt.of {K : PySem.W.Frag} {H : Hp} {v : V} {x : Action} (h : Dt K H v x.d) : ∃ a, v = .ref a ∧ ActAt K H a x := by
  cases x with
  | write p ls =>
    obtain ⟨a, xs, e, h1, h2⟩ := dt_tup h
    obtain ⟨ys, e2, h3⟩ := dta_one h2
    obtain ⟨zs, e3, h4⟩ := dta_one h3
    obtain ⟨l, us, e4, g1, h5⟩ := dta_strsD h4
    have e5 := dta_nil h5
    rw [e5] at e4
    rw [e4] at e3
    rw [e3] at e2
    rw [e2] at h1
    exact ⟨a, e, l, h1, g1⟩
  | splice p old new =>
    obtain ⟨a, xs, e, h1, h2⟩ := dt_tup h
    obtain ⟨ys, e2, h3⟩ := dta_one h2
    obtain ⟨zs, e3, h4⟩ := dta_one h3
    obtain ⟨l, us, e4, g1, h5⟩ := dta_strsD h4
    obtain ⟨m, ws, e5, g2, h6⟩ := dta_strsD h5
    have e6 := dta_nil h6
    rw [e6] at e5
    rw [e5] at e4
    rw [e4] at e3
    rw [e3] at e2
    rw [e2] at h1
    exact ⟨a, e, l, m, h1, g1, g2⟩
  | find z w => exact three_inv h
  | move z w => exact three_inv h
  | _ => exact two_inv h
theorem fit_str {z : Str} {w : Nat} (h : okS z = true) (hl : z.length ≤ w) (hw : w ≤ 252) : Fit 1 252 (.str z) := (Fit.str h hl).mono (by omega) hw
theorem place_ok {z : Str} (h : isPlaceS z = true) : okS z = true := by
  unfold isPlaceS at h
  rw [Bool.or_eq_true, decide_eq_true_eq] at h
  rcases h with rfl | h
  · decide +kernel
  · exact path_ok h
theorem word_ok {z : Str} (h : isWordS z = true) : okS z = true := by
  unfold isWordS at h
  simp only [Bool.and_eq_true] at h
  exact plain_ok h.2
theorem fit_lns {ls : List Str} (h : isLinesS ls = true) : Fit 1 252 (strsD ls) := by
  obtain ⟨l1, l2⟩ := lines_len h
  exact Fit.strs (w := 20) (m := 12) (fun y hy => ⟨plain_ok (l2 y hy).2, (l2 y hy).1⟩) l1
theorem fit_list {ds : List PyData} (h : ∀ d ∈ ds, Fit 1 252 d) (hl : ds.length ≤ 4) : Fit 2 1012 (.tuple ds) := Fit.tup h hl
theorem kw_ok : ∀ z ∈ (["read", "kind", "list", "find", "count", "write", "remove", "move", "splice"] : List Str), okS z = true ∧ z.length ≤ 6 := by decide +kernel
theorem fit_kw (z : Str) (h : z ∈ (["read", "kind", "list", "find", "count", "write", "remove", "move", "splice"] : List Str)) : Fit 1 252 (.str z) := fit_str (kw_ok z h).1 (kw_ok z h).2 (by omega)
theorem fit_action {x : Action} (h : x.bad = none) : Fit 2 1012 x.d := by
  have pth : ∀ {p : Str}, isPathS p = true → Fit 1 252 (.str p) := fun hp => fit_str (path_ok hp) (path_len hp) (by omega)
  have plc : ∀ {p : Str}, isPlaceS p = true → Fit 1 252 (.str p) := fun hp => fit_str (place_ok hp) (place_len hp) (by omega)
  have wrd : ∀ {p : Str}, isWordS p = true → Fit 1 252 (.str p) := fun hp => fit_str (word_ok hp) (word_len hp) (by omega)
  have two : ∀ {a b : PyData}, Fit 1 252 a → Fit 1 252 b → Fit 2 1012 (.tuple [a, b]) := fun ha hb => fit_list (fun d hd => by
    simp only [List.mem_cons, List.not_mem_nil, or_false] at hd
    rcases hd with rfl | rfl <;> assumption) (by simp)
  have three : ∀ {a b c : PyData}, Fit 1 252 a → Fit 1 252 b → Fit 1 252 c → Fit 2 1012 (.tuple [a, b, c]) := fun ha hb hc => fit_list (fun d hd => by
    simp only [List.mem_cons, List.not_mem_nil, or_false] at hd
    rcases hd with rfl | rfl | rfl <;> assumption) (by simp)
  cases x with
  | read p => simp only [Action.bad] at h; split at h; exact two (fit_kw _ (by decide +kernel)) (pth ‹_›); cases h
  | kind p => simp only [Action.bad] at h; split at h; exact two (fit_kw _ (by decide +kernel)) (plc ‹_›); cases h
  | list p => simp only [Action.bad] at h; split at h; exact two (fit_kw _ (by decide +kernel)) (plc ‹_›); cases h
  | count p => simp only [Action.bad] at h; split at h; exact two (fit_kw _ (by decide +kernel)) (plc ‹_›); cases h
  | remove p => simp only [Action.bad] at h; split at h; exact two (fit_kw _ (by decide +kernel)) (pth ‹_›); cases h
  | find p w =>
    simp only [Action.bad] at h
    split at h
    · split at h
      · exact three (fit_kw _ (by decide +kernel)) (plc ‹_›) (wrd ‹_›)
      · cases h
    · cases h
  | move p t =>
    simp only [Action.bad] at h
    split at h
    · split at h
      · exact three (fit_kw _ (by decide +kernel)) (pth ‹_›) (pth ‹_›)
      · cases h
    · cases h
  | write p ls =>
    simp only [Action.bad] at h
    split at h
    · split at h
      · exact three (fit_kw _ (by decide +kernel)) (pth ‹_›) (fit_lns ‹_›)
      · cases h
    · cases h
  | splice p old new =>
    simp only [Action.bad] at h
    split at h
    · split at h
      · split at h
        · rename_i h1 h2 h3
          rw [Bool.and_eq_true] at h2
          exact fit_list (fun d hd => by
            simp only [List.mem_cons, List.not_mem_nil, or_false] at hd
            rcases hd with rfl | rfl | rfl | rfl
            · exact fit_kw _ (by decide +kernel)
            · exact pth h1
            · exact fit_lns h2.1
            · exact fit_lns h3) (by simp)
        · cases h
      · cases h
    · cases h
end K45



namespace K45
open PySem L2 Sa
local macro_rules | `(tactic| walk_at "s1") => `(tactic| first | (with_reducible apply c_dgetK))
local macro_rules | `(tactic| walk_at "s1") => `(tactic| (with_reducible apply c_raiseO))
abbrev Entry := Action × PyData
def entryD (e : Entry) : PyData := .tuple [e.1.d, e.2]
def jourD (js : List Entry) : PyData := .tuple (js.map entryD)
structure EntOk (e : Entry) : Prop where
  act : e.1.bad = none
  ans : Fit 3 30000 e.2
def stepJ (s : List Entry × List File) (x : Action) : List Entry × List File := (s.1 ++ [(x, (actF s.2 x).1)], (actF s.2 x).2)
def runF (fs : List File) (xs : List Action) : List Entry × List File := xs.foldl stepJ ([], fs)
def leadF (fs : List File) (xs : List Action) : List File := xs.foldl (fun fs x => (actF fs x).2) fs
theorem run_snoc (fs : List File) (xs : List Action) (x : Action) : runF fs (xs ++ [x]) = stepJ (runF fs xs) x := by unfold runF; rw [List.foldl_append]; rfl
theorem lead_snoc (fs : List File) (xs : List Action) (x : Action) : leadF fs (xs ++ [x]) = (actF (leadF fs xs) x).2 := by unfold leadF; rw [List.foldl_append]; rfl
theorem run_two : ∀ (xs : List Action) (s : List Entry × List File), (xs.foldl stepJ s).2 = xs.foldl (fun fs x => (actF fs x).2) s.2 ∧ (xs.foldl stepJ s).1.length = s.1.length + xs.length ∧ (xs.foldl stepJ s).1.map Prod.fst = s.1.map Prod.fst ++ xs
  | [], s => ⟨rfl, rfl, by simp⟩
  | x :: r, s => by
    obtain ⟨h1, h2, h3⟩ := run_two r (stepJ s x)
    refine ⟨h1, ?_, ?_⟩
    · rw [List.foldl_cons, h2]; unfold stepJ; simp only [List.length_append, List.length_cons, List.length_nil]; omega
    · rw [List.foldl_cons, h3]; unfold stepJ; simp
theorem run_lead (fs : List File) (xs : List Action) : (runF fs xs).2 = leadF fs xs := (run_two xs _).1
theorem run_ok : ∀ (xs : List Action) (s : List Entry × List File), (∀ x ∈ xs, x.bad = none) → GoodP s.2 → (∀ e ∈ s.1, EntOk e) → (∀ e ∈ (xs.foldl stepJ s).1, EntOk e) ∧ GoodP (xs.foldl stepJ s).2
  | [], s, _, hg, he => ⟨he, hg⟩
  | x :: r, s, hx, hg, he => by
    have hb := hx x (List.mem_cons_self ..)
    refine run_ok r (stepJ s x) (fun y hy => hx y (List.mem_cons_of_mem _ hy)) (hg.act hb) fun e h => ?_
    rcases List.mem_append.mp h with h | h
    · exact he e h
    · rw [List.mem_singleton.mp h]; exact ⟨hb, fit_act hg x⟩
theorem runF_ok {fs : List File} (G : GoodP fs) {xs : List Action} (h : ∀ x ∈ xs, x.bad = none) : (∀ e ∈ (runF fs xs).1, EntOk e) ∧ GoodP (runF fs xs).2 := run_ok xs ([], fs) h G (by simp)
section
variable {K : PySem.W.Frag} {H : Hp} {Q : VK}
theorem dta_acts {K : PySem.W.Frag} {H : Hp} : ∀ {xs : List Action} {vs : List V}, DtAll K H vs (xs.map Action.d) → ∃ as : List Addr, vs = as.map V.ref ∧ as.length = xs.length ∧ ∀ (i : Nat) (x : Action), xs[i]? = some x → ∃ a, as[i]? = some a ∧ ActAt K H a x
  | [], vs, h => ⟨[], dta_nil h, rfl, by simp⟩
  | x :: r, vs, h => by
    obtain ⟨v, ws, rfl, h1, h2⟩ := dta_cons h
    obtain ⟨a, rfl, h3⟩ := ActAt.of h1
    obtain ⟨as, rfl, hl, h4⟩ := dta_acts h2
    refine ⟨a :: as, rfl, by rw [List.length_cons, List.length_cons, hl], fun i y hy => ?_⟩
    cases i with
    | zero => simp at hy; subst hy; exact ⟨a, rfl, h3⟩
    | succ i => exact h4 i y hy
end
end K45



namespace K45
open PySem L2 Sa
local macro_rules | `(tactic| walk_at "s1") => `(tactic| first | (with_reducible apply c_dgetK))
local macro_rules | `(tactic| walk_at "s1") => `(tactic| (with_reducible apply c_raiseO))
section
variable {P : Program} {w : World} {K : PySem.W.Frag} {mg : Str → Option Value} {base : Heap}
def spRun (K : PySem.W.Frag) : Sp := fun vs H Q _ => ∃ (t a : Addr) (xs : List Action) (fs : List File), vs = [.ref t, .ref a] ∧ TreeG K H t fs ∧ Dt K H (.ref a) (.tuple (xs.map Action.d)) ∧ xs.length ≤ 20000 ∧ (∀ x ∈ xs, x.bad = none) ∧
  ∀ p j t' H', Kp [] H H' → SqT K H' p [.ref j, .ref t'] → Dt K H' (.ref j) (jourD (runF fs xs).1) → TreeG K H' t' (runF fs xs).2 → Q (.ref p) H'
theorem sc_run : FnScope ["tree", "actions", "journal", "action", "answer"] ["tree", "actions"] (defScope s_run) := ⟨rfl, rfl, rfl, by decide +kernel, rfl, by decide +kernel, by decide +kernel⟩
theorem bn_run : BindN "run" s_run ["tree", "actions"] := fun _ _ _ _ _ _ us hl => match us, hl with | [_, _], _ => rfl
theorem b_run (T : TX K mg) : BodyX P w K mg base "run" s_run ["tree", "actions", "journal", "action", "answer"] 10 (spRun K) := by
  intro cdv A outer s H vs Q E h X hr tk
  obtain ⟨t, a, xs, fs, rfl, ht, hd, hl, hb, q⟩ := h
  have D_act := D_act (P := P) (w := w) (base := base) T
  refine ⟨_, (pss_cons (ps_set (i := 2) sc_run.nd rfl (Or.inl rfl) (pe_lst pa_nil)) (pss_cons (ps_for (passes_of rfl) rfl (pi_tupU (K := K) (pv 1)) (pg_name (i := 3) sc_run.nd rfl (Or.inl rfl)) (pss_cons (ps_asg (pe_callX D_act hr tk (pa_cons (pv 0) (pa_cons (pv 3) pa_nil))) (pg_tupU (K := K) (n := 2) rfl (pgs_cons (pg_name (i := 4) sc_run.nd rfl (Or.inl rfl)) (pgs_cons (pg_name (i := 0) sc_run.nd rfl (Or.inl rfl)) pgs_nil)))) (pss_one (ps_expr (pe_appendU (K := K) (pv 2) (pe_tup (pa_cons (pv 3) (pa_cons (pv 4) pa_nil)))))))) (pss_one (ps_ret (pe_tup (pa_cons (pe_callTy (cr_tuple (K := K)) rfl (T.free 28) (by decide +kernel) (pa_cons (pv 2) pa_nil)) (pa_cons (pv 0) pa_nil))))))), ?_⟩
  obtain ⟨a', vs, e0, hvs, hds⟩ := dt_tup hd
  injection e0 with e0
  subst e0
  obtain ⟨as, rfl, hal, has⟩ := dta_acts hds
  walk_at "st"
  walk_at "nw"
  intro l H1 N1
  walk_at "st"
  have hv1 := SqT.kp N1.kp hvs
  first | refine ⟨a, rfl, ⟨_, hv1⟩, ?_⟩ | skip
  refine forQ (itn_t (ys := as) (u := V.ref)) (fun i σ H' => ∃ t' v3 v4 ws, σ = [some (.ref t'), some (.ref a), some (.ref l), v3, v4] ∧ Kp [] H H' ∧ H' l = some (.lst ws) ∧ DtAll K H' ws ((runF fs (xs.take i)).1.map entryD) ∧ ws.length ≤ i ∧ TreeG K H' t' (runF fs (xs.take i)).2)
    ⟨t, _, _, [], rfl, N1.kp, N1.at_, .nil, Nat.le_refl _, ht.kp N1.kp⟩ (by rintro i σ H' ⟨_, _, _, _, _, e, _⟩; exact SqT.kp e hvs) ?_ ?_
  · rintro i y σ _ H2 hi ⟨t', v3, v4, ws, rfl, e2, hl2, hws, hwl, ht'⟩ ⟨rfl, ai, hai, rfl⟩
    obtain ⟨x, hx⟩ : ∃ x, xs[i]? = some x := ⟨_, List.getElem?_eq_getElem (by omega)⟩
    obtain ⟨ai', hai', hact⟩ := has i x hx
    rw [hai] at hai'
    obtain rfl := Option.some.inj hai'
    have hxb := hb x (List.mem_of_getElem? hx)
    have et : runF fs (xs.take (i + 1)) = stepJ (runF fs (xs.take i)) x := by rw [take_succ' hx, run_snoc]
    walk_at "st"
    refine ⟨t', ai, x, _, rfl, ht', hact.kp e2, bad_sane hxb, fun _ => fun p v t2 H3 e3 hp hv hT => ?_, fun nm h => by rw [hxb] at h; cases h⟩
    walk_at "st"
    walk_at "nw"
    intro p4 H4 N4
    have hl4 := N4.keep (e3.at0 hl2)
    refine ⟨l, _, _, rfl, rfl, hl4, by rw [sizeLine_eq]; omega, ?_⟩
    walk_at "st"
    have kt : Kt H4 (upd H4 l (.lst (ws ++ [V.ref p4]))) := Kt.upd1 (NoT.lst hl4)
    have k4 : Kp [] H H4 := (e2.trans e3).trans N4.kp
    refine ⟨t2, _, _, ws ++ [V.ref p4], rfl, k4.fresh_mut N1.fr, upd_same, ?_, by rw [List.length_append, List.length_singleton]; omega, ?_⟩
    · rw [et]
      unfold stepJ
      rw [List.map_append]
      refine dta_snoc (DtAll.kt ((e3.trans N4.kp).kt.trans kt) hws) (.tup (SqT.kt kt (SqT.of N4.at_)) (.cons (Dt.kt ((e3.trans N4.kp).kt.trans kt) (hact.kp e2).dt) (.cons (Dt.kt (N4.kp.kt.trans kt) hv) .nil)))
    · rw [et]
      obtain ⟨⟨dx, dd, ls, g1, g2, g3, g4, g5⟩, gg⟩ := hT.kp N4.kp
      have n1 : t2 ≠ l := fun z => by rw [z, hl4] at g1; cases g1
      have n2 : dd ≠ l := fun z => by rw [z, hl4] at g2; cases g2
      exact ⟨⟨dx, dd, ls, upd_other n1 g1, upd_other n2 g2, fun r hr => SqT.kt kt (g3 r hr), g4, g5⟩, gg⟩
  · rintro σ H2 ⟨t', v3, v4, ws, rfl, e2, hl2, hws, hwl, ht'⟩
    rw [hal, List.take_length] at hws ht'
    walk_at "st"
    refine c_tupleL (SqL.of hl2) fun p3 H3 N3 => ?_
    walk_at "st"
    walk_at "nw"
    intro p4 H4 N4
    exact q p4 p3 t' H4 ((e2.trans N3.kp).trans N4.kp) (SqT.of N4.at_) (.tup (SqT.of (N4.keep N3.at_)) (DtAll.kp hws (N3.kp.trans N4.kp))) ((ht'.kp N3.kp).kp N4.kp)
theorem D_run (T : TX K mg) : DefAt P w K mg base (L2.CX P w) "run" 11 ["tree", "actions"] (spRun K) :=
  def_ofX T 21 43 sc_run bn_run (by walk_at "len") (b_run T)
end
end K45



namespace K45
open PySem L2 Sa
end K45



namespace K45
open PySem L2 Sa
section
variable {P : Program} {w : World} {K : PySem.W.Frag} {mg : Str → Option Value} {base : Heap}
theorem sc_TextFault___init__ : FnScope ["self", "line", "column", "words"] ["self", "line", "column", "words"] (defScope s_TextFault___init__) := ⟨rfl, rfl, rfl, by decide +kernel, rfl, by decide +kernel, by decide +kernel⟩
theorem bn_TextFault___init__ : BindM "__init__" "TextFault.__init__" s_TextFault___init__ ["self", "line", "column", "words"] := fun _ _ _ _ _ _ us hl => match us, hl with | [_, _, _, _], _ => rfl
theorem b_tft (T : TX K mg) : BodyM P w K mg base "TextFault" "__init__" "TextFault.__init__" s_TextFault___init__ ["self", "line", "column", "words"] 1 (spInit3 K (He.ga K "TextFault") "line" "column" "words") := by
  intro cdv A outer s H vs Q E h X hr
  obtain ⟨a, u, v, x, rfl, ha, q⟩ := h
  refine ⟨_, (pss_cons (ps_ost (pv 0) (pv 1)) (pss_cons (ps_ost (pv 0) (pv 2)) (pss_one (ps_ost (pv 0) (pv 3))))), ?_⟩
  have hc := T.oex 7
  have n1 := He.noat_ok (T.fact 128)
  have n2 := He.noat_ok (T.fact 129)
  have n3 := He.noat_ok (T.fact 130)
  walk_at "st"
  refine c_ost ?_
  walk_at "st"
  refine ⟨a, He.ga K "TextFault", rfl, hc, n1, .inl ⟨ha, fun dx h1 h2 => ?_⟩⟩
  walk_at "st"
  refine c_ost ?_
  walk_at "st"
  refine ⟨a, He.ga K "TextFault", rfl, hc, n2, .inr ⟨dx, _, upd_same, by rw [upd_ne h2, upd_same], by simp, ?_⟩⟩
  dsimp only
  refine c_ost ?_
  walk_at "st"
  refine ⟨a, He.ga K "TextFault", rfl, hc, n3, .inr ⟨dx, _, by rw [upd_ne h2.symm, upd_same], upd_same, by simp, ?_⟩⟩
  exact q dx h1 h2
theorem E_TextFault (T : TX K mg) : ErrC3 P w K mg base "TextFault" "line" "column" "words" :=
  ⟨T.glo 48, T.oex 7, T.xfc 8, He.noat_ok (T.fact 128), He.noat_ok (T.fact 129), He.noat_ok (T.fact 130), _,
    meth_of T 62 100 sc_TextFault___init__ bn_TextFault___init__ (fun vs H Q E h => by obtain ⟨b, d, _, _, rfl, _⟩ := h; rfl) (b_tft T)⟩
end
local macro_rules | `(tactic| walk_at "s1") => `(tactic| (with_reducible apply c_raiseE3))
end K45



namespace K45
open PySem L2 Sa
structure Tok where
  kind : Str
  text : Str
  line : Int
  col : Int
structure Flt where
  line : Int
  col : Int
  words : Str
def signsL : List Nat := (PySem.Str.ofString "()[]").cps.toList
def endsL : List Nat := (PySem.Str.ofString " \n()[]\"").cps.toList
inductive Md where
  | nrm | wd (w : List Nat) (l c : Int) | quo (q : List Nat) (l c : Int)
def wordT (w : List Nat) (l c : Int) : Tok := ⟨"word", txt w, l, c⟩
def quoT (w : List Nat) (l c : Int) : Tok := ⟨"quoted", txt w, l, c⟩
def signT (x : Nat) (l c : Int) : Tok := ⟨"sign", txt [x], l, c⟩
def endT (l c : Int) : Tok := ⟨"end", "", l, c⟩
def fresh (x : Nat) (l c : Int) : List Tok × Md :=
  if x = 10 then ([], .nrm) else if x = 34 then ([], .quo [] l c) else if x ∈ signsL then ([signT x l c], .nrm) else if x = 32 then ([], .nrm) else ([], .wd [x] l c)
def stepM (m : Md) (x : Nat) (l c : Int) : Option (List Tok × Md) := match m with
  | .nrm => some (fresh x l c)
  | .wd w l0 c0 => if x ∈ endsL then some (wordT w l0 c0 :: (fresh x l c).1, (fresh x l c).2) else some ([], .wd (w ++ [x]) l0 c0)
  | .quo q l0 c0 => if x = 34 then some ([quoT q l0 c0], .nrm) else if x = 10 then none else some ([], .quo (q ++ [x]) l0 c0)
def lastM (m : Md) (l c : Int) : Except Flt (List Tok) := match m with
  | .nrm => .ok [endT l c]
  | .wd w l0 c0 => .ok [wordT w l0 c0, endT l c]
  | .quo _ _ _ => .error ⟨l, c, "text is not closed"⟩
def nxL (x : Nat) (l : Int) : Int := if x = 10 then l + 1 else l
def nxC (x : Nat) (c : Int) : Int := if x = 10 then 1 else c + 1
def spl : Md → List Nat → Int → Int → Except Flt (List Tok)
  | m, [], l, c => lastM m l c
  | m, x :: r, l, c => match stepM m x l c with
    | none => .error ⟨l, c, "text is not closed"⟩
    | some (es, m') => (spl m' r (nxL x l) (nxC x c)).map (es ++ ·)
theorem map_nil (e : Except Flt (List Tok)) : e.map (([] : List Tok) ++ ·) = e := by cases e <;> rfl
theorem map_app (e : Except Flt (List Tok)) (a b : List Tok) : (e.map (b ++ ·)).map (a ++ ·) = e.map ((a ++ b) ++ ·) := by
  cases e with
  | error f => rfl
  | ok ts => show Except.ok (a ++ (b ++ ts)) = Except.ok ((a ++ b) ++ ts); rw [List.append_assoc]
def quoB (x : Nat) : Bool := decide (x ≠ 34) && decide (x ≠ 10)
def wdB (x : Nat) : Bool := !decide (x ∈ endsL)
theorem spl_step {m m' : Md} {x : Nat} {r : List Nat} {l c : Int} {es : List Tok} (e : stepM m x l c = some (es, m')) : spl m (x :: r) l c = (spl m' r (nxL x l) (nxC x c)).map (es ++ ·) := by rw [spl, e]
theorem spl_none {m : Md} {x : Nat} {r : List Nat} {l c : Int} (e : stepM m x l c = none) : spl m (x :: r) l c = .error ⟨l, c, "text is not closed"⟩ := by rw [spl, e]
theorem spl_nl {r : List Nat} {l c : Int} : spl .nrm (10 :: r) l c = spl .nrm r (l + 1) 1 := by
  show (spl .nrm r (l + 1) 1).map ([] ++ ·) = _
  exact map_nil _
theorem spl_sp {r : List Nat} {l c : Int} : spl .nrm (32 :: r) l c = spl .nrm r l (c + 1) := by
  have e : stepM .nrm 32 l c = some ([], .nrm) := by
    show some (fresh 32 l c) = _
    unfold fresh
    rw [if_neg (by decide), if_neg (by decide), if_neg (by decide +kernel), if_pos rfl]
  rw [spl_step e]
  exact map_nil _
theorem signs_ne {x : Nat} (h : x ∈ signsL) : x ≠ 10 ∧ x ≠ 34 ∧ x ≠ 32 := (by decide +kernel : ∀ x ∈ signsL, x ≠ 10 ∧ x ≠ 34 ∧ x ≠ 32) x h
theorem spl_sg {x : Nat} {r : List Nat} {l c : Int} (h : x ∈ signsL) : spl .nrm (x :: r) l c = (spl .nrm r l (c + 1)).map ([signT x l c] ++ ·) := by
  obtain ⟨h1, h2, h3⟩ := signs_ne h
  have e : stepM .nrm x l c = some ([signT x l c], .nrm) := by
    show some (fresh x l c) = _
    unfold fresh
    rw [if_neg h1, if_neg h2, if_pos h]
  rw [spl_step e]
  show (spl .nrm r (nxL x l) (nxC x c)).map _ = _
  unfold nxL nxC
  rw [if_neg h1, if_neg h1]
theorem spl_q0 {r : List Nat} {l c : Int} : spl .nrm (34 :: r) l c = spl (.quo [] l c) r l (c + 1) := by
  show (spl (.quo [] l c) r l (c + 1)).map ([] ++ ·) = _
  exact map_nil _
theorem ends_iff {x : Nat} : x ∈ endsL ↔ x = 32 ∨ x = 10 ∨ x = 34 ∨ x ∈ signsL := by
  have e1 : endsL = [32, 10, 40, 41, 91, 93, 34] := by decide +kernel
  have e2 : signsL = [40, 41, 91, 93] := by decide +kernel
  rw [e1, e2]
  simp only [List.mem_cons, List.not_mem_nil, or_false]
  omega
theorem spl_w0 {x : Nat} {r : List Nat} {l c : Int} (h : x ∉ endsL) : spl .nrm (x :: r) l c = spl (.wd [x] l c) r l (c + 1) := by
  have h' := h
  rw [ends_iff] at h'
  simp only [not_or] at h'
  obtain ⟨h1, h2, h3, h4⟩ := h'
  have e : stepM .nrm x l c = some ([], .wd [x] l c) := by
    show some (fresh x l c) = _
    unfold fresh
    rw [if_neg h2, if_neg h3, if_neg h4, if_neg h1]
  rw [spl_step e]
  show (spl (.wd [x] l c) r (nxL x l) (nxC x c)).map ([] ++ ·) = _
  rw [map_nil]
  unfold nxL nxC
  rw [if_neg h2, if_neg h2]
theorem spl_wd : ∀ (r w : List Nat) (l0 c0 l c : Int), spl (.wd w l0 c0) r l c = (spl .nrm (r.dropWhile wdB) l (c + (r.takeWhile wdB).length)).map ([wordT (w ++ r.takeWhile wdB) l0 c0] ++ ·)
  | [], w, l0, c0, l, c => by
    show lastM _ l c = _
    rw [List.takeWhile_nil, List.dropWhile_nil, List.append_nil]
    show Except.ok [wordT w l0 c0, endT l c] = Except.ok ([wordT w l0 c0] ++ [endT l (c + ((0 : Nat) : Int))])
    rw [show c + ((0 : Nat) : Int) = c from by omega]
    rfl
  | x :: r, w, l0, c0, l, c => by
    by_cases h : x ∈ endsL
    · have hb : wdB x = false := by unfold wdB; simp [h]
      rw [List.takeWhile_cons, List.dropWhile_cons, hb]
      simp only [Bool.false_eq_true, if_false, List.append_nil, List.length_nil]
      rw [show c + ((0 : Nat) : Int) = c from by omega]
      have e : stepM (.wd w l0 c0) x l c = some (wordT w l0 c0 :: (fresh x l c).1, (fresh x l c).2) := by
        show (if x ∈ endsL then _ else _) = _
        rw [if_pos h]
      rw [spl_step e]
      show (spl (fresh x l c).2 r (nxL x l) (nxC x c)).map ((wordT w l0 c0 :: (fresh x l c).1) ++ ·) = ((spl (fresh x l c).2 r (nxL x l) (nxC x c)).map ((fresh x l c).1 ++ ·)).map ([wordT w l0 c0] ++ ·)
      rw [map_app]
      rfl
    · have hb : wdB x = true := by unfold wdB; simp [h]
      have hx : x ≠ 10 := fun e => h (ends_iff.mpr (.inr (.inl e)))
      rw [List.takeWhile_cons, List.dropWhile_cons, hb]
      simp only [if_true]
      have e : stepM (.wd w l0 c0) x l c = some ([], .wd (w ++ [x]) l0 c0) := by
        show (if x ∈ endsL then _ else _) = _
        rw [if_neg h]
      rw [spl_step e]
      show (spl (.wd (w ++ [x]) l0 c0) r (nxL x l) (nxC x c)).map ([] ++ ·) = _
      rw [map_nil, spl_wd r (w ++ [x]) l0 c0]
      unfold nxL nxC
      rw [if_neg hx, if_neg hx, List.append_assoc, List.length_cons]
      have : c + 1 + ((r.takeWhile wdB).length : Int) = c + (((r.takeWhile wdB).length + 1 : Nat) : Int) := by omega
      rw [this]
      rfl
def quoR (q r : List Nat) (l0 c0 l c : Int) : Except Flt (List Tok) := match r.dropWhile quoB with
  | 34 :: r' => (spl .nrm r' l (c + (r.takeWhile quoB).length + 1)).map ([quoT (q ++ r.takeWhile quoB) l0 c0] ++ ·)
  | _ => .error ⟨l, c + (r.takeWhile quoB).length, "text is not closed"⟩
theorem spl_quo : ∀ (r q : List Nat) (l0 c0 l c : Int), spl (.quo q l0 c0) r l c = quoR q r l0 c0 l c
  | [], q, l0, c0, l, c => by
    show Except.error (⟨l, c, _⟩ : Flt) = Except.error (⟨l, c + ((0 : Nat) : Int), _⟩ : Flt)
    rw [show c + ((0 : Nat) : Int) = c from by omega]
  | x :: r, q, l0, c0, l, c => by
    unfold quoR
    by_cases h : x = 34
    · subst h
      have hb : quoB 34 = false := rfl
      rw [List.takeWhile_cons, List.dropWhile_cons, hb]
      simp only [Bool.false_eq_true, if_false, List.append_nil, List.length_nil]
      show (spl .nrm r l (c + 1)).map ([quoT q l0 c0] ++ ·) = _
      rw [show c + ((0 : Nat) : Int) + 1 = c + 1 from by omega]
    · by_cases h2 : x = 10
      · subst h2
        have hb : quoB 10 = false := rfl
        rw [List.takeWhile_cons, List.dropWhile_cons, hb]
        show Except.error (⟨l, c, _⟩ : Flt) = Except.error (⟨l, c + ((0 : Nat) : Int), _⟩ : Flt)
        rw [show c + ((0 : Nat) : Int) = c from by omega]
      · have hb : quoB x = true := by unfold quoB; simp [h, h2]
        rw [List.takeWhile_cons, List.dropWhile_cons, hb]
        simp only [if_true]
        have e : stepM (.quo q l0 c0) x l c = some ([], .quo (q ++ [x]) l0 c0) := by
          show (if x = 34 then _ else if x = 10 then _ else _) = _
          rw [if_neg h, if_neg h2]
        rw [spl_step e]
        show (spl (.quo (q ++ [x]) l0 c0) r (nxL x l) (nxC x c)).map ([] ++ ·) = _
        rw [map_nil, spl_quo r (q ++ [x]) l0 c0]
        unfold nxL nxC quoR
        rw [if_neg h2, if_neg h2, List.append_assoc, List.length_cons]
        have : c + 1 + ((r.takeWhile quoB).length : Int) = c + (((r.takeWhile quoB).length + 1 : Nat) : Int) := by omega
        rw [this]
        rfl
def Fin (ts : List Tok) : Prop := ∃ (us : List Tok) (l c : Int), ts = us ++ [endT l c]
theorem Fin.app {us ts : List Tok} (h : Fin ts) : Fin (us ++ ts) := by
  obtain ⟨vs, l, c, rfl⟩ := h
  exact ⟨us ++ vs, l, c, by rw [List.append_assoc]⟩
theorem Fin.ne {ts : List Tok} (h : Fin ts) : ts ≠ [] := by
  obtain ⟨vs, l, c, rfl⟩ := h
  simp
theorem Fin.tail {t : Tok} {ts : List Tok} (h : Fin (t :: ts)) (hk : t.kind ≠ "end") : Fin ts := by
  obtain ⟨vs, l, c, e⟩ := h
  cases vs with
  | nil =>
    simp only [List.nil_append, List.cons.injEq] at e
    rw [e.1] at hk
    exact absurd rfl hk
  | cons v r =>
    simp only [List.cons_append, List.cons.injEq] at e
    exact ⟨r, l, c, e.2⟩
theorem spl_fin : ∀ {m : Md} {r : List Nat} {l c : Int} {ts : List Tok}, spl m r l c = .ok ts → Fin ts
  | m, [], l, c, ts, h => by
    have h : lastM m l c = .ok ts := h
    cases m with
    | nrm => injection h with h; exact ⟨[], l, c, h.symm⟩
    | wd w l0 c0 => injection h with h; exact ⟨[wordT w l0 c0], l, c, h.symm⟩
    | quo q l0 c0 => cases h
  | m, x :: r, l, c, ts, h => by
    cases e : stepM m x l c with
    | none => rw [spl_none e] at h; cases h
    | some p =>
      obtain ⟨es, m'⟩ := p
      rw [spl_step e] at h
      cases e2 : spl m' r (nxL x l) (nxC x c) with
      | error f => rw [e2] at h; cases h
      | ok us =>
        rw [e2] at h
        injection h with h
        rw [← h]
        exact (spl_fin e2).app
end K45



namespace K45
open PySem L2 Sa
local macro_rules | `(tactic| walk_at "s1") => `(tactic| first | (with_reducible apply c_dgetK))
local macro_rules | `(tactic| walk_at "s1") => `(tactic| (with_reducible apply c_raiseO))
local macro_rules | `(tactic| walk_at "s1") => `(tactic| first | (with_reducible apply c_dgetK))
local macro_rules | `(tactic| walk_at "s1") => `(tactic| (with_reducible apply c_raiseO))
local macro_rules | `(tactic| walk_at "s1") => `(tactic| first | (with_reducible apply c_un) | (with_reducible apply c_negI))
local macro_rules | `(tactic| walk_at "s1") => `(tactic| (with_reducible apply c_raiseE3))
set_option pp.maxSteps 1500
def fltX (f : Flt) : List (Str × V) := [("words", .str f.words), ("column", .int f.col), ("line", .int f.line)]
def FltE (K : PySem.W.Frag) (E : XK) (ms : List Addr) (H : Hp) (f : Flt) : Prop := ∀ H1 d H', Kp ms H H1 → Kt H H1 → New H1 d (.xd (fltX f)) H' → E (.ref (He.ga K "TextFault")) (some d) H'
theorem FltE.kp {K : PySem.W.Frag} {E : XK} {ms : List Addr} {H H1 : Hp} {f : Flt} (h : FltE K E ms H f) (e : Kp ms H H1) (t : Kt H H1) : FltE K E ms H1 f := fun H2 d H3 e2 t2 N => h H2 d H3 (e.trans e2) (t.trans t2) N
theorem FltE.kp0 {K : PySem.W.Frag} {E : XK} {ms : List Addr} {H H1 : Hp} {f : Flt} (h : FltE K E ms H f) (e : Kp [] H H1) : FltE K E ms H1 f := h.kp e.mono e.kt
theorem tw_at {p : Nat → Bool} : ∀ {r : List Nat} {k : Nat}, k ≤ (r.takeWhile p).length →
    (k < (r.takeWhile p).length ∧ ∃ x, r[k]? = some x ∧ p x = true) ∨ (k = (r.takeWhile p).length ∧ ((r[k]? = none ∧ r.dropWhile p = []) ∨ ∃ x, r[k]? = some x ∧ p x = false ∧ ∃ r', r.dropWhile p = x :: r'))
  | [], k, h => .inr ⟨by simpa using h, .inl ⟨rfl, rfl⟩⟩
  | x :: r, k, h => by
    cases e : p x with
    | false =>
      rw [List.takeWhile_cons, e] at h ⊢
      simp only [Bool.false_eq_true, if_false, List.length_nil, Nat.le_zero_eq] at h
      subst h
      exact .inr ⟨rfl, .inr ⟨x, rfl, e, r, by rw [List.dropWhile_cons, e]; rfl⟩⟩
    | true =>
      have e1 : (x :: r).takeWhile p = x :: r.takeWhile p := by rw [List.takeWhile_cons, e]; rfl
      have e2 : (x :: r).dropWhile p = r.dropWhile p := by rw [List.dropWhile_cons, e]; rfl
      rw [e1] at h ⊢
      rw [e2]
      cases k with
      | zero => exact .inl ⟨by simp, x, rfl, e⟩
      | succ k =>
        rw [List.length_cons] at h
        rw [List.length_cons]
        rcases tw_at (p := p) (r := r) (k := k) (by omega) with ⟨h1, h2⟩ | ⟨h1, h2⟩
        · exact .inl ⟨by omega, h2⟩
        · exact .inr ⟨by omega, h2⟩
theorem tw_len {p : Nat → Bool} : ∀ r : List Nat, (r.takeWhile p).length ≤ r.length
  | [] => Nat.le_refl _
  | x :: r => by
    cases e : p x with
    | false => rw [List.takeWhile_cons, e]; simp
    | true => rw [List.takeWhile_cons, e]; simp only [if_true, List.length_cons]; have := tw_len (p := p) r; omega
theorem at_drop {xs : List Nat} {n k : Nat} : (xs.drop n)[k]? = xs[n + k]? := by rw [List.getElem?_drop]
theorem one_inj {x y : Nat} (e : (⟨#[x]⟩ : Str) = ⟨#[y]⟩) : x = y := by injection e with e; injection e with e; injection e
section
variable {P : Program} {w : World} {K : PySem.W.Frag} {mg : Str → Option Value} {base : Heap}
def spQE (K : PySem.W.Frag) : Sp := fun vs H Q E => ∃ (z : Str) (n : Nat) (l f : Int), vs = [.str z, .int n, .int l, .int f] ∧ z.length ≤ 8000 ∧ n < z.length ∧
  ((∃ r', (z.cps.toList.drop (n + 1)).dropWhile quoB = 34 :: r') → Q (.int ((n + 1 + ((z.cps.toList.drop (n + 1)).takeWhile quoB).length : Nat) : Int)) H) ∧
  ((¬ ∃ r', (z.cps.toList.drop (n + 1)).dropWhile quoB = 34 :: r') → FltE K E [] H ⟨l, ((n + 1 + ((z.cps.toList.drop (n + 1)).takeWhile quoB).length : Nat) : Int) - f + 1, "text is not closed"⟩)
theorem sc__quote_end : FnScope ["text", "at", "line", "first", "end"] ["text", "at", "line", "first"] (defScope s__quote_end) := ⟨rfl, rfl, rfl, by decide +kernel, rfl, by decide +kernel, by decide +kernel⟩
theorem bn__quote_end : BindN "_quote_end" s__quote_end ["text", "at", "line", "first"] := fun _ _ _ _ _ _ us hl => match us, hl with | [_, _, _, _], _ => rfl
theorem b__quote_end (T : TX K mg) : BodyX P w K mg base "_quote_end" s__quote_end ["text", "at", "line", "first", "end"] 3 (spQE K) := by
  intro cdv A outer s H vs Q E h X hr tk
  obtain ⟨z, n, l, f, rfl, hz, hn, q, qe⟩ := h
  have E_TextFault := E_TextFault (P := P) (w := w) (base := base) T
  refine ⟨_, (pss_cons (ps_set (i := 4) sc__quote_end.nd rfl (Or.inl rfl) (pe_op (op_addU (K := K)) (pv 1) pe_int)) (Evl.pss_cut (ps_while (passes_of rfl) (PW.pt (pw_and (pt_cmpR op_ltU (pv 4) (pe_callB (cr_len (K := K)) rfl (T.free 2) PySem.boot_len (pa_cons (pv 0) pa_nil)) (nomark _)) (pw_and (pt_cmpR (op_neU (K := K) hr.units) (pe_ix (ix_U (K := K)) (pv 0) (pv 4) (fun _ _ => rfl)) pe_str (nomark _)) (pw_and1 (pt_cmpR (op_neU (K := K) hr.units) (pe_ix (ix_U (K := K)) (pv 0) (pv 4) (fun _ _ => rfl)) pe_str (nomark _)))))) (pss_one (ps_set (i := 4) sc__quote_end.nd rfl (Or.inl rfl) (pe_op (op_addU (K := K)) (pv 4) pe_int)))) (pss_cons (ps_if (PW.pt (pw_or (pt_cmpR (op_eqU (K := K) hr.units) (pv 4) (pe_callB (cr_len (K := K)) rfl (T.free 2) PySem.boot_len (pa_cons (pv 0) pa_nil)) (nomark _)) (pw_or1 (pt_cmpR (op_neU (K := K) hr.units) (pe_ix (ix_U (K := K)) (pv 0) (pv 4) (fun _ _ => rfl)) pe_str (nomark _))))) (pss_one (ps_raiseE3 (K := K) E_TextFault hr tk (pa_cons (pv 2) (pa_cons (pe_op (op_addU (K := K)) (pe_op op_subU (pv 4) (pv 3)) pe_int) (pa_cons pe_str pa_nil))))) pss_nil) (pss_one (ps_ret (pv 4)))))), ?_⟩
  have zl : z.length = z.cps.toList.length := rfl
  have hs : z.length ≤ sizeLine := by rw [sizeLine_eq]; omega
  generalize er : z.cps.toList.drop (n + 1) = r at q qe
  have rl : r.length = z.length - (n + 1) := by rw [← er, List.length_drop, zl]
  have hat : ∀ {k x : Nat}, r[k]? = some x → atI z.cps.toList ((n + 1 + k : Nat) : Int) = some x := fun h => atI_nat (by rw [← at_drop, er]; exact h)
  walk_at "st"
  refine c_cut (fun σ' H' => σ' = [some (.str z), some (.int n), some (.int l), some (.int f), some (.int ((n + 1 + (r.takeWhile quoB).length : Nat) : Int))] ∧ H' = H) ?_ ?_
  · refine c_while (fun m σ' H' => ∃ k : Nat, k ≤ (r.takeWhile quoB).length ∧ m + k = (r.takeWhile quoB).length ∧ σ' = [some (.str z), some (.int n), some (.int l), some (.int f), some (.int ((n + 1 + k : Nat) : Int))] ∧ H' = H) (r.takeWhile quoB).length ⟨0, Nat.zero_le _, rfl, rfl, rfl⟩ ?_
    rintro m _ _ ⟨k, hk, hm, rfl, rfl⟩
    walk_at "st"
    have twl := tw_len (p := quoB) r
    rcases tw_at hk with ⟨h1, x, h2, h3⟩ | ⟨h1, ⟨h2, h3⟩ | ⟨x, h2, h3, r', h4⟩⟩
    · have : k < r.length := by omega
      refine c_iteT (by rw [decide_eq_true_eq]; omega) ?_
      unfold quoB at h3
      simp only [Bool.and_eq_true, decide_eq_true_eq] at h3
      walk_at "st"
      refine c_ixS hs (hat h2) ?_
      walk_at "st"
      refine c_iteT (by simp only [Bool.not_eq_true', decide_eq_false_iff_not]; exact fun e => h3.1 (one_inj e)) ?_
      walk_at "st"
      refine c_ixS hs (hat h2) ?_
      walk_at "st"
      refine c_iteT (by simp only [Bool.not_eq_true', decide_eq_false_iff_not]; exact fun e => h3.2 (one_inj e)) ?_
      refine c_turn ?_
      walk_at "st"
      exact ⟨m - 1, by omega, k + 1, by omega, by omega, by rw [show ((n + 1 + k : Nat) : Int) + 1 = ((n + 1 + (k + 1) : Nat) : Int) from by omega]; rfl, rfl⟩
    · have : r.length ≤ k := List.getElem?_eq_none_iff.mp h2
      refine c_iteF (by rw [decide_eq_false_iff_not]; omega) ?_
      walk_at "st"
      exact ⟨by rw [h1], rfl⟩
    · have hkr : k < r.length := (List.getElem?_eq_some_iff.mp h2).1
      refine c_iteT (by rw [decide_eq_true_eq]; omega) ?_
      walk_at "st"
      refine c_ixS hs (hat h2) ?_
      walk_at "st"
      by_cases hx : x = 34
      · subst hx
        refine c_iteF (by rfl) ?_
        walk_at "st"
        exact ⟨by rw [h1], rfl⟩
      · refine c_iteT (by simp only [Bool.not_eq_true', decide_eq_false_iff_not]; exact fun e => hx (one_inj e)) ?_
        walk_at "st"
        refine c_ixS hs (hat h2) ?_
        walk_at "st"
        have hx2 : x = 10 := by
          unfold quoB at h3
          simp only [Bool.and_eq_false_iff, decide_eq_false_iff_not, Decidable.not_not] at h3
          exact h3.resolve_left hx
        subst hx2
        refine c_iteF (by rfl) ?_
        walk_at "st"
        exact ⟨by rw [h1], rfl⟩
  · rintro _ _ ⟨rfl, rfl⟩
    walk_at "st"
    rcases tw_at (p := quoB) (Nat.le_refl (r.takeWhile quoB).length) with ⟨h1, _⟩ | ⟨_, ⟨h2, h3⟩ | ⟨x, h2, h3, r', h4⟩⟩
    · omega
    · have : r.length ≤ (r.takeWhile quoB).length := List.getElem?_eq_none_iff.mp h2
      have := tw_len (p := quoB) r
      refine c_iteT (by rw [decide_eq_true_eq]; omega) ?_
      walk_at "st"
      refine c_err3 fun d H1 N => ?_
      exact qe (fun ⟨r', e⟩ => by rw [h3] at e; cases e) _ d H1 Kp.refl Kt.refl N
    · have hkr := (List.getElem?_eq_some_iff.mp h2).1
      refine c_iteF (by rw [decide_eq_false_iff_not]; omega) ?_
      walk_at "st"
      refine c_ixS hs (hat h2) ?_
      walk_at "st"
      by_cases hx : x = 34
      · subst hx
        refine c_iteF (by rfl) ?_
        walk_at "st"
        exact q ⟨r', h4⟩
      · refine c_iteT (by simp only [Bool.not_eq_true', decide_eq_false_iff_not]; exact fun e => hx (one_inj e)) ?_
        walk_at "st"
        refine c_err3 fun d H1 N => ?_
        exact qe (fun ⟨r'', e⟩ => by rw [h4] at e; injection e with e1 _; exact hx e1) _ d H1 Kp.refl Kt.refl N
theorem D__quote_end (T : TX K mg) : DefAt P w K mg base (L2.CX P w) "_quote_end" 4 ["text", "at", "line", "first"] (spQE K) :=
  def_ofX T 25 49 sc__quote_end bn__quote_end (by walk_at "len") (b__quote_end T)
def spWE : Sp := fun vs H Q _ => ∃ (z : Str) (n : Nat), vs = [.str z, .int n] ∧ z.length ≤ 8000 ∧ n ≤ z.length ∧ Q (.int ((n + ((z.cps.toList.drop n).takeWhile wdB).length : Nat) : Int)) H
theorem sc__word_end : FnScope ["text", "at"] ["text", "at"] (defScope s__word_end) := ⟨rfl, rfl, rfl, by decide +kernel, rfl, by decide +kernel, by decide +kernel⟩
theorem bn__word_end : BindN "_word_end" s__word_end ["text", "at"] := fun _ _ _ _ _ _ us hl => match us, hl with | [_, _], _ => rfl
theorem b__word_end (T : TX K mg) : Body P w K mg base "_word_end" s__word_end ["text", "at"] 1 (spWE) := by
  intro cdv A outer s H vs Q E h X hr
  obtain ⟨z, n, rfl, hz, hn, q⟩ := h
  refine ⟨_, (pss_cons (ps_while PassesOwn.never (PW.pt (pw_and (pt_cmpR op_ltU (pv 1) (pe_callB (cr_len (K := K)) rfl (T.free 2) PySem.boot_len (pa_cons (pv 0) pa_nil)) (nomark _)) (pw_and1 (pt_cmpR (op_notInU (K := K)) (pe_ix (ix_U (K := K)) (pv 0) (pv 1) (fun _ _ => rfl)) (pe_gStr (T.str 50)) rfl)))) (pss_one (ps_set (i := 1) sc__word_end.nd rfl (Or.inl rfl) (pe_op (op_addU (K := K)) (pv 1) pe_int)))) (pss_one (ps_ret (pv 1)))), ?_⟩
  have zl : z.length = z.cps.toList.length := rfl
  have hs : z.length ≤ sizeLine := by rw [sizeLine_eq]; omega
  generalize er : z.cps.toList.drop n = r at q
  have rl : r.length = z.length - n := by rw [← er, List.length_drop, zl]
  have hat : ∀ {k x : Nat}, r[k]? = some x → atI z.cps.toList ((n + k : Nat) : Int) = some x := fun h => atI_nat (by rw [← at_drop, er]; exact h)
  have twl := tw_len (p := wdB) r
  walk_at "st"
  refine c_while (fun m σ' H' => ∃ k : Nat, k ≤ (r.takeWhile wdB).length ∧ m + k = (r.takeWhile wdB).length ∧ σ' = [some (.str z), some (.int ((n + k : Nat) : Int))] ∧ H' = H) (r.takeWhile wdB).length ⟨0, Nat.zero_le _, rfl, rfl, rfl⟩ ?_
  rintro m _ _ ⟨k, hk, hm, rfl, rfl⟩
  walk_at "st"
  rcases tw_at hk with ⟨h1, x, h2, h3⟩ | ⟨h1, ⟨h2, h3⟩ | ⟨x, h2, h3, r', h4⟩⟩
  · refine c_iteT (by rw [decide_eq_true_eq]; omega) ?_
    unfold wdB at h3
    walk_at "st"
    refine c_ixS hs (hat h2) ?_
    walk_at "st"
    refine c_iteT h3 ?_
    refine c_turn ?_
    walk_at "st"
    exact ⟨m - 1, by omega, k + 1, by omega, by omega, by rw [show ((n + k : Nat) : Int) + 1 = ((n + (k + 1) : Nat) : Int) from by omega]; rfl, rfl⟩
  · have : r.length ≤ k := List.getElem?_eq_none_iff.mp h2
    refine c_iteF (by rw [decide_eq_false_iff_not]; omega) ?_
    walk_at "st"
    rw [h1]
    exact q
  · have hkr : k < r.length := (List.getElem?_eq_some_iff.mp h2).1
    refine c_iteT (by rw [decide_eq_true_eq]; omega) ?_
    walk_at "st"
    refine c_ixS hs (hat h2) ?_
    walk_at "st"
    refine c_iteF h3 ?_
    walk_at "st"
    rw [h1]
    exact q
theorem D__word_end (T : TX K mg) : DefAt P w K mg base CX0 "_word_end" 2 ["text", "at"] (spWE) :=
  def_of T 26 51 sc__word_end bn__word_end (by walk_at "len") (b__word_end T)
def TokAt (K : PySem.W.Frag) (H : Hp) (v : V) (t : Tok) : Prop := ∃ p, v = .ref p ∧ SqT K H p [.str t.kind, .str t.text, .int t.line, .int t.col] ∧ okS t.kind = true ∧ okS t.text = true ∧ t.text.length ≤ 8000
inductive TkAll (K : PySem.W.Frag) (H : Hp) : List V → List Tok → Prop
  | nil : TkAll K H [] []
  | cons {v : V} {t : Tok} {xs : List V} {ts : List Tok} : TokAt K H v t → TkAll K H xs ts → TkAll K H (v :: xs) (t :: ts)
theorem TkAll.kt {H H' : Hp} (e : Kt H H') : ∀ {xs : List V} {ts : List Tok}, TkAll K H xs ts → TkAll K H' xs ts
  | _, _, .nil => .nil
  | _, _, .cons ⟨p, h1, h2, h3⟩ h => .cons ⟨p, h1, SqT.kt e h2, h3⟩ (h.kt e)
theorem TkAll.snoc {H : Hp} {v : V} {t : Tok} (h : TokAt K H v t) : ∀ {xs : List V} {ts : List Tok}, TkAll K H xs ts → TkAll K H (xs ++ [v]) (ts ++ [t])
  | _, _, .nil => .cons h .nil
  | _, _, .cons h1 h2 => .cons h1 (h2.snoc h)
theorem TkAll.len {H : Hp} : ∀ {xs : List V} {ts : List Tok}, TkAll K H xs ts → xs.length = ts.length
  | _, _, .nil => rfl
  | _, _, .cons _ h => by rw [List.length_cons, List.length_cons, h.len]
theorem TkAll.get {H : Hp} {t : Tok} {r : List Tok} : ∀ {xs : List V} {ts : List Tok} {k : Nat}, TkAll K H xs ts → ts.drop k = t :: r → ∃ v, xs[k]? = some v ∧ TokAt K H v t
  | _, _, 0, .cons h1 _, e => by
    simp only [List.drop_zero, List.cons.injEq] at e
    rw [← e.1]
    exact ⟨_, rfl, h1⟩
  | _, _, k + 1, .cons _ h2, e => h2.get (k := k) e
  | _, _, k, .nil, e => by simp at e
structure SplI (K : PySem.W.Frag) (z : Str) (H : Hp) (l : Addr) (n : Nat) (ln f : Int) (xs : List V) (H' : Hp) : Prop where
  fr : H l = none
  at_ : H' l = some (.lst xs)
  kp : Kp [] H H'
  ts : ∃ ts, TkAll K H' xs ts ∧ ts.length ≤ n ∧ spl .nrm z.cps.toList 1 1 = (spl .nrm (z.cps.toList.drop n) ln ((n : Int) - f + 1)).map (ts ++ ·)
  le : n ≤ z.length
theorem SplI.skip {z : Str} {H H' : Hp} {l : Addr} {n n' : Nat} {ln ln' f f' : Int} {xs : List V} (I : SplI K z H l n ln f xs H') (e : spl .nrm (z.cps.toList.drop n) ln ((n : Int) - f + 1) = spl .nrm (z.cps.toList.drop n') ln' ((n' : Int) - f' + 1))
    (h1 : n ≤ n') (h2 : n' ≤ z.length) : SplI K z H l n' ln' f' xs H' := by
  obtain ⟨ts, t1, t2, t3⟩ := I.ts
  exact ⟨I.fr, I.at_, I.kp, ⟨ts, t1, by omega, by rw [t3, e]⟩, h2⟩
theorem SplI.tok {z : Str} {H H' H2 : Hp} {l p : Addr} {n n' : Nat} {ln f : Int} {xs : List V} {t : Tok} (I : SplI K z H l n ln f xs H') (N : New H' p (.tup [.str t.kind, .str t.text, .int t.line, .int t.col]) H2)
    (k1 : okS t.kind = true) (k2 : okS t.text = true) (k3 : t.text.length ≤ 8000)
    (e : spl .nrm (z.cps.toList.drop n) ln ((n : Int) - f + 1) = (spl .nrm (z.cps.toList.drop n') ln ((n' : Int) - f + 1)).map ([t] ++ ·)) (h1 : n < n') (h2 : n' ≤ z.length) :
    SplI K z H l n' ln f (xs ++ [.ref p]) (upd H2 l (.lst (xs ++ [.ref p]))) := by
  obtain ⟨ts, t1, t2, t3⟩ := I.ts
  have hl : H2 l = some (.lst xs) := N.keep I.at_
  have kt : Kt H2 (upd H2 l (.lst (xs ++ [.ref p]))) := Kt.upd1 (NoT.lst hl)
  refine ⟨I.fr, upd_same, (I.kp.trans N.kp).fresh_mut I.fr, ⟨ts ++ [t], ?_, by rw [List.length_append, List.length_singleton]; omega, by rw [t3, e, map_app]⟩, h2⟩
  exact TkAll.snoc ⟨p, rfl, SqT.kt kt (SqT.of N.at_), k1, k2, k3⟩ ((t1.kt N.kp.kt).kt kt)
theorem okS_txt {w : List Nat} (h : ∀ x ∈ w, x < 1114112) : okS (txt w) = true := okS_iff.mpr (by rw [txt_cps]; exact h)
theorem tw_mem {p : Nat → Bool} {x : Nat} : ∀ {r : List Nat}, x ∈ r.takeWhile p → x ∈ r
  | [], h => h
  | y :: r, h => by
    rw [List.takeWhile_cons] at h
    split at h
    · rcases List.mem_cons.mp h with rfl | h
      · exact List.mem_cons_self ..
      · exact List.mem_cons_of_mem _ (tw_mem h)
    · cases h
theorem tw_drop {p : Nat → Bool} : ∀ {r : List Nat}, r.drop (r.takeWhile p).length = r.dropWhile p
  | [] => rfl
  | y :: r => by
    rw [List.takeWhile_cons, List.dropWhile_cons]
    split
    · rw [List.length_cons, List.drop_succ_cons]; exact tw_drop
    · rfl
theorem tw_take {p : Nat → Bool} : ∀ {r : List Nat}, r.take (r.takeWhile p).length = r.takeWhile p
  | [] => rfl
  | y :: r => by
    rw [List.takeWhile_cons]
    split
    · rw [List.length_cons, List.take_succ_cons, tw_take]
    · rfl
theorem cutS_mid {z : Str} {i j : Nat} (h1 : i ≤ j) (h2 : j ≤ z.length) : cutS z (some (i : Int)) (some (j : Int)) = txt ((z.cps.toList.drop i).take (j - i)) := by
  rw [txt_of z, cutS_txt, txt_cps]
  have zl : z.length = z.cps.toList.length := rfl
  rw [sIx_of (by omega), sIx_of (by omega)]
  congr 2
  · rw [Int.toNat_natCast, Int.toNat_natCast, Nat.min_eq_left (by omega), Nat.min_eq_left (by omega)]
  · rw [Int.toNat_natCast, Nat.min_eq_left (by omega)]
theorem ok_kinds : okS "quoted" = true ∧ okS "sign" = true ∧ okS "word" = true ∧ okS "end" = true ∧ okS "" = true := by decide +kernel
def spSplit (K : PySem.W.Frag) : Sp := fun vs H Q E => ∃ z : Str, vs = [.str z] ∧ z.length ≤ 8000 ∧ okS z = true ∧
  (∀ ts, spl .nrm z.cps.toList 1 1 = .ok ts → ∀ H' l xs, Kp [] H H' → H l = none → H' l = some (.lst xs) → TkAll K H' xs ts → Q (.ref l) H') ∧ (∀ f, spl .nrm z.cps.toList 1 1 = .error f → FltE K E [] H f)
theorem sc__split : FnScope ["text", "tokens", "at", "line", "first", "sign", "end"] ["text"] (defScope s__split) := ⟨rfl, rfl, rfl, by decide +kernel, rfl, by decide +kernel, by decide +kernel⟩
theorem bn__split : BindN "_split" s__split ["text"] := fun _ _ _ _ _ _ us hl => match us, hl with | [_], _ => rfl
theorem b__split (T : TX K mg) : BodyX P w K mg base "_split" s__split ["text", "tokens", "at", "line", "first", "sign", "end"] 4 (spSplit K) := by
  intro cdv A outer s H vs Q E h X hr tk
  obtain ⟨z, rfl, hz, hok, q, qe⟩ := h
  have D__quote_end := D__quote_end (P := P) (w := w) (base := base) T; have D__word_end := D__word_end (P := P) (w := w) (base := base) T
  refine ⟨_, (pss_cons (ps_set (i := 1) sc__split.nd rfl (Or.inl rfl) (pe_lst pa_nil)) (pss_cons (ps_set (i := 2) sc__split.nd rfl (Or.inl rfl) pe_int) (pss_cons (ps_set (i := 3) sc__split.nd rfl (Or.inl rfl) pe_int) (pss_cons (ps_set (i := 4) sc__split.nd rfl (Or.inl rfl) pe_int) (Evl.pss_cut (ps_while (passes_of rfl) (pt_cmpR op_ltU (pv 2) (pe_callB (cr_len (K := K)) rfl (T.free 2) PySem.boot_len (pa_cons (pv 0) pa_nil)) (nomark _)) (pss_cons (ps_set (i := 5) sc__split.nd rfl (Or.inl rfl) (pe_ix (ix_U (K := K)) (pv 0) (pv 2) (fun _ _ => rfl))) (pss_cons (ps_set (i := 6) sc__split.nd rfl (Or.inl rfl) (pe_op (op_addU (K := K)) (pv 2) pe_int)) (pss_cons (ps_if (pt_cmpR (op_eqU (K := K) hr.units) (pv 5) pe_str (nomark _)) (pss_cons (ps_set (i := 3) sc__split.nd rfl (Or.inl rfl) (pe_op (op_addU (K := K)) (pv 3) pe_int)) (pss_one (ps_set (i := 4) sc__split.nd rfl (Or.inl rfl) (pv 6)))) (pss_one (ps_if (pt_cmpR (op_eqU (K := K) hr.units) (pv 5) pe_str (nomark _)) (pss_cons (ps_set (i := 6) sc__split.nd rfl (Or.inl rfl) (pe_op (op_addU (K := K)) (pe_callX D__quote_end hr tk (pa_cons (pv 0) (pa_cons (pv 2) (pa_cons (pv 3) (pa_cons (pv 4) pa_nil))))) pe_int)) (pss_one (ps_expr (pe_appendU (K := K) (pv 1) (pe_tup (pa_cons pe_str (pa_cons (pe_slice (sl_U (K := K)) (pv 0) (po_some (pe_op (op_addU (K := K)) (pv 2) pe_int)) (po_some (pe_op op_subU (pv 6) pe_int))) (pa_cons (pv 3) (pa_cons (pe_op (op_addU (K := K)) (pe_op op_subU (pv 2) (pv 4)) pe_int) pa_nil))))))))) (pss_one (ps_if (pt_cmpR (op_inU (K := K)) (pv 5) (pe_gStr (T.str 52)) rfl) (pss_one (ps_expr (pe_appendU (K := K) (pv 1) (pe_tup (pa_cons pe_str (pa_cons (pv 5) (pa_cons (pv 3) (pa_cons (pe_op (op_addU (K := K)) (pe_op op_subU (pv 2) (pv 4)) pe_int) pa_nil)))))))) (pss_one (ps_if (pt_cmpR (op_neU (K := K) hr.units) (pv 5) pe_str (nomark _)) (pss_cons (ps_set (i := 6) sc__split.nd rfl (Or.inl rfl) (pe_callA D__word_end hr pass0 (pa_cons (pv 0) (pa_cons (pv 2) pa_nil)))) (pss_one (ps_expr (pe_appendU (K := K) (pv 1) (pe_tup (pa_cons pe_str (pa_cons (pe_slice (sl_U (K := K)) (pv 0) (po_some (pv 2)) (po_some (pv 6))) (pa_cons (pv 3) (pa_cons (pe_op (op_addU (K := K)) (pe_op op_subU (pv 2) (pv 4)) pe_int) pa_nil))))))))) pss_nil))))))) (pss_one (ps_set (i := 2) sc__split.nd rfl (Or.inl rfl) (pv 6))))))) (pss_cons (ps_expr (pe_appendU (K := K) (pv 1) (pe_tup (pa_cons pe_str (pa_cons pe_str (pa_cons (pv 3) (pa_cons (pe_op (op_addU (K := K)) (pe_op op_subU (pe_callB (cr_len (K := K)) rfl (T.free 2) PySem.boot_len (pa_cons (pv 0) pa_nil)) (pv 4)) pe_int) pa_nil))))))) (pss_one (ps_ret (pv 1))))))))), ?_⟩
  have zl : z.length = z.cps.toList.length := rfl
  have hs : z.length ≤ sizeLine := by rw [sizeLine_eq]; omega
  have hok' := okS_iff.mp hok
  walk_at "st"
  walk_at "nw"
  intro l H0 N0
  walk_at "st"
  refine c_cut (fun σ' H' => ∃ ln f xs o1 o2, SplI K z H l z.length ln f xs H' ∧ σ' = [some (.str z), some (.ref l), some (.int (z.length : Int)), some (.int ln), some (.int f), o1, o2]) ?_ ?_
  · refine c_while (fun m σ' H' => ∃ (n : Nat) (ln f : Int) (xs : List V) (o1 o2 : Option V), m + n = z.length ∧ SplI K z H l n ln f xs H' ∧ σ' = [some (.str z), some (.ref l), some (.int (n : Int)), some (.int ln), some (.int f), o1, o2]) z.length
      ⟨0, 1, 0, [], none, none, rfl, ⟨N0.fr, N0.at_, N0.kp, ⟨[], .nil, Nat.le_refl _, by rw [map_nil]; rfl⟩, Nat.zero_le _⟩, rfl⟩ ?_
    rintro m _ H1 ⟨n, ln, f, xs, o1, o2, hm, I, rfl⟩
    walk_at "st"
    refine c_ite (fun g => ?_) (fun g => ?_)
    · have hn : n < z.cps.toList.length := by omega
      obtain ⟨x, hx⟩ : ∃ x, z.cps.toList[n]? = some x := ⟨_, List.getElem?_eq_getElem hn⟩
      have hd : z.cps.toList.drop n = x :: z.cps.toList.drop (n + 1) := by rw [List.drop_eq_getElem_cons hn]; congr 1; exact (List.getElem?_eq_some_iff.mp hx).2
      have hxl : x < 1114112 := hok' x (List.mem_of_getElem? hx)
      refine c_turn ?_
      walk_at "st"
      refine c_ixS hs (atI_nat hx) ?_
      walk_at "st"
      have nx : ∀ (n' : Nat) (ln' f' : Int) (xs' : List V) (o1' o2' : Option V) (H' : Hp), n < n' → SplI K z H l n' ln' f' xs' H' → ∃ m', m' < m ∧ ∃ (n'' : Nat) (ln f : Int) (xs : List V) (o1 o2 : Option V), m' + n'' = z.length ∧ SplI K z H l n'' ln f xs H' ∧
          [some (V.str z), some (.ref l), some (.int (n' : Int)), some (.int ln'), some (.int f'), o1', o2'] = [some (.str z), some (.ref l), some (.int (n'' : Int)), some (.int ln), some (.int f), o1, o2] := fun n' ln' f' xs' o1' o2' H' h I' => by
        have := I'.le
        exact ⟨z.length - n', by omega, n', ln', f', xs', o1', o2', by omega, I', rfl⟩
      have hl1 := I.at_
      have I0 := I
      obtain ⟨ts, t1, t2, t3⟩ := I0.ts
      have xl : xs.length < sizeLine := by rw [sizeLine_eq, t1.len]; omega
      have n1 : (n : Int) + 1 = ((n + 1 : Nat) : Int) := by omega
      rw [n1]
      by_cases x1 : x = 10
      · subst x1
        refine c_iteT (by rfl) ?_
        walk_at "st"
        refine nx (n + 1) _ _ _ _ _ _ (by omega) (I.skip (by rw [hd, spl_nl]; congr 1; omega) (by omega) (by omega))
      refine c_iteF (by rw [decide_eq_false_iff_not]; exact fun e => x1 (one_inj e)) ?_
      walk_at "st"
      by_cases x2 : x = 34
      · subst x2
        refine c_iteT (by rfl) ?_
        walk_at "st"
        have sq : spl .nrm (z.cps.toList.drop n) ln ((n : Int) - f + 1) = quoR [] (z.cps.toList.drop (n + 1)) ln ((n : Int) - f + 1) ln ((n : Int) - f + 1 + 1) := by rw [hd, spl_q0, spl_quo]
        refine ⟨z, n, ln, f, rfl, hz, by omega, fun ⟨r', hr'⟩ => ?_, fun hno => ?_⟩
        · have dl : (z.cps.toList.drop (n + 1)).drop ((z.cps.toList.drop (n + 1)).takeWhile quoB).length = 34 :: r' := by rw [tw_drop, hr']
          generalize ew : (z.cps.toList.drop (n + 1)).takeWhile quoB = u at dl ⊢
          rw [List.drop_drop] at dl
          have ul : n + 1 + u.length < z.cps.toList.length := by
            have := congrArg List.length dl
            rw [List.length_drop, List.length_cons] at this
            omega
          have dr : z.cps.toList.drop (n + 1 + u.length + 1) = r' := by rw [← List.drop_drop, dl]; rfl
          walk_at "st"
          refine c_slS hs ?_
          have ec : cutS z (some ((n : Int) + 1)) (some (((n + 1 + u.length : Nat) : Int) + 1 - 1)) = txt u := by
            rw [n1, show ((n + 1 + u.length : Nat) : Int) + 1 - 1 = ((n + 1 + u.length : Nat) : Int) from by omega, cutS_mid (by omega) (by omega), show n + 1 + u.length - (n + 1) = u.length from by omega, ← ew, tw_take]
          rw [ec]
          walk_at "st"
          walk_at "nw"
          intro p H2 N2
          walk_at "st"
          rw [show ((n + 1 + u.length : Nat) : Int) + 1 = ((n + 1 + u.length + 1 : Nat) : Int) from by omega]
          refine nx _ _ _ _ _ _ _ (by omega) (I.tok (t := quoT u ln ((n : Int) - f + 1)) N2 ok_kinds.1 (okS_txt fun y hy => hok' y (List.mem_of_mem_drop (tw_mem (by rw [ew]; exact hy)))) (by show (txt u).length ≤ 8000; rw [txt_len]; omega) ?_ (by omega) (by omega))
          rw [sq]
          unfold quoR
          rw [hr', ew, dr]
          show (spl .nrm r' ln _).map _ = _
          congr 2
          omega
        · refine qe ⟨ln, _, _⟩ ?_ |>.kp0 I.kp
          rw [t3, sq]
          unfold quoR
          split
          · exact absurd ⟨_, ‹_›⟩ hno
          · show Except.error _ = Except.error _
            congr 2
            omega
      refine c_iteF (by rw [decide_eq_false_iff_not]; exact fun e => x2 (one_inj e)) ?_
      walk_at "st"
      by_cases x3 : x ∈ signsL
      · refine c_iteT (by rw [decide_eq_true_eq]; exact x3) ?_
        walk_at "st"
        walk_at "nw"
        intro p H2 N2
        walk_at "st"
        refine nx (n + 1) _ _ _ _ _ _ (by omega) (I.tok (t := signT x ln ((n : Int) - f + 1)) N2 ok_kinds.2.1 (okS_txt fun y hy => by rw [List.mem_singleton] at hy; rw [hy]; exact hxl) (by show (txt [x]).length ≤ 8000; rw [txt_len]; show 1 ≤ 8000; decide) ?_ (by omega) (by omega))
        rw [hd, spl_sg x3]
        congr 2
        omega
      refine c_iteF (by rw [decide_eq_false_iff_not]; exact x3) ?_
      walk_at "st"
      by_cases x4 : x = 32
      · subst x4
        refine c_iteF (by rfl) ?_
        walk_at "st"
        exact nx (n + 1) _ _ _ _ _ _ (by omega) (I.skip (by rw [hd, spl_sp]; congr 1; omega) (by omega) (by omega))
      refine c_iteT (by simp only [Bool.not_eq_true', decide_eq_false_iff_not]; exact fun e => x4 (one_inj e)) ?_
      have xe : x ∉ endsL := fun h => by
        rcases ends_iff.mp h with h | h | h | h
        · exact x4 h
        · exact x1 h
        · exact x2 h
        · exact x3 h
      have wb : wdB x = true := by unfold wdB; simp [xe]
      walk_at "st"
      refine ⟨z, n, rfl, hz, by omega, ?_⟩
      have twl := tw_len (p := wdB) (z.cps.toList.drop n)
      rw [List.length_drop] at twl
      generalize ew : (z.cps.toList.drop n).takeWhile wdB = u at twl ⊢
      have up : 0 < u.length := by rw [← ew, hd, List.takeWhile_cons, wb]; simp
      have dr : z.cps.toList.drop (n + u.length) = (z.cps.toList.drop (n + 1)).dropWhile wdB := by
        rw [← List.drop_drop, ← ew, tw_drop, hd, List.dropWhile_cons, wb]
        rfl
      walk_at "st"
      refine c_slS hs ?_
      rw [cutS_mid (by omega) (by omega), show n + u.length - n = u.length from by omega, ← ew, tw_take, ew]
      walk_at "st"
      walk_at "nw"
      intro p H2 N2
      walk_at "st"
      refine nx _ _ _ _ _ _ _ (by omega) (I.tok (t := wordT u ln ((n : Int) - f + 1)) N2 ok_kinds.2.2.1 (okS_txt fun y hy => hok' y (List.mem_of_mem_drop (tw_mem (by rw [ew]; exact hy)))) (by show (txt u).length ≤ 8000; rw [txt_len]; omega) ?_ (by omega) (by omega))
      have eu : u = x :: (z.cps.toList.drop (n + 1)).takeWhile wdB := by rw [← ew, hd, List.takeWhile_cons, wb]; rfl
      rw [hd, spl_w0 xe, spl_wd, dr, eu]
      rw [List.length_cons]
      show (spl .nrm _ ln _).map _ = (spl .nrm _ ln _).map _
      congr 2
      omega
    · have : n = z.length := by have := I.le; omega
      subst this
      exact ⟨_, _, _, _, _, I, rfl⟩
  · rintro _ H1 ⟨ln, f, xs, o1, o2, I, rfl⟩
    have hl1 := I.at_
    obtain ⟨ts, t1, t2, t3⟩ := I.ts
    have xl : xs.length < sizeLine := by rw [sizeLine_eq, t1.len]; omega
    walk_at "st"
    walk_at "nw"
    intro p H2 N2
    walk_at "st"
    have hl : H2 l = some (.lst xs) := N2.keep I.at_
    have kt : Kt H2 (upd H2 l (.lst (xs ++ [.ref p]))) := Kt.upd1 (NoT.lst hl)
    refine q (ts ++ [endT ln ((z.length : Int) - f + 1)]) ?_ _ l _ ((I.kp.trans N2.kp).fresh_mut I.fr) I.fr upd_same (TkAll.snoc ⟨p, rfl, SqT.kt kt (SqT.of N2.at_), ok_kinds.2.2.2.1, ok_kinds.2.2.2.2, Nat.zero_le _⟩ ((t1.kt N2.kp.kt).kt kt))
    rw [t3, List.drop_of_length_le (by omega)]
    rfl
theorem D__split (T : TX K mg) : DefAt P w K mg base (L2.CX P w) "_split" 5 ["text"] (spSplit K) :=
  def_ofX T 27 53 sc__split bn__split (by walk_at "len") (b__split T)
end
end K45



namespace K45
open PySem L2 Sa
abbrev RdF (α : Type) := Except Flt (α × List Tok)
def RdF.go {α β : Type} (e : RdF α) (f : α → List Tok → RdF β) : RdF β := match e with
  | .error x => .error x
  | .ok (x, r) => f x r
def fltAt (t : Tok) (w : Str) : Flt := ⟨t.line, t.col, w⟩
def noF : Flt := ⟨0, 0, ""⟩
def isSg (s : Str) (t : Tok) : Bool := decide ([t.kind, t.text] = ([PySem.Str.ofString "sign", s] : List Str))
def expF (s : Str) : List Tok → RdF Unit
  | [] => .error noF
  | t :: r => if isSg s t = true then .ok ((), r) else .error (fltAt t (PySem.Str.ofString "expected " ++ s))
def takeP (kind : Str) (p : Str → Bool) (words : Str) : List Tok → RdF Str
  | [] => .error noF
  | t :: r => if t.kind = kind then (if p t.text = true then .ok (t.text, r) else .error (fltAt t words)) else .error (fltAt t words)
def questL : List Str := ["read", "kind", "list", "find", "count"]
def deedL : List Str := ["write", "remove", "move", "splice"]
def wordB (z : Str) : Bool := decide (z ∈ questL) || decide (z ∈ deedL)
def placeB (z : Str) : Bool := decide (z = PySem.Str.ofString ".") || isPathS z
def quoWB (z : Str) : Bool := decide (1 ≤ z.length) && decide (z.length ≤ 12)
def toPlace (z : Str) : Str := if z = PySem.Str.ofString "." then "" else z
def wordF : List Tok → RdF Str := takeP "word" wordB "expected an action"
def pathF : List Tok → RdF Str := takeP "word" isPathS "expected a path"
def placeF (ts : List Tok) : RdF Str := (takeP "word" placeB "expected a place" ts).go fun z r => .ok (toPlace z, r)
def quoWF : List Tok → RdF Str := takeP "quoted" quoWB "expected a word"
def linesL (least : Nat) : List Str → List Tok → RdF (List Str)
  | _, [] => .error noF
  | found, t :: r =>
    if found.length < least ∨ isSg "]" t = false then
      if t.kind = "quoted" then
        if 20 < t.text.length then .error (fltAt t "expected a line")
        else if found.length = 12 then .error (fltAt t "too many lines")
        else linesL least (found ++ [t.text]) r
      else .error (fltAt t "expected a line")
    else .ok (found, r)
def linesF (least : Nat) (ts : List Tok) : RdF (List Str) := (expF "[" ts).go fun _ r => linesL least [] r
def restP (w p : Str) (ts : List Tok) : RdF Action :=
  if w = "write" then (linesF 0 ts).go fun ls r => .ok (.write p ls, r)
  else if w = "move" then (pathF ts).go fun q r => .ok (.move p q, r)
  else if w = "splice" then (linesF 1 ts).go fun old r => (linesF 0 r).go fun new r => .ok (.splice p old new, r)
  else if w = "remove" then .ok (.remove p, ts)
  else .ok (.read p, ts)
def restF (w : Str) (ts : List Tok) : RdF Action :=
  if w = "find" then (placeF ts).go fun z r => (quoWF r).go fun u r => .ok (.find z u, r)
  else if w = "kind" then (placeF ts).go fun z r => .ok (.kind z, r)
  else if w = "list" then (placeF ts).go fun z r => .ok (.list z, r)
  else if w = "count" then (placeF ts).go fun z r => .ok (.count z, r)
  else (pathF ts).go fun p r => restP w p r
def actRF (ts : List Tok) : RdF Action := (expF "(" ts).go fun _ r => (wordF r).go fun w r => (restF w r).go fun x r => (expF ")" r).go fun _ r => .ok (x, r)
def readN : Nat → List Tok → Except Flt (List Action)
  | 0, _ => .error noF
  | _ + 1, [] => .error noF
  | n + 1, t :: r => if t.kind = "end" then .ok [] else match actRF (t :: r) with
    | .error f => .error f
    | .ok (x, r') => (readN n r').map (x :: ·)
def readTx (z : Str) : Except Flt (List Action) := match spl .nrm z.cps.toList 1 1 with
  | .error f => .error f
  | .ok ts => readN ts.length ts
theorem go_ok {α β : Type} {e : RdF α} {f : α → List Tok → RdF β} {y : β} {r : List Tok} (h : e.go f = .ok (y, r)) : ∃ x r1, e = .ok (x, r1) ∧ f x r1 = .ok (y, r) := by
  cases e with
  | error x => cases h
  | ok p => exact ⟨p.1, p.2, rfl, h⟩
theorem exp_len {s : Str} {ts r : List Tok} {u : Unit} (h : expF s ts = .ok (u, r)) : r.length < ts.length := by
  cases ts with
  | nil => cases h
  | cons t r' =>
    simp only [expF] at h
    split at h
    · injection h with h; injection h with _ h; subst h; simp
    · cases h
theorem take_len {k w : Str} {p : Str → Bool} {ts r : List Tok} {u : Str} (h : takeP k p w ts = .ok (u, r)) : r.length < ts.length := by
  cases ts with
  | nil => cases h
  | cons t r' =>
    simp only [takeP] at h
    split at h
    · split at h
      · injection h with h; injection h with _ h; subst h; simp
      · cases h
    · cases h
theorem place_len' {ts r : List Tok} {u : Str} (h : placeF ts = .ok (u, r)) : r.length < ts.length := by
  obtain ⟨x, r1, h1, h2⟩ := go_ok h
  injection h2 with h2
  injection h2 with _ h2
  have := take_len h1
  rw [← h2]; exact this
theorem linesL_len {n : Nat} : ∀ {ts r : List Tok} {f ls : List Str}, linesL n f ts = .ok (ls, r) → r.length < ts.length
  | [], _, _, _, h => by cases h
  | t :: ts, r, f, ls, h => by
    rw [linesL] at h
    split at h
    · split at h
      · split at h
        · cases h
        · split at h
          · cases h
          · have := linesL_len h; rw [List.length_cons]; omega
      · cases h
    · injection h with h; injection h with _ h; subst h; simp
theorem lines_len' {n : Nat} {ts r : List Tok} {ls : List Str} (h : linesF n ts = .ok (ls, r)) : r.length < ts.length := by
  obtain ⟨x, r1, h1, h2⟩ := go_ok h
  have := exp_len h1
  have := linesL_len h2
  omega
theorem restP_len {w p : Str} {ts r : List Tok} {x : Action} (h : restP w p ts = .ok (x, r)) : r.length ≤ ts.length := by
  unfold restP at h
  split at h
  · obtain ⟨_, _, h1, h2⟩ := go_ok h
    injection h2 with h2; injection h2 with _ h2; subst h2
    exact Nat.le_of_lt (lines_len' h1)
  split at h
  · obtain ⟨_, _, h1, h2⟩ := go_ok h
    injection h2 with h2; injection h2 with _ h2; subst h2
    exact Nat.le_of_lt (take_len h1)
  split at h
  · obtain ⟨_, _, h1, h2⟩ := go_ok h
    obtain ⟨_, _, h3, h4⟩ := go_ok h2
    injection h4 with h4; injection h4 with _ h4; subst h4
    have := lines_len' h1
    have := lines_len' h3
    omega
  split at h
  · injection h with h; injection h with _ h; subst h; exact Nat.le_refl _
  · injection h with h; injection h with _ h; subst h; exact Nat.le_refl _
theorem restF_len {w : Str} {ts r : List Tok} {x : Action} (h : restF w ts = .ok (x, r)) : r.length ≤ ts.length := by
  unfold restF at h
  split at h
  · obtain ⟨_, _, h1, h2⟩ := go_ok h
    obtain ⟨_, _, h3, h4⟩ := go_ok h2
    injection h4 with h4; injection h4 with _ h4; subst h4
    have := place_len' h1
    have := take_len h3
    omega
  split at h
  · obtain ⟨_, _, h1, h2⟩ := go_ok h
    injection h2 with h2; injection h2 with _ h2; subst h2
    exact Nat.le_of_lt (place_len' h1)
  split at h
  · obtain ⟨_, _, h1, h2⟩ := go_ok h
    injection h2 with h2; injection h2 with _ h2; subst h2
    exact Nat.le_of_lt (place_len' h1)
  split at h
  · obtain ⟨_, _, h1, h2⟩ := go_ok h
    injection h2 with h2; injection h2 with _ h2; subst h2
    exact Nat.le_of_lt (place_len' h1)
  · obtain ⟨_, _, h1, h2⟩ := go_ok h
    have := take_len h1
    have := restP_len h2
    omega
theorem act_len {ts r : List Tok} {x : Action} (h : actRF ts = .ok (x, r)) : r.length < ts.length := by
  obtain ⟨_, _, h1, h2⟩ := go_ok h
  obtain ⟨_, _, h3, h4⟩ := go_ok h2
  obtain ⟨_, _, h5, h6⟩ := go_ok h4
  obtain ⟨_, _, h7, h8⟩ := go_ok h6
  injection h8 with h8; injection h8 with _ h8; subst h8
  have := exp_len h1
  have := take_len h3
  have := restF_len h5
  have := exp_len h7
  omega
end K45



namespace K45
open PySem L2 Sa
local macro_rules | `(tactic| walk_at "s1") => `(tactic| first | (with_reducible apply c_dgetK))
local macro_rules | `(tactic| walk_at "s1") => `(tactic| (with_reducible apply c_raiseO))
local macro_rules | `(tactic| walk_at "s1") => `(tactic| first | (with_reducible apply c_dgetK))
local macro_rules | `(tactic| walk_at "s1") => `(tactic| (with_reducible apply c_raiseO))
local macro_rules | `(tactic| walk_at "s1") => `(tactic| first | (with_reducible apply c_un) | (with_reducible apply c_negI))
def rdF (a1 a2 : V) : List (Str × V) := ([("_tokens", a1), ("_at", a2)] : List (Str × V))
section
variable {a1 a2 x v : V}
theorem rd_get1 : (rdF a1 a2).lookup ("_tokens" : Str) = some a1 := by kernel_rfl
theorem rd_put1 : putF "_tokens" x (rdF a1 a2) = rdF x a2 := by kernel_rfl
theorem rd_ini1 : putF "_tokens" a1 ([] : List (Str × V)) = ([("_tokens", a1)] : List (Str × V)) := by kernel_rfl
theorem rd_get2 : (rdF a1 a2).lookup ("_at" : Str) = some a2 := by kernel_rfl
theorem rd_put2 : putF "_at" x (rdF a1 a2) = rdF a1 x := by kernel_rfl
theorem rd_ini2 : putF "_at" a2 ([("_tokens", a1)] : List (Str × V)) = rdF a1 a2 := by kernel_rfl
end
section
variable {K : PySem.W.Frag} {mg : Str → Option Value}
theorem C_Reader (T : TX K mg) : ClsAt K mg "Reader" := ⟨T.glo 54, He.cls_ok (T.fact 131)⟩
theorem Mk_Reader (T : TX K mg) : Mk K (He.ga K "Reader") (He.ma K (He.ga K "Reader") "__init__") := He.mkr_ok (T.fact 132)
theorem rd_N1 (T : TX K mg) : NoAttr K (He.ga K "Reader") "_tokens" := He.noat_ok (T.fact 133)
theorem rd_N2 (T : TX K mg) : NoAttr K (He.ga K "Reader") "_at" := He.noat_ok (T.fact 134)
variable {H : Hp} {Q : VK} {R : Hp → Prop} {x dx : Addr} {a1 a2 v : V}
theorem rd_g1 (T : TX K mg) (h : H x = some (.ins (He.ga K "Reader") dx (rdF a1 a2))) (q : Q a1 H) : FldK K "_tokens" (.ref x) H Q := c_fldAt h (C_Reader T).cls (rd_N1 T) rd_get1 q
theorem rd_p1 (T : TX K mg) (h : H x = some (.ins (He.ga K "Reader") dx (rdF a1 a2))) (q : R (upd H x (.ins (He.ga K "Reader") dx (rdF v a2)))) : SetFldK K "_tokens" (.ref x) v H R := c_setFAt h (C_Reader T).cls (rd_N1 T) (by show 2 < 1000; decide) (by rw [rd_put1]; exact q)
theorem rd_i1 (T : TX K mg) (h : H x = some (.ins (He.ga K "Reader") dx ([] : List (Str × V)))) (q : R (upd H x (.ins (He.ga K "Reader") dx ([("_tokens", v)] : List (Str × V))))) : SetFldK K "_tokens" (.ref x) v H R := c_setFAt h (C_Reader T).cls (rd_N1 T) (by show 0 < 1000; decide) (by rw [rd_ini1]; exact q)
theorem rd_g2 (T : TX K mg) (h : H x = some (.ins (He.ga K "Reader") dx (rdF a1 a2))) (q : Q a2 H) : FldK K "_at" (.ref x) H Q := c_fldAt h (C_Reader T).cls (rd_N2 T) rd_get2 q
theorem rd_p2 (T : TX K mg) (h : H x = some (.ins (He.ga K "Reader") dx (rdF a1 a2))) (q : R (upd H x (.ins (He.ga K "Reader") dx (rdF a1 v)))) : SetFldK K "_at" (.ref x) v H R := c_setFAt h (C_Reader T).cls (rd_N2 T) (by show 2 < 1000; decide) (by rw [rd_put2]; exact q)
theorem rd_i2 (T : TX K mg) (h : H x = some (.ins (He.ga K "Reader") dx ([("_tokens", a1)] : List (Str × V)))) (q : R (upd H x (.ins (He.ga K "Reader") dx (rdF a1 v)))) : SetFldK K "_at" (.ref x) v H R := c_setFAt h (C_Reader T).cls (rd_N2 T) (by show 1 < 1000; decide) (by rw [rd_ini2]; exact q)
theorem rd_no {m : Str} {a1 a2 : V} (h : m ∉ (["_tokens", "_at"] : List Str)) : (rdF a1 a2).lookup m = none := by
  unfold rdF
  have n : ∀ z ∈ (["_tokens", "_at"] : List Str), (m == z) = false := fun z hz => by
    rw [beq_eq_false_iff_ne]
    exact fun e => h (e ▸ hz)
  simp only [List.lookup, n "_tokens" (by simp), n "_at" (by simp)]
theorem rd_r {m : Str} (h : H x = some (.ins (He.ga K "Reader") dx (rdF a1 a2))) (hm : m ∉ (["_tokens", "_at"] : List Str)) (q : R H) : RecvK K "Reader" m (.ref x) H R := c_recv h (rd_no hm) q
end
local macro_rules | `(tactic| walk_at "s1") => `(tactic| first | ((with_reducible apply rd_g1 (by assumption)); (· walk_at "lk")) | ((with_reducible apply rd_p1 (by assumption)); (· walk_at "lk")) | ((with_reducible apply rd_g2 (by assumption)); (· walk_at "lk")) | ((with_reducible apply rd_p2 (by assumption)); (· walk_at "lk")) | ((with_reducible apply rd_r); (· walk_at "lk"); (· decide +kernel)))
local macro_rules | `(tactic| walk_at "s1") => `(tactic| (with_reducible apply c_raiseE3))
set_option pp.maxSteps 1500
section
variable {P : Program} {w : World} {K : PySem.W.Frag} {mg : Str → Option Value} {base : Heap}
structure RdAt (K : PySem.W.Frag) (H : Hp) (a L : Addr) (us ts : List Tok) : Prop where
  ex : ∃ dx l xs, H a = some (.ins (He.ga K "Reader") dx (rdF (.ref l) (.int (us.length : Int)))) ∧ H l = some (.lst xs) ∧ TkAll K H xs (us ++ ts)
  fin : Fin ts
  lk : ∀ dx l i, H a = some (.ins (He.ga K "Reader") dx (rdF (.ref l) i)) → l = L
theorem lk_of {H : Hp} {a L C dx : Addr} {j : V} (h : H a = some (.ins C dx (rdF (.ref L) j))) : ∀ dx l i, H a = some (.ins (He.ga K "Reader") dx (rdF (.ref l) i)) → l = L := fun dx l i e => by
  rw [h] at e
  injection e with e
  injection e with _ _ e
  unfold rdF at e
  injection e with e _
  injection e with _ e
  injection e with e
  exact e.symm
theorem RdAt.kp0 {H H' : Hp} {a L : Addr} {us ts : List Tok} (h : RdAt K H a L us ts) (e : Kp [] H H') : RdAt K H' a L us ts := by
  obtain ⟨dx, l, xs, h1, h2, h3⟩ := h.ex
  obtain rfl := (h.lk _ _ _ h1).symm
  exact ⟨⟨dx, L, xs, e.at0 h1, e.at0 h2, h3.kt e.kt⟩, h.fin, lk_of (e.at0 h1)⟩
theorem RdAt.kp {ms : List Addr} {H H' : Hp} {a L : Addr} {us ts : List Tok} (h : RdAt K H a L us ts) (hm : ∀ b ∈ ms, H b = none) (e : Kp ms H H') : RdAt K H' a L us ts := by
  have e0 : Kp [] H H' := fun b o _ hb => e b o (fun hm' => by rw [hm b hm'] at hb; cases hb) hb
  exact h.kp0 e0
theorem RdAt.noT {H : Hp} {a L : Addr} {us ts : List Tok} (h : RdAt K H a L us ts) : NoT H a := by
  obtain ⟨dx, l, xs, h1, _⟩ := h.ex
  exact NoT.ins h1
theorem RdAt.tok {H : Hp} {a L : Addr} {us r : List Tok} {t : Tok} (h : RdAt K H a L us (t :: r)) : ∃ dx l xs p, H a = some (.ins (He.ga K "Reader") dx (rdF (.ref l) (.int (us.length : Int)))) ∧ H l = some (.lst xs) ∧ SqL K H l xs ∧ TkAll K H xs (us ++ t :: r) ∧
    atI xs (us.length : Int) = some (.ref p) ∧ SqT K H p [.str t.kind, .str t.text, .int t.line, .int t.col] ∧ okS t.kind = true ∧ okS t.text = true ∧ t.text.length ≤ 8000 := by
  obtain ⟨dx, l, xs, h1, h2, h3⟩ := h.ex
  obtain ⟨v, hv, p, rfl, hp⟩ := h3.get (k := us.length) (by rw [List.drop_left])
  exact ⟨dx, l, xs, p, h1, h2, SqL.of h2, h3, atI_nat hv, hp⟩
theorem rd_next {H : Hp} {a l dx C dx0 : Addr} {fs : List (Str × V)} {xs : List V} {us r : List Tok} {t : Tok} {i : Int} (h1 : H a = some (.ins C dx0 fs)) (h2 : H l = some (.lst xs)) (h3 : TkAll K H xs (us ++ t :: r)) (hf : Fin (t :: r)) (hk : t.kind ≠ "end") (hi : i = (us.length : Int) + 1) :
    RdAt K (upd H a (.ins (He.ga K "Reader") dx (rdF (.ref l) (.int i)))) a l (us ++ [t]) r ∧ Kp [a] H (upd H a (.ins (He.ga K "Reader") dx (rdF (.ref l) (.int i)))) ∧ Kt H (upd H a (.ins (He.ga K "Reader") dx (rdF (.ref l) (.int i)))) := by
  have kt : Kt H (upd H a (.ins (He.ga K "Reader") dx (rdF (.ref l) (.int i)))) := Kt.upd1 (NoT.ins h1)
  have ne : l ≠ a := fun e => by rw [e, h1] at h2; cases h2
  refine ⟨⟨⟨dx, l, xs, ?_, by rw [upd_ne ne]; exact h2, ?_⟩, hf.tail hk, lk_of upd_same⟩, Kp.mut (by simp), kt⟩
  · rw [upd_same, hi, List.length_append, List.length_singleton]
    rfl
  · rw [List.append_assoc]
    exact h3.kt kt
theorem rd_back {H : Hp} {a l dx C dx0 : Addr} {fs : List (Str × V)} {xs : List V} {us r : List Tok} {t : Tok} {i : Int} (h1 : H a = some (.ins C dx0 fs)) (h2 : H l = some (.lst xs)) (h3 : TkAll K H xs ((us ++ [t]) ++ r)) (hf : Fin r) (hi : i = (us.length : Int)) :
    RdAt K (upd H a (.ins (He.ga K "Reader") dx (rdF (.ref l) (.int i)))) a l us (t :: r) ∧ Kp [a] H (upd H a (.ins (He.ga K "Reader") dx (rdF (.ref l) (.int i)))) ∧ Kt H (upd H a (.ins (He.ga K "Reader") dx (rdF (.ref l) (.int i)))) := by
  have kt : Kt H (upd H a (.ins (He.ga K "Reader") dx (rdF (.ref l) (.int i)))) := Kt.upd1 (NoT.ins h1)
  have ne : l ≠ a := fun e => by rw [e, h1] at h2; cases h2
  refine ⟨⟨⟨dx, l, xs, by rw [upd_same, hi], by rw [upd_ne ne]; exact h2, ?_⟩, Fin.app (us := [t]) hf, lk_of upd_same⟩, Kp.mut (by simp), kt⟩
  rw [List.append_assoc] at h3
  exact h3.kt kt
def RetR {α : Type} (K : PySem.W.Frag) (Q : VK) (E : XK) (a L : Addr) (H : Hp) (rep : Hp → V → α → Prop) : RdF α → Prop
  | .ok (x, r) => ∀ v H' us', Kp [a] H H' → Kt H H' → RdAt K H' a L us' r → rep H' v x → Q v H'
  | .error f => FltE K E [a] H f
theorem RetR.kp {α : Type} {Q : VK} {E : XK} {a L : Addr} {H H1 : Hp} {rep : Hp → V → α → Prop} {e : RdF α} (h : RetR K Q E a L H rep e) (k : Kp [a] H H1) (t : Kt H H1) : RetR K Q E a L H1 rep e := by
  cases e with
  | error f => exact FltE.kp h k t
  | ok p => exact fun v H' us' k' t' h' r' => h v H' us' (k.trans k') (t.trans t') h' r'
theorem fin_cons {ts : List Tok} (h : Fin ts) : ∃ t r, ts = t :: r := by
  cases ts with
  | nil => exact absurd rfl h.ne
  | cons t r => exact ⟨t, r, rfl⟩
def spRdInit (K : PySem.W.Frag) : Sp := fun vs H Q E => ∃ (x dx : Addr) (z : Str), vs = [.ref x, .str z] ∧ H x = some (.ins (He.ga K "Reader") dx []) ∧ z.length ≤ 8000 ∧ okS z = true ∧
  (∀ ts, spl .nrm z.cps.toList 1 1 = .ok ts → ∀ H' L, Kp [x] H H' → RdAt K H' x L [] ts → Q .non H') ∧ (∀ f, spl .nrm z.cps.toList 1 1 = .error f → FltE K E [] H f)
theorem sc_Reader___init__ : FnScope ["self", "text"] ["self", "text"] (defScope s_Reader___init__) := ⟨rfl, rfl, rfl, by decide +kernel, rfl, by decide +kernel, by decide +kernel⟩
theorem bn_Reader___init__ : BindM "__init__" "Reader.__init__" s_Reader___init__ ["self", "text"] := fun _ _ _ _ _ _ us hl => match us, hl with | [_, _], _ => rfl
theorem b_Reader___init__ (T : TX K mg) : BodyMX P w K mg base "Reader" "__init__" "Reader.__init__" s_Reader___init__ ["self", "text"] 5 (spRdInit K) := by
  intro cdv A outer s H vs Q E h X hr tk
  obtain ⟨x, dx, z, rfl, hx, hz, hok, q, qe⟩ := h
  have D__split := D__split (P := P) (w := w) (base := base) T
  refine ⟨_, (pss_cons (ps_fldU (K := K) (pv 0) (pe_callX D__split hr tk (pa_cons (pv 1) pa_nil))) (pss_one (ps_fldU (K := K) (pv 0) pe_int))), ?_⟩
  walk_at "st"
  refine ⟨z, rfl, hz, hok, fun ts e H1 l xs k1 f1 h1 h2 => ?_, qe⟩
  have hx1 := k1.at0 hx
  walk_at "st"
  refine rd_i1 T hx1 ?_
  walk_at "st"
  refine rd_i2 T upd_same ?_
  have ne : l ≠ x := fun e => by rw [e, hx] at f1; cases f1
  rw [upd_upd]
  have kt : Kt H1 (upd H1 x (.ins (He.ga K "Reader") dx (rdF (.ref l) (.int 0)))) := Kt.upd1 (NoT.ins hx1)
  exact q ts e _ l (k1.mono.trans (Kp.mut (by simp))) ⟨⟨dx, l, xs, upd_same, by rw [upd_ne ne]; exact h1, h2.kt kt⟩, spl_fin e, lk_of upd_same⟩
theorem M_Reader___init__ (T : TX K mg) : MethAt P w K mg base (L2.CX P w) "Reader" "__init__" 6 ["self", "text"] (spRdInit K) :=
  meth_ofX T 72 110 sc_Reader___init__ bn_Reader___init__ (by walk_at "len") (b_Reader___init__ T)
def spRdKind (K : PySem.W.Frag) : Sp := fun vs H Q _ => ∃ (a L : Addr) (us r : List Tok) (t : Tok), vs = [.ref a] ∧ RdAt K H a L us (t :: r) ∧ Q (.str t.kind) H
theorem sc_Reader_kind : FnScope ["self"] ["self"] (defScope s_Reader_kind) := ⟨rfl, rfl, rfl, by decide +kernel, rfl, by decide +kernel, by decide +kernel⟩
theorem bn_Reader_kind : BindM "kind" "Reader.kind" s_Reader_kind ["self"] := fun _ _ _ _ _ _ us hl => match us, hl with | [_], _ => rfl
theorem b_Reader_kind (T : TX K mg) : BodyM P w K mg base "Reader" "kind" "Reader.kind" s_Reader_kind ["self"] 1 (spRdKind K) := by
  intro cdv A outer s H vs Q E h X hr
  obtain ⟨a, L, us, r, t, rfl, h, q⟩ := h
  refine ⟨_, (pss_one (ps_ret (pe_ix (ix_U (K := K)) (pe_ix (ix_U (K := K)) (pe_fldU (K := K) (pv 0)) (pe_fldU (K := K) (pv 0)) (fun _ _ => rfl)) pe_int (fun _ _ => rfl)))), ?_⟩
  obtain ⟨dx, l, xs, p, h1, h2, hl, h3, hat, hp, _⟩ := h.tok
  walk_at "st"
  refine c_ixL hl hat ?_
  walk_at "st"
  exact q
theorem M_Reader_kind (T : TX K mg) : MethAt P w K mg base CX0 "Reader" "kind" 2 ["self"] (spRdKind K) :=
  meth_of T 73 111 sc_Reader_kind bn_Reader_kind (by walk_at "len") (b_Reader_kind T)
def spRdSign (K : PySem.W.Frag) : Sp := fun vs H Q _ => ∃ (a L : Addr) (us r : List Tok) (t : Tok) (s : Str), vs = [.ref a, .str s] ∧ RdAt K H a L us (t :: r) ∧ okS s = true ∧ ∀ H', Kp [] H H' → Q (.bl (isSg s t)) H'
theorem sc_Reader_is_sign : FnScope ["self", "sign"] ["self", "sign"] (defScope s_Reader_is_sign) := ⟨rfl, rfl, rfl, by decide +kernel, rfl, by decide +kernel, by decide +kernel⟩
theorem bn_Reader_is_sign : BindM "is_sign" "Reader.is_sign" s_Reader_is_sign ["self", "sign"] := fun _ _ _ _ _ _ us hl => match us, hl with | [_, _], _ => rfl
theorem b_Reader_is_sign (T : TX K mg) : BodyM P w K mg base "Reader" "is_sign" "Reader.is_sign" s_Reader_is_sign ["self", "sign"] 1 (spRdSign K) := by
  intro cdv A outer s H vs Q E h X hr
  obtain ⟨a, L, us, r, t, s, rfl, h, hs, q⟩ := h
  refine ⟨_, (pss_one (ps_ret (pe_cmpR (op_eqU (K := K) hr.units) (pe_slice (sl_U (K := K)) (pe_ix (ix_U (K := K)) (pe_fldU (K := K) (pv 0)) (pe_fldU (K := K) (pv 0)) (fun _ _ => rfl)) po_none (po_some pe_int)) (pe_tup (pa_cons pe_str (pa_cons (pv 1) pa_nil))) (nomark _)))), ?_⟩
  obtain ⟨dx, l, xs, p, h1, h2, hl, h3, hat, hp, k1, k2, k3⟩ := h.tok
  walk_at "st"
  refine c_ixL hl hat ?_
  walk_at "st"
  refine c_slT hp fun p2 H2 e2 hp2 => ?_
  walk_at "st"
  walk_at "nw"
  intro p3 H3 N3
  have ec : cutL [V.str t.kind, .str t.text, .int t.line, .int t.col] none (some 2) = ([t.kind, t.text] : List Str).map V.str := by kernel_rfl
  rw [ec] at hp2
  refine c_eqTS (ys := [t.kind, t.text]) (zs := ["sign", s]) (SqT.kp N3.kp hp2) (SqT.of N3.at_) ?_ ?_ ?_
  · intro y hy
    simp only [List.mem_cons, List.not_mem_nil, or_false] at hy
    rcases hy with rfl | rfl
    · exact k1
    · exact k2
  · intro y hy
    simp only [List.mem_cons, List.not_mem_nil, or_false] at hy
    rcases hy with rfl | rfl
    · exact ok_kinds.2.1
    · exact hs
  · exact q H3 (e2.trans N3.kp)
theorem M_Reader_is_sign (T : TX K mg) : MethAt P w K mg base CX0 "Reader" "is_sign" 2 ["self", "sign"] (spRdSign K) :=
  meth_of T 75 113 sc_Reader_is_sign bn_Reader_is_sign (by walk_at "len") (b_Reader_is_sign T)
def spRdRefuse (K : PySem.W.Frag) : Sp := fun vs H _ E => ∃ (a L : Addr) (us r : List Tok) (t : Tok) (s : Str), vs = [.ref a, .str s] ∧ RdAt K H a L us (t :: r) ∧ FltE K E [a] H (fltAt t s)
theorem sc_Reader_refuse : FnScope ["self", "words", "_", "line", "column"] ["self", "words"] (defScope s_Reader_refuse) := ⟨rfl, rfl, rfl, by decide +kernel, rfl, by decide +kernel, by decide +kernel⟩
theorem bn_Reader_refuse : BindM "refuse" "Reader.refuse" s_Reader_refuse ["self", "words"] := fun _ _ _ _ _ _ us hl => match us, hl with | [_, _], _ => rfl
theorem b_Reader_refuse (T : TX K mg) : BodyMX P w K mg base "Reader" "refuse" "Reader.refuse" s_Reader_refuse ["self", "words", "_", "line", "column"] 3 (spRdRefuse K) := by
  intro cdv A outer s H vs Q E h X hr tk
  obtain ⟨a, L, us, r, t, s, rfl, h, q⟩ := h
  have E_TextFault := E_TextFault (P := P) (w := w) (base := base) T
  refine ⟨_, (pss_cons (ps_asg (pe_ix (ix_U (K := K)) (pe_fldU (K := K) (pv 0)) (pe_fldU (K := K) (pv 0)) (fun _ _ => rfl)) (pg_tupU (K := K) (n := 4) rfl (pgs_cons (pg_name (i := 2) sc_Reader_refuse.nd rfl (Or.inl rfl)) (pgs_cons (pg_name (i := 2) sc_Reader_refuse.nd rfl (Or.inl rfl)) (pgs_cons (pg_name (i := 3) sc_Reader_refuse.nd rfl (Or.inl rfl)) (pgs_cons (pg_name (i := 4) sc_Reader_refuse.nd rfl (Or.inl rfl)) pgs_nil)))))) (pss_one (ps_raiseE3 (K := K) E_TextFault hr tk (pa_cons (pv 3) (pa_cons (pv 4) (pa_cons (pv 1) pa_nil)))))), ?_⟩
  obtain ⟨dx, l, xs, p, h1, h2, hl, h3, hat, hp, k1, k2, k3⟩ := h.tok
  walk_at "st"
  refine c_ixL hl hat ?_
  walk_at "st"
  refine c_err3 fun d H1 N => ?_
  exact q _ d H1 Kp.refl Kt.refl N
theorem M_Reader_refuse (T : TX K mg) : MethAt P w K mg base (L2.CX P w) "Reader" "refuse" 4 ["self", "words"] (spRdRefuse K) :=
  meth_ofX T 74 112 sc_Reader_refuse bn_Reader_refuse (by walk_at "len") (b_Reader_refuse T)
def spRdBack (K : PySem.W.Frag) : Sp := fun vs H _ E => ∃ (a L : Addr) (us r : List Tok) (t : Tok) (s : Str), vs = [.ref a, .str s] ∧ RdAt K H a L (us ++ [t]) r ∧ FltE K E [a] H (fltAt t s)
theorem sc_Reader_back : FnScope ["self", "words"] ["self", "words"] (defScope s_Reader_back) := ⟨rfl, rfl, rfl, by decide +kernel, rfl, by decide +kernel, by decide +kernel⟩
theorem bn_Reader_back : BindM "back" "Reader.back" s_Reader_back ["self", "words"] := fun _ _ _ _ _ _ us hl => match us, hl with | [_, _], _ => rfl
theorem b_Reader_back (T : TX K mg) : BodyMX P w K mg base "Reader" "back" "Reader.back" s_Reader_back ["self", "words"] 4 (spRdBack K) := by
  intro cdv A outer s H vs Q E h X hr tk
  obtain ⟨a, L, us, r, t, s, rfl, h, q⟩ := h
  have C_Reader := C_Reader T; have M_Reader_refuse := M_Reader_refuse (P := P) (w := w) (base := base) T
  refine ⟨_, (pss_cons (ps_fldU (K := K) (pv 0) (pe_op op_subU (pe_fldU (K := K) (pv 0)) pe_int)) (pss_one (ps_expr (pe_methS1 M_Reader_refuse C_Reader hr (atW tk) (pv 0) (pa_cons (pv 1) pa_nil))))), ?_⟩
  obtain ⟨dx, l, xs, h1, h2, h3⟩ := h.ex
  walk_at "st"
  obtain rfl := (h.lk _ _ _ h1).symm
  obtain ⟨b1, b2, b3⟩ := rd_back (dx := dx) (i := ((us ++ [t]).length : Int) - 1) h1 h2 h3 h.fin (by rw [List.length_append, List.length_singleton]; omega)
  exact ⟨a, L, us, r, t, s, rfl, b1, q.kp b2 b3⟩
theorem M_Reader_back (T : TX K mg) : MethAt P w K mg base (L2.CX P w) "Reader" "back" 5 ["self", "words"] (spRdBack K) :=
  meth_ofX T 78 116 sc_Reader_back bn_Reader_back (by walk_at "len") (b_Reader_back T)
def spRdExp (K : PySem.W.Frag) : Sp := fun vs H Q E => ∃ (a L : Addr) (us ts : List Tok) (s : Str), vs = [.ref a, .str s] ∧ RdAt K H a L us ts ∧ okS s = true ∧ s.length ≤ 1000 ∧ RetR K Q E a L H (fun _ v _ => v = .non) (expF s ts)
theorem sc_Reader_expect : FnScope ["self", "sign"] ["self", "sign"] (defScope s_Reader_expect) := ⟨rfl, rfl, rfl, by decide +kernel, rfl, by decide +kernel, by decide +kernel⟩
theorem bn_Reader_expect : BindM "expect" "Reader.expect" s_Reader_expect ["self", "sign"] := fun _ _ _ _ _ _ us hl => match us, hl with | [_, _], _ => rfl
theorem b_Reader_expect (T : TX K mg) : BodyMX P w K mg base "Reader" "expect" "Reader.expect" s_Reader_expect ["self", "sign"] 4 (spRdExp K) := by
  intro cdv A outer s H vs Q E h X hr tk
  obtain ⟨a, L, us, ts, s, rfl, h, hs, hsl, q⟩ := h
  have C_Reader := C_Reader T; have M_Reader_is_sign := M_Reader_is_sign (P := P) (w := w) (base := base) T; have M_Reader_refuse := M_Reader_refuse (P := P) (w := w) (base := base) T
  refine ⟨_, (pss_cons (ps_if (pt_not (pt_tru (K := K) (pe_methS1 M_Reader_is_sign C_Reader hr at0 (pv 0) (pa_cons (pv 1) pa_nil)))) (pss_one (ps_expr (pe_methS1 M_Reader_refuse C_Reader hr (atW tk) (pv 0) (pa_cons (pe_op (op_addU (K := K)) pe_str (pv 1)) pa_nil)))) pss_nil) (pss_one (ps_fldU (K := K) (pv 0) (pe_op (op_addU (K := K)) (pe_fldU (K := K) (pv 0)) pe_int)))), ?_⟩
  obtain ⟨t, r, rfl⟩ := fin_cons h.fin
  obtain ⟨dx0, l0, xs0, p0, h10, _⟩ := h.tok
  walk_at "st"
  refine ⟨a, L, us, r, t, s, rfl, h, hs, fun H1 e1 => ?_⟩
  have h' := h.kp0 e1
  have q := q.kp e1.mono e1.kt
  obtain ⟨dx, l, xs, p, h1, h2, hl, h3, hat, hp, k1, k2, k3⟩ := h'.tok
  walk_at "st"
  refine c_iteNB (fun g => ?_) (fun g => ?_)
  · walk_at "st"
    refine c_addS (by rw [sizeLine_eq, show (PySem.Str.ofString "expected ").length = 9 from by decide +kernel]; omega) ?_
    walk_at "st"
    refine ⟨a, L, us, r, t, _, rfl, h', ?_⟩
    simp only [expF, g, Bool.false_eq_true, if_false] at q
    exact q
  · walk_at "st"
    simp only [expF, g, if_true] at q
    have hk : t.kind ≠ "end" := fun e => by
      unfold isSg at g
      rw [decide_eq_true_eq, List.cons.injEq, e] at g
      exact absurd g.1 (by decide +kernel)
    obtain rfl := (h'.lk _ _ _ h1).symm
    obtain ⟨b1, b2, b3⟩ := rd_next (dx := dx) (i := (us.length : Int) + 1) h1 h2 h3 h'.fin hk rfl
    exact q _ _ _ b2 b3 b1 rfl
theorem M_Reader_expect (T : TX K mg) : MethAt P w K mg base (L2.CX P w) "Reader" "expect" 5 ["self", "sign"] (spRdExp K) :=
  meth_ofX T 76 114 sc_Reader_expect bn_Reader_expect (by walk_at "len") (b_Reader_expect T)
def spRdTake (K : PySem.W.Frag) : Sp := fun vs H Q E => ∃ (a L : Addr) (us r : List Tok) (t : Tok) (k s : Str), vs = [.ref a, .str k, .str s] ∧ RdAt K H a L us (t :: r) ∧ k ≠ "end" ∧
  (t.kind = k → ∀ H', Kp [a] H H' → Kt H H' → RdAt K H' a L (us ++ [t]) r → okS t.text = true → t.text.length ≤ 8000 → Q (.str t.text) H') ∧ (t.kind ≠ k → FltE K E [a] H (fltAt t s))
theorem sc_Reader_take : FnScope ["self", "kind", "words"] ["self", "kind", "words"] (defScope s_Reader_take) := ⟨rfl, rfl, rfl, by decide +kernel, rfl, by decide +kernel, by decide +kernel⟩
theorem bn_Reader_take : BindM "take" "Reader.take" s_Reader_take ["self", "kind", "words"] := fun _ _ _ _ _ _ us hl => match us, hl with | [_, _, _], _ => rfl
theorem b_Reader_take (T : TX K mg) : BodyMX P w K mg base "Reader" "take" "Reader.take" s_Reader_take ["self", "kind", "words"] 4 (spRdTake K) := by
  intro cdv A outer s H vs Q E h X hr tk
  obtain ⟨a, L, us, r, t, k, s, rfl, h, hk, q, qe⟩ := h
  have C_Reader := C_Reader T; have M_Reader_kind := M_Reader_kind (P := P) (w := w) (base := base) T; have M_Reader_refuse := M_Reader_refuse (P := P) (w := w) (base := base) T
  refine ⟨_, (pss_cons (ps_if (pt_cmpR (op_neU (K := K) hr.units) (pe_methS0 M_Reader_kind C_Reader hr at0 (pv 0)) (pv 1) (nomark _)) (pss_one (ps_expr (pe_methS1 M_Reader_refuse C_Reader hr (atW tk) (pv 0) (pa_cons (pv 2) pa_nil)))) pss_nil) (pss_cons (ps_fldU (K := K) (pv 0) (pe_op (op_addU (K := K)) (pe_fldU (K := K) (pv 0)) pe_int)) (pss_one (ps_ret (pe_ix (ix_U (K := K)) (pe_ix (ix_U (K := K)) (pe_fldU (K := K) (pv 0)) (pe_op op_subU (pe_fldU (K := K) (pv 0)) pe_int) (fun _ _ => rfl)) pe_int (fun _ _ => rfl)))))), ?_⟩
  obtain ⟨dx, l, xs, p, h1, h2, hl, h3, hat, hp, k1, k2, k3⟩ := h.tok
  walk_at "st"
  refine ⟨a, L, us, r, t, rfl, h, ?_⟩
  walk_at "st"
  refine c_iteN (fun g => ?_) (fun g => ?_)
  · walk_at "st"
    exact ⟨a, L, us, r, t, s, rfl, h, qe g⟩
  · walk_at "st"
    obtain rfl := (h.lk _ _ _ h1).symm
    obtain ⟨b1, b2, b3⟩ := rd_next (dx := dx) (i := (us.length : Int) + 1) h1 h2 h3 h.fin (by rw [g]; exact hk) rfl
    have ne : L ≠ a := fun e => by rw [e, h1] at h2; cases h2
    refine c_ixL (SqL.of (by rw [upd_ne ne]; exact h2)) (by rw [show (us.length : Int) + 1 - 1 = us.length from by omega]; exact hat) ?_
    have hp' := SqT.kt b3 hp
    walk_at "st"
    exact q g _ b2 b3 b1 k2 k3
theorem M_Reader_take (T : TX K mg) : MethAt P w K mg base (L2.CX P w) "Reader" "take" 5 ["self", "kind", "words"] (spRdTake K) :=
  meth_ofX T 77 115 sc_Reader_take bn_Reader_take (by walk_at "len") (b_Reader_take T)
end
end K45



namespace K45
open PySem L2 Sa
local macro_rules | `(tactic| walk_at "s1") => `(tactic| first | (with_reducible apply c_dgetK))
local macro_rules | `(tactic| walk_at "s1") => `(tactic| (with_reducible apply c_raiseO))
local macro_rules | `(tactic| walk_at "s1") => `(tactic| first | (with_reducible apply c_dgetK))
local macro_rules | `(tactic| walk_at "s1") => `(tactic| (with_reducible apply c_raiseO))
local macro_rules | `(tactic| walk_at "s1") => `(tactic| first | (with_reducible apply c_un) | (with_reducible apply c_negI))
local macro_rules | `(tactic| walk_at "s1") => `(tactic| first | ((with_reducible apply rd_g1 (by assumption)); (· walk_at "lk")) | ((with_reducible apply rd_p1 (by assumption)); (· walk_at "lk")) | ((with_reducible apply rd_g2 (by assumption)); (· walk_at "lk")) | ((with_reducible apply rd_p2 (by assumption)); (· walk_at "lk")) | ((with_reducible apply rd_r); (· walk_at "lk"); (· decide +kernel)))
local macro_rules | `(tactic| walk_at "s1") => `(tactic| (with_reducible apply c_raiseE3))
set_option pp.maxSteps 1500
section
variable {P : Program} {w : World} {K : PySem.W.Frag} {mg : Str → Option Value} {base : Heap}
structure TxOk (x : Str) (n : Nat) : Prop where
  ok : okS x = true
  len : x.length ≤ n
def repS : Hp → V → Str → Prop := fun _ v x => v = .str x ∧ TxOk x 8000
theorem q_error {α : Type} {Q : VK} {E : XK} {a L : Addr} {H : Hp} {rep : Hp → V → α → Prop} {e : RdF α} {f : Flt} (q : RetR K Q E a L H rep e) (h : e = .error f) : FltE K E [a] H f := by subst h; exact q
theorem q_ok {α : Type} {Q : VK} {E : XK} {a L : Addr} {H H' : Hp} {us' : List Tok} {rep : Hp → V → α → Prop} {e : RdF α} {x : α} {r : List Tok} {v : V} (q : RetR K Q E a L H rep e) (h : e = .ok (x, r)) (k : Kp [a] H H') (t : Kt H H') (R : RdAt K H' a L us' r) (p : rep H' v x) : Q v H' := by
  subst h; exact q v H' us' k t R p
theorem take_ok {k w : Str} {p : Str → Bool} {t : Tok} {r : List Tok} (h1 : t.kind = k) (h2 : p t.text = true) : takeP k p w (t :: r) = .ok (t.text, r) := by simp only [takeP, h1, h2, if_true]
theorem take_bad {k w : Str} {p : Str → Bool} {t : Tok} {r : List Tok} (h : t.kind = k → p t.text = false) : takeP k p w (t :: r) = .error (fltAt t w) := by
  simp only [takeP]
  by_cases hk : t.kind = k
  · rw [if_pos hk, h hk, if_neg Bool.false_ne_true]
  · rw [if_neg hk]
theorem atQ (T : TX K mg) (H : Hp) : SqT K H (He.ga K "QUESTIONS") (questL.map V.str) := strsD_at (Dt.of (T.cst 2 rfl H) rfl)
theorem atDd (T : TX K mg) (H : Hp) : SqT K H (He.ga K "DEEDS") (deedL.map V.str) := strsD_at (Dt.of (T.cst 3 rfl H) rfl)
def spRdS (K : PySem.W.Frag) (f : List Tok → RdF Str) : Sp := fun vs H Q E => ∃ (a L : Addr) (us ts : List Tok), vs = [.ref a] ∧ RdAt K H a L us ts ∧ RetR K Q E a L H repS (f ts)
theorem sc_Reader_word : FnScope ["self", "word"] ["self"] (defScope s_Reader_word) := ⟨rfl, rfl, rfl, by decide +kernel, rfl, by decide +kernel, by decide +kernel⟩
theorem bn_Reader_word : BindM "word" "Reader.word" s_Reader_word ["self"] := fun _ _ _ _ _ _ us hl => match us, hl with | [_], _ => rfl
theorem b_Reader_word (T : TX K mg) : BodyMX P w K mg base "Reader" "word" "Reader.word" s_Reader_word ["self", "word"] 5 (spRdS K wordF) := by
  intro cdv A outer s H vs Q E h X hr tk
  obtain ⟨a, L, us, ts, rfl, h, q⟩ := h
  have C_Reader := C_Reader T; have M_Reader_back := M_Reader_back (P := P) (w := w) (base := base) T; have M_Reader_take := M_Reader_take (P := P) (w := w) (base := base) T
  refine ⟨_, (pss_cons (ps_set (i := 1) sc_Reader_word.nd rfl (Or.inl rfl) (pe_methS1 M_Reader_take C_Reader hr (atW tk) (pv 0) (pa_cons pe_str (pa_cons pe_str pa_nil)))) (pss_cons (ps_if (PW.pt (pw_and (pt_cmpR (op_notInU (K := K)) (pv 1) (pe_gCon (T.glo 22)) rfl) (pw_and1 (pt_cmpR (op_notInU (K := K)) (pv 1) (pe_gCon (T.glo 117)) rfl)))) (pss_one (ps_expr (pe_methS1 M_Reader_back C_Reader hr (atW tk) (pv 0) (pa_cons pe_str pa_nil)))) pss_nil) (pss_one (ps_ret (pv 1))))), ?_⟩
  obtain ⟨t, r, rfl⟩ := fin_cons h.fin
  obtain ⟨dx0, l0, xs0, p0, h10, _⟩ := h.tok
  walk_at "st"
  refine ⟨a, L, us, r, t, _, _, rfl, h, by decide +kernel, fun hk H1 k1 t1 h1 o1 l1 => ?_, fun hk => q_error q (take_bad fun e => absurd e hk)⟩
  obtain ⟨dx1, l2, xs1, h11, _⟩ := h1.ex
  have q := q.kp k1 t1
  walk_at "st"
  refine c_notInSs (.inr (atQ T H1)) ?_
  walk_at "st"
  have bad : t.text ∉ questL → t.text ∉ deedL → wordF (t :: r) = .error (fltAt t "expected an action") := fun g1 g2 => take_bad fun _ => by unfold wordB; simp [g1, g2]
  have good : wordB t.text = true → Q (.str t.text) H1 := fun g => q_ok q (take_ok hk g) Kp.refl Kt.refl h1 ⟨rfl, o1, l1⟩
  refine c_iteNB (fun g1 => ?_) (fun g1 => ?_)
  · rw [decide_eq_false_iff_not] at g1
    walk_at "st"
    refine c_notInSs (.inr (atDd T H1)) ?_
    walk_at "st"
    refine c_iteNB (fun g2 => ?_) (fun g2 => ?_)
    · rw [decide_eq_false_iff_not] at g2
      walk_at "st"
      exact ⟨a, L, us, r, t, _, rfl, h1, q_error q (bad g1 g2)⟩
    · walk_at "st"
      exact good (by unfold wordB; rw [g2, Bool.or_true])
  · walk_at "st"
    exact good (by unfold wordB; rw [g1, Bool.true_or])
theorem M_Reader_word (T : TX K mg) : MethAt P w K mg base (L2.CX P w) "Reader" "word" 6 ["self"] (spRdS K wordF) :=
  meth_ofX T 79 118 sc_Reader_word bn_Reader_word (by walk_at "len") (b_Reader_word T)
theorem sc_Reader_path : FnScope ["self", "path"] ["self"] (defScope s_Reader_path) := ⟨rfl, rfl, rfl, by decide +kernel, rfl, by decide +kernel, by decide +kernel⟩
theorem bn_Reader_path : BindM "path" "Reader.path" s_Reader_path ["self"] := fun _ _ _ _ _ _ us hl => match us, hl with | [_], _ => rfl
theorem b_Reader_path (T : TX K mg) : BodyMX P w K mg base "Reader" "path" "Reader.path" s_Reader_path ["self", "path"] 5 (spRdS K pathF) := by
  intro cdv A outer s H vs Q E h X hr tk
  obtain ⟨a, L, us, ts, rfl, h, q⟩ := h
  have C_Reader := C_Reader T; have D_is_path := D_is_path (P := P) (w := w) (base := base) T; have M_Reader_back := M_Reader_back (P := P) (w := w) (base := base) T; have M_Reader_take := M_Reader_take (P := P) (w := w) (base := base) T
  refine ⟨_, (pss_cons (ps_set (i := 1) sc_Reader_path.nd rfl (Or.inl rfl) (pe_methS1 M_Reader_take C_Reader hr (atW tk) (pv 0) (pa_cons pe_str (pa_cons pe_str pa_nil)))) (pss_cons (ps_if (pt_not (pt_tru (K := K) (pe_callA D_is_path hr pass0 (pa_cons (pv 1) pa_nil)))) (pss_one (ps_expr (pe_methS1 M_Reader_back C_Reader hr (atW tk) (pv 0) (pa_cons pe_str pa_nil)))) pss_nil) (pss_one (ps_ret (pv 1))))), ?_⟩
  obtain ⟨t, r, rfl⟩ := fin_cons h.fin
  obtain ⟨dx0, l0, xs0, p0, h10, _⟩ := h.tok
  walk_at "st"
  refine ⟨a, L, us, r, t, _, _, rfl, h, by decide +kernel, fun hk H1 k1 t1 h1 o1 l1 => ?_, fun hk => q_error q (take_bad fun e => absurd e hk)⟩
  have q := q.kp k1 t1
  walk_at "st"
  refine ⟨t.text, rfl, by omega, fun H2 e2 => ?_⟩
  have h2 := h1.kp0 e2
  have q := q.kp e2.mono e2.kt
  obtain ⟨dx1, l2, xs1, h11, _⟩ := h2.ex
  walk_at "st"
  refine c_iteNB (fun g => ?_) (fun g => ?_)
  · walk_at "st"
    exact ⟨a, L, us, r, t, _, rfl, h2, q_error q (take_bad fun _ => g)⟩
  · walk_at "st"
    exact q_ok q (take_ok hk g) Kp.refl Kt.refl h2 ⟨rfl, o1, l1⟩
theorem M_Reader_path (T : TX K mg) : MethAt P w K mg base (L2.CX P w) "Reader" "path" 6 ["self"] (spRdS K pathF) :=
  meth_ofX T 80 119 sc_Reader_path bn_Reader_path (by walk_at "len") (b_Reader_path T)
theorem sc_Reader_place : FnScope ["self", "place"] ["self"] (defScope s_Reader_place) := ⟨rfl, rfl, rfl, by decide +kernel, rfl, by decide +kernel, by decide +kernel⟩
theorem bn_Reader_place : BindM "place" "Reader.place" s_Reader_place ["self"] := fun _ _ _ _ _ _ us hl => match us, hl with | [_], _ => rfl
theorem b_Reader_place (T : TX K mg) : BodyMX P w K mg base "Reader" "place" "Reader.place" s_Reader_place ["self", "place"] 5 (spRdS K placeF) := by
  intro cdv A outer s H vs Q E h X hr tk
  obtain ⟨a, L, us, ts, rfl, h, q⟩ := h
  have C_Reader := C_Reader T; have D_is_path := D_is_path (P := P) (w := w) (base := base) T; have M_Reader_back := M_Reader_back (P := P) (w := w) (base := base) T; have M_Reader_take := M_Reader_take (P := P) (w := w) (base := base) T
  refine ⟨_, (pss_cons (ps_set (i := 1) sc_Reader_place.nd rfl (Or.inl rfl) (pe_methS1 M_Reader_take C_Reader hr (atW tk) (pv 0) (pa_cons pe_str (pa_cons pe_str pa_nil)))) (pss_cons (ps_if (PW.pt (pw_and (pt_cmpR (op_neU (K := K) hr.units) (pv 1) (pe_gStr (T.str 45)) (nomark _)) (pw_and1 (pt_not (pt_tru (K := K) (pe_callA D_is_path hr pass0 (pa_cons (pv 1) pa_nil))))))) (pss_one (ps_expr (pe_methS1 M_Reader_back C_Reader hr (atW tk) (pv 0) (pa_cons pe_str pa_nil)))) pss_nil) (pss_one (ps_ret (pe_ifExp (pt_cmpR (op_eqU (K := K) hr.units) (pv 1) (pe_gStr (T.str 45)) (nomark _)) pe_str (pv 1)))))), ?_⟩
  obtain ⟨t, r, rfl⟩ := fin_cons h.fin
  obtain ⟨dx0, l0, xs0, p0, h10, _⟩ := h.tok
  walk_at "st"
  have er : ∀ {f : Flt}, takeP "word" placeB "expected a place" (t :: r) = .error f → placeF (t :: r) = .error f := fun e => by unfold placeF; rw [e]; rfl
  have okp : t.kind = "word" → placeB t.text = true → placeF (t :: r) = .ok (toPlace t.text, r) := fun e1 e2 => by unfold placeF; rw [take_ok e1 e2]; rfl
  refine ⟨a, L, us, r, t, _, _, rfl, h, by decide +kernel, fun hk H1 k1 t1 h1 o1 l1 => ?_, fun hk => q_error q (er (take_bad fun e => absurd e hk))⟩
  have q := q.kp k1 t1
  walk_at "st"
  by_cases g : t.text = PySem.Str.ofString "."
  · have okq : Q (.str "") H1 := q_ok q ((okp hk (by unfold placeB; simp [g])).trans (by unfold toPlace; rw [if_pos g])) Kp.refl Kt.refl h1 ⟨rfl, by decide +kernel, Nat.zero_le _⟩
    refine c_iteN (fun g' => absurd g g') (fun _ => ?_)
    walk_at "st"
    refine c_ite (fun _ => ?_) (fun g' => absurd g g')
    walk_at "st"
    exact okq
  · refine c_iteN (fun _ => ?_) (fun g' => absurd g' g)
    walk_at "st"
    refine ⟨t.text, rfl, by omega, fun H2 e2 => ?_⟩
    have h2 := h1.kp0 e2
    have q := q.kp e2.mono e2.kt
    obtain ⟨dx1, l2, xs1, h11, _⟩ := h2.ex
    walk_at "st"
    refine c_iteNB (fun g2 => ?_) (fun g2 => ?_)
    · walk_at "st"
      exact ⟨a, L, us, r, t, _, rfl, h2, q_error q (er (take_bad fun _ => by unfold placeB; rw [g2]; simp [g]))⟩
    · walk_at "st"
      refine c_ite (fun g' => absurd g' g) (fun _ => ?_)
      walk_at "st"
      exact q_ok q ((okp hk (by unfold placeB; rw [g2, Bool.or_true])).trans (by unfold toPlace; rw [if_neg g])) Kp.refl Kt.refl h2 ⟨rfl, o1, l1⟩
theorem M_Reader_place (T : TX K mg) : MethAt P w K mg base (L2.CX P w) "Reader" "place" 6 ["self"] (spRdS K placeF) :=
  meth_ofX T 81 120 sc_Reader_place bn_Reader_place (by walk_at "len") (b_Reader_place T)
theorem sc_Reader_quoted_word : FnScope ["self", "word"] ["self"] (defScope s_Reader_quoted_word) := ⟨rfl, rfl, rfl, by decide +kernel, rfl, by decide +kernel, by decide +kernel⟩
theorem bn_Reader_quoted_word : BindM "quoted_word" "Reader.quoted_word" s_Reader_quoted_word ["self"] := fun _ _ _ _ _ _ us hl => match us, hl with | [_], _ => rfl
theorem b_Reader_quoted_word (T : TX K mg) : BodyMX P w K mg base "Reader" "quoted_word" "Reader.quoted_word" s_Reader_quoted_word ["self", "word"] 5 (spRdS K quoWF) := by
  intro cdv A outer s H vs Q E h X hr tk
  obtain ⟨a, L, us, ts, rfl, h, q⟩ := h
  have C_Reader := C_Reader T; have M_Reader_back := M_Reader_back (P := P) (w := w) (base := base) T; have M_Reader_take := M_Reader_take (P := P) (w := w) (base := base) T
  refine ⟨_, (pss_cons (ps_set (i := 1) sc_Reader_quoted_word.nd rfl (Or.inl rfl) (pe_methS1 M_Reader_take C_Reader hr (atW tk) (pv 0) (pa_cons pe_str (pa_cons pe_str pa_nil)))) (pss_cons (ps_if (pt_not (pt_chain op_leU op_leU pe_int (pe_callB (cr_len (K := K)) rfl (T.free 2) PySem.boot_len (pa_cons (pv 1) pa_nil)) (pe_gInt (T.int 13)))) (pss_one (ps_expr (pe_methS1 M_Reader_back C_Reader hr (atW tk) (pv 0) (pa_cons pe_str pa_nil)))) pss_nil) (pss_one (ps_ret (pv 1))))), ?_⟩
  obtain ⟨t, r, rfl⟩ := fin_cons h.fin
  obtain ⟨dx0, l0, xs0, p0, h10, _⟩ := h.tok
  walk_at "st"
  refine ⟨a, L, us, r, t, _, _, rfl, h, by decide +kernel, fun hk H1 k1 t1 h1 o1 l1 => ?_, fun hk => q_error q (take_bad fun e => absurd e hk)⟩
  obtain ⟨dx1, l2, xs1, h11, _⟩ := h1.ex
  have q := q.kp k1 t1
  have hs : t.text.length ≤ sizeLine := by rw [sizeLine_eq]; omega
  have good : 1 ≤ t.text.length → t.text.length ≤ 12 → Q (.str t.text) H1 := fun g1 g2 => q_ok q (take_ok hk (by unfold quoWB; simp [g1, g2])) Kp.refl Kt.refl h1 ⟨rfl, o1, l1⟩
  have bad : ¬ (1 ≤ t.text.length ∧ t.text.length ≤ 12) → FltE K E [a] H1 (fltAt t "expected a word") := fun g => q_error q (take_bad fun _ => by
    unfold quoWB
    rw [Bool.and_eq_false_iff, decide_eq_false_iff_not, decide_eq_false_iff_not]
    omega)
  walk_at "st"
  refine c_ite (fun g1 => ?_) (fun g1 => ?_)
  · walk_at "st"
    refine c_iteN (fun g2 => ?_) (fun g2 => ?_)
    · walk_at "st"
      exact ⟨a, L, us, r, t, _, rfl, h1, bad (by omega)⟩
    · walk_at "st"
      exact good (by omega) (by omega)
  · refine ⟨_, rfl, ?_⟩
    refine c_iteNB (fun _ => ?_) (fun g => by cases g)
    walk_at "st"
    exact ⟨a, L, us, r, t, _, rfl, h1, bad (by omega)⟩
theorem M_Reader_quoted_word (T : TX K mg) : MethAt P w K mg base (L2.CX P w) "Reader" "quoted_word" 6 ["self"] (spRdS K quoWF) :=
  meth_ofX T 82 121 sc_Reader_quoted_word bn_Reader_quoted_word (by walk_at "len") (b_Reader_quoted_word T)
theorem c_testOr {σ : St} {H : Hp} {tB : TT} {R : Bool → Hp → Prop} {c : Bool} (b : Bool) (h : ∀ R : Bool → Hp → Prop, (∀ H', Kp [] H H' → R b H') → tB σ H R) (q : ∀ H', Kp [] H H' → R (c || b) H') : if c = true then R true H else tB σ H R := by
  cases c with
  | true => rw [if_pos rfl]; exact q H Kp.refl
  | false => rw [if_neg Bool.false_ne_true]; exact h R q
theorem RdAt.kl {H : Hp} {a l L : Addr} {us ts : List Tok} {xs : List V} (R : RdAt K H a L us ts) (hl : H l = some (.lst xs)) (ne : l ≠ L) (o : HO) : RdAt K (upd H l o) a L us ts := by
  obtain ⟨dx, l', xs, h1, h2, h3⟩ := R.ex
  obtain rfl := (R.lk _ _ _ h1).symm
  have n1 : a ≠ l := fun e => by rw [← e, h1] at hl; cases hl
  have h1' : upd H l o a = some (.ins (He.ga K "Reader") dx (rdF (.ref L) (.int (us.length : Int)))) := by rw [upd_ne n1]; exact h1
  exact ⟨⟨dx, L, xs, h1', by rw [upd_ne (Ne.symm ne)]; exact h2, h3.kt (Kt.upd1 (NoT.lst hl))⟩, R.fin, lk_of h1'⟩
theorem RdAt.neL {H : Hp} {a l L : Addr} {us ts : List Tok} (R : RdAt K H a L us ts) (hl : H l = none) : l ≠ L := fun e => by
  obtain ⟨dx, l', xs, h1, h2, h3⟩ := R.ex
  obtain rfl := (R.lk _ _ _ h1).symm
  rw [← e, hl] at h2
  cases h2
def repL (K : PySem.W.Frag) : Hp → V → List Str → Prop := fun H v ls => ∃ p, v = .ref p ∧ SqT K H p (ls.map V.str) ∧ ls.length ≤ 12 ∧ ∀ y ∈ ls, TxOk y 20
def spRdLines (K : PySem.W.Frag) : Sp := fun vs H Q E => ∃ (a L : Addr) (us ts : List Tok) (n : Nat), vs = [.ref a, .int (n : Int)] ∧ RdAt K H a L us ts ∧ RetR K Q E a L H (repL K) (linesF n ts)
theorem sc_Reader_lines : FnScope ["self", "least", "found", "line"] ["self", "least"] (defScope s_Reader_lines) := ⟨rfl, rfl, rfl, by decide +kernel, rfl, by decide +kernel, by decide +kernel⟩
theorem bn_Reader_lines : BindM "lines" "Reader.lines" s_Reader_lines ["self", "least"] := fun _ _ _ _ _ _ us hl => match us, hl with | [_, _], _ => rfl
theorem b_Reader_lines (T : TX K mg) : BodyMX P w K mg base "Reader" "lines" "Reader.lines" s_Reader_lines ["self", "least", "found", "line"] 5 (spRdLines K) := by
  intro cdv A outer s H vs Q E h X hr tk
  obtain ⟨a, L, us, ts, n, rfl, h, q⟩ := h
  have C_Reader := C_Reader T; have M_Reader_back := M_Reader_back (P := P) (w := w) (base := base) T; have M_Reader_expect := M_Reader_expect (P := P) (w := w) (base := base) T; have M_Reader_is_sign := M_Reader_is_sign (P := P) (w := w) (base := base) T; have M_Reader_take := M_Reader_take (P := P) (w := w) (base := base) T
  refine ⟨_, (pss_cons (ps_expr (pe_methS1 M_Reader_expect C_Reader hr (atW tk) (pv 0) (pa_cons pe_str pa_nil))) (pss_cons (ps_set (i := 2) sc_Reader_lines.nd rfl (Or.inl rfl) (pe_lst pa_nil)) (Evl.pss_cut (ps_while (passes_of rfl) (PW.pt (pw_or (pt_cmpR op_ltU (pe_callB (cr_len (K := K)) rfl (T.free 2) PySem.boot_len (pa_cons (pv 2) pa_nil)) (pv 1) (nomark _)) (pw_or1 (pt_not (pt_tru (K := K) (pe_methS1 M_Reader_is_sign C_Reader hr at0 (pv 0) (pa_cons pe_str pa_nil))))))) (pss_cons (ps_set (i := 3) sc_Reader_lines.nd rfl (Or.inl rfl) (pe_methS1 M_Reader_take C_Reader hr (atW tk) (pv 0) (pa_cons pe_str (pa_cons pe_str pa_nil)))) (pss_cons (ps_if (pt_cmpR op_gtU (pe_callB (cr_len (K := K)) rfl (T.free 2) PySem.boot_len (pa_cons (pv 3) pa_nil)) (pe_gInt (T.int 11)) (nomark _)) (pss_one (ps_expr (pe_methS1 M_Reader_back C_Reader hr (atW tk) (pv 0) (pa_cons pe_str pa_nil)))) pss_nil) (pss_cons (ps_if (pt_cmpR (op_eqU (K := K) hr.units) (pe_callB (cr_len (K := K)) rfl (T.free 2) PySem.boot_len (pa_cons (pv 2) pa_nil)) (pe_gInt (T.int 15)) (nomark _)) (pss_one (ps_expr (pe_methS1 M_Reader_back C_Reader hr (atW tk) (pv 0) (pa_cons pe_str pa_nil)))) pss_nil) (pss_one (ps_expr (pe_appendU (K := K) (pv 2) (pv 3)))))))) (pss_cons (ps_expr (pe_methS1 M_Reader_expect C_Reader hr (atW tk) (pv 0) (pa_cons pe_str pa_nil))) (pss_one (ps_ret (pe_callTy (cr_tuple (K := K)) rfl (T.free 28) (by decide +kernel) (pa_cons (pv 2) pa_nil)))))))), ?_⟩
  obtain ⟨dx0, l0, xs0, h10, _⟩ := h.ex
  walk_at "st"
  refine ⟨a, L, us, ts, _, rfl, h, by decide +kernel, by decide +kernel, ?_⟩
  cases e : expF "[" ts with
  | error f => exact q_error q (by unfold linesF; rw [e]; rfl)
  | ok u =>
    obtain ⟨u, r⟩ := u
    intro v H1 us1 k1 t1 h1 _
    have q : RetR K Q E a L H1 (repL K) (linesL n [] r) := by
      have e2 : linesF n ts = linesL n [] r := by unfold linesF; rw [e]; rfl
      rw [← e2]
      exact q.kp k1 t1
    walk_at "st"
    walk_at "nw"
    intro l H2 N2
    have hla : ∀ {H' : Hp} {us' ts' : List Tok} {xs : List V}, RdAt K H' a L us' ts' → H' l = some (.lst xs) → l ≠ a := fun R hl e => by
      obtain ⟨dx, l', xs', g1, _⟩ := R.ex
      rw [e, g1] at hl
      cases hl
    walk_at "st"
    refine c_cut (fun σ' H' => ∃ us' t r' found o, RdAt K H' a L us' (t :: r') ∧ H' l = some (.lst (found.map V.str)) ∧ found.length ≤ 12 ∧ (∀ y ∈ found, TxOk y 20) ∧ Kp [a] H1 H' ∧ Kt H1 H' ∧ linesL n [] r = .ok (found, r') ∧ isSg "]" t = true ∧
      σ' = [some (.ref a), some (.int (n : Int)), some (.ref l), o]) ?_ ?_
    · refine c_while (fun m σ' H' => ∃ us' ts' found o, m = ts'.length ∧ RdAt K H' a L us' ts' ∧ H' l = some (.lst (found.map V.str)) ∧ found.length ≤ 12 ∧ (∀ y ∈ found, TxOk y 20) ∧ Kp [a] H1 H' ∧ Kt H1 H' ∧ linesL n found ts' = linesL n [] r ∧
        σ' = [some (.ref a), some (.int (n : Int)), some (.ref l), o]) r.length ⟨us1, r, [], none, rfl, h1.kp0 N2.kp, N2.at_, Nat.zero_le _, (fun _ h => by cases h), N2.kp, N2.kp.kt, rfl, rfl⟩ ?_
      rintro m _ H3 ⟨us', ts', found, o, rfl, R3, hl3, hf3, ho3, k3, t3, e3, rfl⟩
      obtain ⟨t, r', rfl⟩ := fin_cons R3.fin
      obtain ⟨dx3, l3, xs3, h13, _⟩ := R3.ex
      walk_at "st"
      rw [List.length_map]
      refine c_testOr (!isSg "]" t) (fun R q => ?_) (fun H4 e4 => ?_)
      · walk_at "st"
        refine ⟨a, L, us', r', t, _, rfl, R3, by decide +kernel, fun H4 e4 => ?_⟩
        walk_at "st"
        exact q H4 e4
      · have R4 := R3.kp0 e4
        have hl4 := e4.at0 hl3
        have k4 := k3.trans e4.mono
        have t4 := t3.trans e4.kt
        have q := q.kp k4 t4
        rw [← e3] at q
        have nc : (decide ((found.length : Int) < (n : Int)) || !isSg "]" t) = true ↔ (found.length < n ∨ isSg "]" t = false) := by
          rw [Bool.or_eq_true, decide_eq_true_eq, Bool.not_eq_true']
          constructor
          · rintro (h | h)
            · exact .inl (by omega)
            · exact .inr h
          · rintro (h | h)
            · exact .inl (by omega)
            · exact .inr h
        by_cases hc : found.length < n ∨ isSg "]" t = false
        · show if _ = true then _ else _
          refine c_iteT (nc.mpr hc) (c_turn ?_)
          obtain ⟨dx4, l4, xs4, h14, _⟩ := R4.ex
          walk_at "st"
          refine ⟨a, L, us', r', t, _, _, rfl, R4, by decide +kernel, fun hk H5 k5 t5 R5 o5 l5 => ?_, fun hk => q_error q (by rw [linesL, if_pos hc, if_neg hk])⟩
          have hl5 := k5.at1 (hla R4 hl4) hl4
          have q := q.kp k5 t5
          have hs : t.text.length ≤ sizeLine := by rw [sizeLine_eq]; omega
          obtain ⟨dx5, l6, xs5, h15, _⟩ := R5.ex
          walk_at "st"
          refine c_ite (fun g1 => ?_) (fun g1 => ?_)
          · walk_at "st"
            exact ⟨a, L, us', r', t, _, rfl, R5, q_error q (by rw [linesL, if_pos hc, if_pos hk, if_pos (by omega)])⟩
          walk_at "st"
          rw [List.length_map]
          refine c_ite (fun g2 => ?_) (fun g2 => ?_)
          · walk_at "st"
            exact ⟨a, L, us', r', t, _, rfl, R5, q_error q (by rw [linesL, if_pos hc, if_pos hk, if_neg (by omega), if_pos (by omega)])⟩
          walk_at "st"
          have kt : Kt H5 (upd H5 l (.lst (found.map V.str ++ [.str t.text]))) := Kt.upd1 (NoT.lst hl5)
          have R6 : RdAt K (upd H5 l (.lst (found.map V.str ++ [.str t.text]))) a L (us' ++ [t]) r' := R5.kl hl5 (h1.neL N2.fr) _
          refine ⟨r'.length, by simp, us' ++ [t], r', found ++ [t.text], _, rfl, R6, ?_, by rw [List.length_append, List.length_singleton]; omega, ?_, ?_, (t4.trans t5).trans kt, ?_, rfl⟩
          · rw [upd_same, List.map_append]; rfl
          · intro y hy
            rcases List.mem_append.mp hy with hy | hy
            · exact ho3 y hy
            · rw [List.mem_singleton] at hy
              subst hy
              exact ⟨o5, by omega⟩
          · exact (k4.trans k5).fresh_mut N2.fr
          · rw [← e3]
            conv => rhs; rw [linesL, if_pos hc, if_pos hk, if_neg (by omega), if_neg (by omega)]
        · show if _ = true then _ else _
          refine c_iteF (by rw [Bool.eq_false_iff]; exact fun h => hc (nc.mp h)) ?_
          have hs : isSg "]" t = true := by
            cases hh : isSg "]" t with
            | true => rfl
            | false => exact absurd (.inr hh) hc
          exact ⟨us', t, r', found, o, R4, hl4, hf3, ho3, k4, t4, by rw [← e3, linesL, if_neg hc], hs, rfl⟩
    · rintro _ H3 ⟨us', t, r', found, o, R3, hl3, hf3, ho3, k3, t3, e3, hs, rfl⟩
      obtain ⟨dx3, l3, xs3, h13, _⟩ := R3.ex
      have q := q.kp k3 t3
      walk_at "st"
      refine ⟨a, L, us', t :: r', _, rfl, R3, by decide +kernel, by decide +kernel, ?_⟩
      rw [expF, if_pos hs]
      intro v H4 us4 k4 t4 R4 _
      have hl4 := k4.at1 (hla R3 hl3) hl3
      walk_at "st"
      refine c_tupleL (SqL.of hl4) fun p H5 N5 => ?_
      exact q_ok q e3 (k4.trans N5.kp) (t4.trans N5.kp.kt) (R4.kp0 N5.kp) ⟨p, rfl, SqT.of N5.at_, hf3, ho3⟩
theorem M_Reader_lines (T : TX K mg) : MethAt P w K mg base (L2.CX P w) "Reader" "lines" 6 ["self", "least"] (spRdLines K) :=
  meth_ofX T 83 122 sc_Reader_lines bn_Reader_lines (by walk_at "len") (b_Reader_lines T)
end
end K45



namespace K45
open PySem L2 Sa
local macro_rules | `(tactic| walk_at "s1") => `(tactic| first | (with_reducible apply c_dgetK))
local macro_rules | `(tactic| walk_at "s1") => `(tactic| (with_reducible apply c_raiseO))
local macro_rules | `(tactic| walk_at "s1") => `(tactic| first | (with_reducible apply c_dgetK))
local macro_rules | `(tactic| walk_at "s1") => `(tactic| (with_reducible apply c_raiseO))
local macro_rules | `(tactic| walk_at "s1") => `(tactic| first | (with_reducible apply c_un) | (with_reducible apply c_negI))
local macro_rules | `(tactic| walk_at "s1") => `(tactic| first | ((with_reducible apply rd_g1 (by assumption)); (· walk_at "lk")) | ((with_reducible apply rd_p1 (by assumption)); (· walk_at "lk")) | ((with_reducible apply rd_g2 (by assumption)); (· walk_at "lk")) | ((with_reducible apply rd_p2 (by assumption)); (· walk_at "lk")) | ((with_reducible apply rd_r); (· walk_at "lk"); (· decide +kernel)))
local macro_rules | `(tactic| walk_at "s1") => `(tactic| (with_reducible apply c_raiseE3))
set_option pp.maxSteps 1500
section
variable {P : Program} {w : World} {K : PySem.W.Frag} {mg : Str → Option Value} {base : Heap}
theorem actAt_kt {H H' : Hp} {a : Addr} (e : Kt H H') : ∀ {x : Action}, ActAt K H a x → ActAt K H' a x
  | .read _, h => SqT.kt e h
  | .kind _, h => SqT.kt e h
  | .list _, h => SqT.kt e h
  | .find _ _, h => SqT.kt e h
  | .count _, h => SqT.kt e h
  | .write _ _, ⟨l, h1, h2⟩ => ⟨l, SqT.kt e h1, SqT.kt e h2⟩
  | .remove _, h => SqT.kt e h
  | .move _ _, h => SqT.kt e h
  | .splice _ _ _, ⟨l, m, h1, h2, h3⟩ => ⟨l, m, SqT.kt e h1, SqT.kt e h2, SqT.kt e h3⟩
structure LsTx (ls : List Str) : Prop where
  len : ls.length ≤ 13
  tx : ∀ y ∈ ls, TxOk y 20
def Action.tx : Action → Prop
  | .read p => TxOk p 8000
  | .kind p => TxOk p 8000
  | .list p => TxOk p 8000
  | .count p => TxOk p 8000
  | .remove p => TxOk p 8000
  | .find z u => TxOk z 8000 ∧ TxOk u 8000
  | .move p t => TxOk p 8000 ∧ TxOk t 8000
  | .write p ls => TxOk p 8000 ∧ LsTx ls
  | .splice p old new => TxOk p 8000 ∧ LsTx old ∧ LsTx new
def repA (K : PySem.W.Frag) : Hp → V → Action → Prop := fun H v x => ∃ p, v = .ref p ∧ ActAt K H p x ∧ x.tx
theorem take_inv {k w : Str} {p : Str → Bool} {ts r : List Tok} {u : Str} (h : takeP k p w ts = .ok (u, r)) : p u = true := by
  cases ts with
  | nil => cases h
  | cons t r' =>
    simp only [takeP] at h
    split at h
    · split at h
      · injection h with h; injection h with h _; subst h; assumption
      · cases h
    · cases h
theorem go_err {α β : Type} {e : RdF α} {f : α → List Tok → RdF β} {x : Flt} (h : e = .error x) : e.go f = .error x := by subst h; rfl
theorem go_app {α β : Type} {e : RdF α} {f : α → List Tok → RdF β} {x : α} {r : List Tok} (h : e = .ok (x, r)) : e.go f = f x r := by subst h; rfl
theorem words9 {z : Str} (h : wordB z = true) : z = "read" ∨ z = "kind" ∨ z = "list" ∨ z = "find" ∨ z = "count" ∨ z = "write" ∨ z = "remove" ∨ z = "move" ∨ z = "splice" := by
  unfold wordB questL deedL at h
  simp only [Bool.or_eq_true, decide_eq_true_eq, List.mem_cons, List.not_mem_nil, or_false] at h
  rcases h with (h | h | h | h | h) | (h | h | h | h)
  all_goals simp [h]
theorem rest_read {r : List Tok} : restF "read" r = (pathF r).go fun p r => .ok (.read p, r) := by kernel_rfl
theorem rest_remove {r : List Tok} : restF "remove" r = (pathF r).go fun p r => .ok (.remove p, r) := by kernel_rfl
theorem rest_kind {r : List Tok} : restF "kind" r = (placeF r).go fun p r => .ok (.kind p, r) := by kernel_rfl
theorem rest_list {r : List Tok} : restF "list" r = (placeF r).go fun p r => .ok (.list p, r) := by kernel_rfl
theorem rest_count {r : List Tok} : restF "count" r = (placeF r).go fun p r => .ok (.count p, r) := by kernel_rfl
theorem rest_find {r : List Tok} : restF "find" r = (placeF r).go fun z r => (quoWF r).go fun u r => .ok (.find z u, r) := by kernel_rfl
theorem rest_write {r : List Tok} : restF "write" r = (pathF r).go fun p r => (linesF 0 r).go fun ls r => .ok (.write p ls, r) := by kernel_rfl
theorem rest_move {r : List Tok} : restF "move" r = (pathF r).go fun p r => (pathF r).go fun q r => .ok (.move p q, r) := by kernel_rfl
theorem rest_splice {r : List Tok} : restF "splice" r = (pathF r).go fun p r => (linesF 1 r).go fun old r => (linesF 0 r).go fun new r => .ok (.splice p old new, r) := by kernel_rfl
def spRdAct (K : PySem.W.Frag) : Sp := fun vs H Q E => ∃ (a L : Addr) (us ts : List Tok), vs = [.ref a] ∧ RdAt K H a L us ts ∧ RetR K Q E a L H (repA K) (actRF ts)
theorem sc_Reader_action : FnScope ["self", "word", "place", "action", "old"] ["self"] (defScope s_Reader_action) := ⟨rfl, rfl, rfl, by decide +kernel, rfl, by decide +kernel, by decide +kernel⟩
theorem bn_Reader_action : BindM "action" "Reader.action" s_Reader_action ["self"] := fun _ _ _ _ _ _ us hl => match us, hl with | [_], _ => rfl
theorem b_Reader_action (T : TX K mg) : BodyMX P w K mg base "Reader" "action" "Reader.action" s_Reader_action ["self", "word", "place", "action", "old"] 6 (spRdAct K) := by
  intro cdv A outer s H vs Q E h X hr tk
  obtain ⟨a, L, us, ts, rfl, h, q⟩ := h
  have C_Reader := C_Reader T; have M_Reader_expect := M_Reader_expect (P := P) (w := w) (base := base) T; have M_Reader_lines := M_Reader_lines (P := P) (w := w) (base := base) T; have M_Reader_path := M_Reader_path (P := P) (w := w) (base := base) T; have M_Reader_place := M_Reader_place (P := P) (w := w) (base := base) T; have M_Reader_quoted_word := M_Reader_quoted_word (P := P) (w := w) (base := base) T; have M_Reader_word := M_Reader_word (P := P) (w := w) (base := base) T
  refine ⟨_, (pss_cons (ps_expr (pe_methS1 M_Reader_expect C_Reader hr (atW tk) (pv 0) (pa_cons pe_str pa_nil))) (pss_cons (ps_set (i := 1) sc_Reader_action.nd rfl (Or.inl rfl) (pe_methS0 M_Reader_word C_Reader hr (atW tk) (pv 0))) (Evl.pss_cut (ps_if (pt_cmpR (op_eqU (K := K) hr.units) (pv 1) pe_str (nomark _)) (pss_cons (ps_set (i := 2) sc_Reader_action.nd rfl (Or.inl rfl) (pe_methS0 M_Reader_place C_Reader hr (atW tk) (pv 0))) (pss_one (ps_set (i := 3) sc_Reader_action.nd rfl (Or.inl rfl) (pe_tup (pa_cons (pv 1) (pa_cons (pv 2) (pa_cons (pe_methS0 M_Reader_quoted_word C_Reader hr (atW tk) (pv 0)) pa_nil))))))) (pss_one (ps_if (PW.pt (pw_or (pt_cmpR (op_eqU (K := K) hr.units) (pv 1) pe_str (nomark _)) (pw_or (pt_cmpR (op_eqU (K := K) hr.units) (pv 1) pe_str (nomark _)) (pw_or1 (pt_cmpR (op_eqU (K := K) hr.units) (pv 1) pe_str (nomark _)))))) (pss_one (ps_set (i := 3) sc_Reader_action.nd rfl (Or.inl rfl) (pe_tup (pa_cons (pv 1) (pa_cons (pe_methS0 M_Reader_place C_Reader hr (atW tk) (pv 0)) pa_nil))))) (pss_one (ps_set (i := 3) sc_Reader_action.nd rfl (Or.inl rfl) (pe_tup (pa_cons (pv 1) (pa_cons (pe_methS0 M_Reader_path C_Reader hr (atW tk) (pv 0)) pa_nil)))))))) (Evl.pss_cut (ps_if (pt_cmpR (op_eqU (K := K) hr.units) (pv 1) pe_str (nomark _)) (pss_one (ps_set (i := 3) sc_Reader_action.nd rfl (Or.inl rfl) (pe_op (op_addU (K := K)) (pv 3) (pe_tup (pa_cons (pe_methS1 M_Reader_lines C_Reader hr (atW tk) (pv 0) (pa_cons pe_int pa_nil)) pa_nil))))) (pss_one (ps_if (pt_cmpR (op_eqU (K := K) hr.units) (pv 1) pe_str (nomark _)) (pss_one (ps_set (i := 3) sc_Reader_action.nd rfl (Or.inl rfl) (pe_op (op_addU (K := K)) (pv 3) (pe_tup (pa_cons (pe_methS0 M_Reader_path C_Reader hr (atW tk) (pv 0)) pa_nil))))) (pss_one (ps_if (pt_cmpR (op_eqU (K := K) hr.units) (pv 1) pe_str (nomark _)) (pss_cons (ps_set (i := 4) sc_Reader_action.nd rfl (Or.inl rfl) (pe_methS1 M_Reader_lines C_Reader hr (atW tk) (pv 0) (pa_cons pe_int pa_nil))) (pss_one (ps_set (i := 3) sc_Reader_action.nd rfl (Or.inl rfl) (pe_op (op_addU (K := K)) (pv 3) (pe_tup (pa_cons (pv 4) (pa_cons (pe_methS1 M_Reader_lines C_Reader hr (atW tk) (pv 0) (pa_cons pe_int pa_nil)) pa_nil))))))) pss_nil))))) (pss_cons (ps_expr (pe_methS1 M_Reader_expect C_Reader hr (atW tk) (pv 0) (pa_cons pe_str pa_nil))) (pss_one (ps_ret (pv 3)))))))), ?_⟩
  obtain ⟨dx0, l0, xs0, h10, _⟩ := h.ex
  walk_at "st"
  refine ⟨a, L, us, ts, _, rfl, h, by decide +kernel, by decide +kernel, ?_⟩
  cases e1 : expF "(" ts with
  | error f => exact q_error q (go_err e1)
  | ok u1 =>
  obtain ⟨u1, r1⟩ := u1
  intro v1 H1 us1 k1 t1 R1 _
  have q := q.kp k1 t1
  unfold actRF at q
  rw [go_app e1] at q
  obtain ⟨dx1, l1, xs1, h11, _⟩ := R1.ex
  walk_at "st"
  refine ⟨a, L, us1, r1, rfl, R1, ?_⟩
  cases e2 : wordF r1 with
  | error f => exact q_error q (go_err e2)
  | ok u2 =>
  obtain ⟨wd, r2⟩ := u2
  rintro _ H2 us2 k2 t2 R2 ⟨rfl, -⟩
  have q := q.kp k2 t2
  rw [go_app e2] at q
  have hw := words9 (take_inv e2)
  obtain ⟨dx2, l2, xs2, h12, _⟩ := R2.ex
  clear e1 e2
  refine c_cut (fun σ' H' => ∃ us3 r3 p o1 o2, RdAt K H' a L us3 r3 ∧ Kp [a] H2 H' ∧ Kt H2 H' ∧ ((∃ x, ActAt K H' p x ∧ x.tx ∧ restF wd r2 = .ok (x, r3) ∧ wd ∉ ([PySem.Str.ofString "write", "move", "splice"] : List Str)) ∨
      (∃ z, SqT K H' p [.str wd, .str z] ∧ TxOk z 8000 ∧ restF wd r2 = restP wd z r3 ∧ wd ∈ ([PySem.Str.ofString "write", "move", "splice"] : List Str))) ∧ σ' = [some (.ref a), some (.str wd), o1, some (.ref p), o2]) ?_ ?_
  · rcases hw with rfl | rfl | rfl | rfl | rfl | rfl | rfl | rfl | rfl
    · walk_at "dc"
      refine ⟨a, L, us2, r2, rfl, R2, ?_⟩
      cases e3 : pathF r2 with
      | error f => exact q_error q (go_err (by rw [rest_read]; exact go_err e3))
      | ok u3 =>
        obtain ⟨z, r3⟩ := u3
        rintro _ H3 us3 k3 t3 R3 ⟨rfl, hz⟩
        walk_at "st"
        walk_at "nw"
        intro p H4 N4
        walk_at "st"
        exact ⟨us3, r3, p, _, _, R3.kp0 N4.kp, k3.trans N4.kp, t3.trans N4.kp.kt, .inl ⟨.read z, SqT.of N4.at_, hz, by rw [rest_read]; exact go_app e3, by decide +kernel⟩, rfl⟩
    · walk_at "dc"
      refine ⟨a, L, us2, r2, rfl, R2, ?_⟩
      cases e3 : placeF r2 with
      | error f => exact q_error q (go_err (by rw [rest_kind]; exact go_err e3))
      | ok u3 =>
        obtain ⟨z, r3⟩ := u3
        rintro _ H3 us3 k3 t3 R3 ⟨rfl, hz⟩
        walk_at "st"
        walk_at "nw"
        intro p H4 N4
        walk_at "st"
        exact ⟨us3, r3, p, _, _, R3.kp0 N4.kp, k3.trans N4.kp, t3.trans N4.kp.kt, .inl ⟨.kind z, SqT.of N4.at_, hz, by rw [rest_kind]; exact go_app e3, by decide +kernel⟩, rfl⟩
    · walk_at "dc"
      refine ⟨a, L, us2, r2, rfl, R2, ?_⟩
      cases e3 : placeF r2 with
      | error f => exact q_error q (go_err (by rw [rest_list]; exact go_err e3))
      | ok u3 =>
        obtain ⟨z, r3⟩ := u3
        rintro _ H3 us3 k3 t3 R3 ⟨rfl, hz⟩
        walk_at "st"
        walk_at "nw"
        intro p H4 N4
        walk_at "st"
        exact ⟨us3, r3, p, _, _, R3.kp0 N4.kp, k3.trans N4.kp, t3.trans N4.kp.kt, .inl ⟨.list z, SqT.of N4.at_, hz, by rw [rest_list]; exact go_app e3, by decide +kernel⟩, rfl⟩
    · walk_at "dc"
      refine ⟨a, L, us2, r2, rfl, R2, ?_⟩
      cases e3 : placeF r2 with
      | error f => exact q_error q (go_err (by rw [rest_find]; exact go_err e3))
      | ok u3 =>
        obtain ⟨z, r3⟩ := u3
        rintro _ H3 us3 k3 t3 R3 ⟨rfl, hz⟩
        have q := q.kp k3 t3
        obtain ⟨dx3, l3, xs3, h13, _⟩ := R3.ex
        walk_at "st"
        refine ⟨a, L, us3, r3, rfl, R3, ?_⟩
        cases e4 : quoWF r3 with
        | error f => exact q_error q (go_err (by rw [rest_find, go_app e3]; exact go_err e4))
        | ok u4 =>
          obtain ⟨u, r4⟩ := u4
          rintro _ H4 us4 k4 t4 R4 ⟨rfl, hu⟩
          walk_at "st"
          walk_at "nw"
          intro p H5 N5
          walk_at "st"
          exact ⟨us4, r4, p, _, _, R4.kp0 N5.kp, (k3.trans k4).trans N5.kp, (t3.trans t4).trans N5.kp.kt, .inl ⟨.find z u, SqT.of N5.at_, ⟨hz, hu⟩, by rw [rest_find, go_app e3]; exact go_app e4, by decide +kernel⟩, rfl⟩
    · walk_at "dc"
      refine ⟨a, L, us2, r2, rfl, R2, ?_⟩
      cases e3 : placeF r2 with
      | error f => exact q_error q (go_err (by rw [rest_count]; exact go_err e3))
      | ok u3 =>
        obtain ⟨z, r3⟩ := u3
        rintro _ H3 us3 k3 t3 R3 ⟨rfl, hz⟩
        walk_at "st"
        walk_at "nw"
        intro p H4 N4
        walk_at "st"
        exact ⟨us3, r3, p, _, _, R3.kp0 N4.kp, k3.trans N4.kp, t3.trans N4.kp.kt, .inl ⟨.count z, SqT.of N4.at_, hz, by rw [rest_count]; exact go_app e3, by decide +kernel⟩, rfl⟩
    · walk_at "dc"
      refine ⟨a, L, us2, r2, rfl, R2, ?_⟩
      cases e3 : pathF r2 with
      | error f => exact q_error q (go_err (by rw [rest_write]; exact go_err e3))
      | ok u3 =>
        obtain ⟨z, r3⟩ := u3
        rintro _ H3 us3 k3 t3 R3 ⟨rfl, hz⟩
        walk_at "st"
        walk_at "nw"
        intro p H4 N4
        walk_at "st"
        exact ⟨us3, r3, p, _, _, R3.kp0 N4.kp, k3.trans N4.kp, t3.trans N4.kp.kt, .inr ⟨z, SqT.of N4.at_, hz, by rw [rest_write, go_app e3]; kernel_rfl, by decide +kernel⟩, rfl⟩
    · walk_at "dc"
      refine ⟨a, L, us2, r2, rfl, R2, ?_⟩
      cases e3 : pathF r2 with
      | error f => exact q_error q (go_err (by rw [rest_remove]; exact go_err e3))
      | ok u3 =>
        obtain ⟨z, r3⟩ := u3
        rintro _ H3 us3 k3 t3 R3 ⟨rfl, hz⟩
        walk_at "st"
        walk_at "nw"
        intro p H4 N4
        walk_at "st"
        exact ⟨us3, r3, p, _, _, R3.kp0 N4.kp, k3.trans N4.kp, t3.trans N4.kp.kt, .inl ⟨.remove z, SqT.of N4.at_, hz, by rw [rest_remove]; exact go_app e3, by decide +kernel⟩, rfl⟩
    · walk_at "dc"
      refine ⟨a, L, us2, r2, rfl, R2, ?_⟩
      cases e3 : pathF r2 with
      | error f => exact q_error q (go_err (by rw [rest_move]; exact go_err e3))
      | ok u3 =>
        obtain ⟨z, r3⟩ := u3
        rintro _ H3 us3 k3 t3 R3 ⟨rfl, hz⟩
        walk_at "st"
        walk_at "nw"
        intro p H4 N4
        walk_at "st"
        exact ⟨us3, r3, p, _, _, R3.kp0 N4.kp, k3.trans N4.kp, t3.trans N4.kp.kt, .inr ⟨z, SqT.of N4.at_, hz, by rw [rest_move, go_app e3]; kernel_rfl, by decide +kernel⟩, rfl⟩
    · walk_at "dc"
      refine ⟨a, L, us2, r2, rfl, R2, ?_⟩
      cases e3 : pathF r2 with
      | error f => exact q_error q (go_err (by rw [rest_splice]; exact go_err e3))
      | ok u3 =>
        obtain ⟨z, r3⟩ := u3
        rintro _ H3 us3 k3 t3 R3 ⟨rfl, hz⟩
        walk_at "st"
        walk_at "nw"
        intro p H4 N4
        walk_at "st"
        exact ⟨us3, r3, p, _, _, R3.kp0 N4.kp, k3.trans N4.kp, t3.trans N4.kp.kt, .inr ⟨z, SqT.of N4.at_, hz, by rw [rest_splice, go_app e3]; kernel_rfl, by decide +kernel⟩, rfl⟩
  rintro _ H3 ⟨us3, r3, p, o1, o2, R3, k3, t3, hA, rfl⟩
  have q := q.kp k3 t3
  refine c_cut (fun σ' H' => ∃ us4 r4 p x o1 o2, RdAt K H' a L us4 r4 ∧ ActAt K H' p x ∧ x.tx ∧ restF wd r2 = .ok (x, r4) ∧ Kp [a] H3 H' ∧ Kt H3 H' ∧ σ' = [some (.ref a), some (.str wd), o1, some (.ref p), o2]) ?_ ?_
  · rcases hA with ⟨x, hx, htx, e3, hn⟩ | ⟨z, hz, hzt, e3, hm⟩
    · simp only [List.mem_cons, List.not_mem_nil, or_false, not_or] at hn
      walk_at "st"
      refine c_ite (fun g => absurd g hn.1) (fun _ => ?_)
      walk_at "st"
      refine c_ite (fun g => absurd g hn.2.1) (fun _ => ?_)
      walk_at "st"
      refine c_ite (fun g => absurd g hn.2.2) (fun _ => ?_)
      walk_at "st"
      exact ⟨us3, r3, p, x, o1, o2, R3, hx, htx, e3, Kp.refl, Kt.refl, rfl⟩
    · simp only [List.mem_cons, List.not_mem_nil, or_false] at hm
      obtain ⟨dx3, l3, xs3, h13, _⟩ := R3.ex
      rcases hm with rfl | rfl | rfl
      · have e3 : restF "write" r2 = (linesF 0 r3).go fun ls r => .ok (.write z ls, r) := e3
        walk_at "dc"
        refine ⟨a, L, us3, r3, 0, rfl, R3, ?_⟩
        cases e4 : linesF 0 r3 with
        | error f => exact q_error q (go_err (by rw [e3]; exact go_err e4))
        | ok u4 =>
          obtain ⟨ls, r4⟩ := u4
          rintro _ H4 us4 k4 t4 R4 ⟨pl, rfl, hls, hl1, hl2⟩
          walk_at "st"
          walk_at "nw"
          intro p5 H5 N5
          walk_at "st"
          refine c_addT (SqT.kp N5.kp (SqT.kt t4 hz)) (SqT.of N5.at_) (by rw [sizeLine_eq]; simp only [List.length_cons, List.length_nil]; omega) fun p6 H6 e6 hp6 => ?_
          walk_at "st"
          exact ⟨us4, r4, p6, .write z ls, _, _, (R4.kp0 N5.kp).kp0 e6, ⟨pl, hp6, SqT.kp e6 (SqT.kp N5.kp hls)⟩, ⟨hzt, by omega, hl2⟩, by rw [e3]; exact go_app e4, (k4.trans N5.kp).trans e6.mono, (t4.trans N5.kp.kt).trans e6.kt, rfl⟩
      · have e3 : restF "move" r2 = (pathF r3).go fun q r => .ok (.move z q, r) := e3
        walk_at "dc"
        refine ⟨a, L, us3, r3, rfl, R3, ?_⟩
        cases e4 : pathF r3 with
        | error f => exact q_error q (go_err (by rw [e3]; exact go_err e4))
        | ok u4 =>
          obtain ⟨y, r4⟩ := u4
          rintro _ H4 us4 k4 t4 R4 ⟨rfl, hy⟩
          walk_at "st"
          walk_at "nw"
          intro p5 H5 N5
          walk_at "st"
          refine c_addT (SqT.kp N5.kp (SqT.kt t4 hz)) (SqT.of N5.at_) (by rw [sizeLine_eq]; simp only [List.length_cons, List.length_nil]; omega) fun p6 H6 e6 hp6 => ?_
          walk_at "st"
          exact ⟨us4, r4, p6, .move z y, _, _, (R4.kp0 N5.kp).kp0 e6, hp6, ⟨hzt, hy⟩, by rw [e3]; exact go_app e4, (k4.trans N5.kp).trans e6.mono, (t4.trans N5.kp.kt).trans e6.kt, rfl⟩
      · have e3 : restF "splice" r2 = (linesF 1 r3).go fun old r => (linesF 0 r).go fun new r => .ok (.splice z old new, r) := e3
        walk_at "dc"
        refine ⟨a, L, us3, r3, 1, rfl, R3, ?_⟩
        cases e4 : linesF 1 r3 with
        | error f => exact q_error q (go_err (by rw [e3]; exact go_err e4))
        | ok u4 =>
          obtain ⟨old, r4⟩ := u4
          rintro _ H4 us4 k4 t4 R4 ⟨po, rfl, ho, ho1, ho2⟩
          have q := q.kp k4 t4
          obtain ⟨dx4, l4, xs4, h14, _⟩ := R4.ex
          walk_at "st"
          refine ⟨a, L, us4, r4, 0, rfl, R4, ?_⟩
          cases e5 : linesF 0 r4 with
          | error f => exact q_error q (go_err (by rw [e3, go_app e4]; exact go_err e5))
          | ok u5 =>
            obtain ⟨new, r5⟩ := u5
            rintro _ H5 us5 k5 t5 R5 ⟨pn, rfl, hn, hn1, hn2⟩
            walk_at "st"
            walk_at "nw"
            intro p6 H6 N6
            walk_at "st"
            refine c_addT (SqT.kp N6.kp (SqT.kt t5 (SqT.kt t4 hz))) (SqT.of N6.at_) (by rw [sizeLine_eq]; simp only [List.length_cons, List.length_nil]; omega) fun p7 H7 e7 hp7 => ?_
            walk_at "st"
            exact ⟨us5, r5, p7, .splice z old new, _, _, (R5.kp0 N6.kp).kp0 e7, ⟨po, pn, hp7, SqT.kp e7 (SqT.kp N6.kp (SqT.kt t5 ho)), SqT.kp e7 (SqT.kp N6.kp hn)⟩, ⟨hzt, ⟨by omega, ho2⟩, ⟨by omega, hn2⟩⟩, by rw [e3, go_app e4]; exact go_app e5,
              ((k4.trans k5).trans N6.kp).trans e7.mono, ((t4.trans t5).trans N6.kp.kt).trans e7.kt, rfl⟩
  · rintro _ H4 ⟨us4, r4, p4, x, o1, o2, R4, hA, hx, e4, k4, t4, rfl⟩
    have q := q.kp k4 t4
    rw [go_app e4] at q
    obtain ⟨dx3, l3, xs3, h13, _⟩ := R4.ex
    walk_at "st"
    refine ⟨a, L, us4, r4, _, rfl, R4, by decide +kernel, by decide +kernel, ?_⟩
    cases e5 : expF ")" r4 with
    | error f => exact q_error q (go_err e5)
    | ok u5 =>
      obtain ⟨u5, r5⟩ := u5
      rintro v5 H5 us5 k5 t5 R5 -
      rw [go_app e5] at q
      walk_at "st"
      exact q _ H5 us5 k5 t5 R5 ⟨p4, rfl, actAt_kt t5 hA, hx⟩
theorem M_Reader_action (T : TX K mg) : MethAt P w K mg base (L2.CX P w) "Reader" "action" 7 ["self"] (spRdAct K) :=
  meth_ofX T 84 123 sc_Reader_action bn_Reader_action (by walk_at "len") (b_Reader_action T)
end
end K45



namespace K45
open PySem L2 Sa
local macro_rules | `(tactic| walk_at "s1") => `(tactic| first | (with_reducible apply c_dgetK))
local macro_rules | `(tactic| walk_at "s1") => `(tactic| (with_reducible apply c_raiseO))
local macro_rules | `(tactic| walk_at "s1") => `(tactic| first | (with_reducible apply c_dgetK))
local macro_rules | `(tactic| walk_at "s1") => `(tactic| (with_reducible apply c_raiseO))
local macro_rules | `(tactic| walk_at "s1") => `(tactic| first | (with_reducible apply c_un) | (with_reducible apply c_negI))
local macro_rules | `(tactic| walk_at "s1") => `(tactic| first | ((with_reducible apply rd_g1 (by assumption)); (· walk_at "lk")) | ((with_reducible apply rd_p1 (by assumption)); (· walk_at "lk")) | ((with_reducible apply rd_g2 (by assumption)); (· walk_at "lk")) | ((with_reducible apply rd_p2 (by assumption)); (· walk_at "lk")) | ((with_reducible apply rd_r); (· walk_at "lk"); (· decide +kernel)))
set_option pp.maxSteps 1500
theorem fresh_two {x : Nat} {l c : Int} : (fresh x l c).1.length ≤ 1 := by
  unfold fresh
  split
  · exact Nat.zero_le _
  split
  · exact Nat.zero_le _
  split
  · exact Nat.le_refl _
  split <;> exact Nat.zero_le _
theorem step_two {m m' : Md} {x : Nat} {l c : Int} {es : List Tok} (h : stepM m x l c = some (es, m')) : es.length ≤ 2 := by
  have f := fresh_two (x := x) (l := l) (c := c)
  cases m with
  | nrm =>
    have h : some (fresh x l c) = some (es, m') := h
    injection h with h
    rw [h] at f
    exact Nat.le_succ_of_le f
  | wd w l0 c0 =>
    simp only [stepM] at h
    split at h
    · injection h with h; injection h with h _; subst h; rw [List.length_cons]; omega
    · injection h with h; injection h with h _; subst h; exact Nat.zero_le _
  | quo q l0 c0 =>
    simp only [stepM] at h
    split at h
    · injection h with h; injection h with h _; subst h; exact Nat.le_succ _
    · split at h
      · cases h
      · injection h with h; injection h with h _; subst h; exact Nat.zero_le _
theorem spl_many : ∀ {r : List Nat} {m : Md} {l c : Int} {ts : List Tok}, spl m r l c = .ok ts → ts.length ≤ 2 * r.length + 2
  | [], m, l, c, ts, h => by
    have h : lastM m l c = .ok ts := h
    cases m with
    | nrm => injection h with h; subst h; exact Nat.le_succ _
    | wd w l0 c0 => injection h with h; subst h; exact Nat.le_refl _
    | quo q l0 c0 => cases h
  | x :: r, m, l, c, ts, h => by
    cases e : stepM m x l c with
    | none => rw [spl_none e] at h; cases h
    | some p =>
      obtain ⟨es, m'⟩ := p
      rw [spl_step e] at h
      cases e2 : spl m' r (nxL x l) (nxC x c) with
      | error f => rw [e2] at h; cases h
      | ok us =>
        rw [e2] at h
        injection h with h
        have i1 := spl_many e2
        have i2 := step_two e
        rw [← h, List.length_append, List.length_cons]
        omega
section
variable {P : Program} {w : World} {K : PySem.W.Frag} {mg : Str → Option Value} {base : Heap}
theorem FltE.kp0a {E : XK} {H H1 : Hp} {a : Addr} {f : Flt} (h : FltE K E [] H f) (k : Kp [] H H1) (n : H a = none) : FltE K E [a] H1 f := fun H2 d H3 k2 t2 N => h H2 d H3 (Kp.drop_fresh (k.mono.trans k2) n) (k.kt.trans t2) N
theorem c_newRd {H : Hp} {z : Str} {Q : VK} {E : XK} (hz : z.length ≤ 8000) (hok : okS z = true) (q : ∀ ts, spl .nrm z.cps.toList 1 1 = .ok ts → ∀ x L H', Kp [] H H' → H x = none → RdAt K H' x L [] ts → Q (.ref x) H')
    (qe : ∀ f, spl .nrm z.cps.toList 1 1 = .error f → FltE K E [] H f) : NewK K "Reader" (spRdInit K) [.str z] H Q E := by
  intro x dx h1 h2 h3
  have k1 : Kp [] H (upd H dx (.own x)) := Kp.new h2
  have hx : upd H dx (.own x) x = none := by rw [upd_ne (Ne.symm h3)]; exact h1
  have k2 : Kp [] H (upd (upd H dx (.own x)) x (.ins (He.ga K "Reader") dx [])) := k1.trans (Kp.new hx)
  exact ⟨x, dx, z, rfl, upd_same, hz, hok, fun ts e H' L k R => ⟨rfl, q ts e x L H' (Kp.drop_fresh (k2.mono.trans k) h1) h1 R⟩, fun f e => (qe f e).kp0 k2⟩
def spRead (K : PySem.W.Frag) : Sp := fun vs H Q E => ∃ z : Str, vs = [.str z] ∧ z.length ≤ 1000000 ∧ okS z = true ∧ (8000 < z.length → RaisesE K H E "text") ∧
  (z.length ≤ 8000 → (∀ f, readTx z = .error f → FltE K E [] H f) ∧ (∀ acts, readTx z = .ok acts → (∀ x ∈ acts, x.tx) → ∀ H' p xs, Kp [] H H' → SqT K H' p xs → DtAll K H' xs (acts.map Action.d) → Q (.ref p) H'))
theorem sc_read_actions : FnScope ["text", "reader", "actions"] ["text"] (defScope s_read_actions) := ⟨rfl, rfl, rfl, by decide +kernel, rfl, by decide +kernel, by decide +kernel⟩
theorem bn_read_actions : BindN "read_actions" s_read_actions ["text"] := fun _ _ _ _ _ _ us hl => match us, hl with | [_], _ => rfl
theorem b_read_actions (T : TX K mg) : BodyX P w K mg base "read_actions" s_read_actions ["text", "reader", "actions"] 7 (spRead K) := by
  intro cdv A outer s H vs Q E h X hr tk
  obtain ⟨z, rfl, hz, hok, qo, q⟩ := h
  have C_Reader := C_Reader T; have E_OutOfRange := E_OutOfRange (P := P) (w := w) (base := base) T; have M_Reader___init__ := M_Reader___init__ (P := P) (w := w) (base := base) T; have M_Reader_action := M_Reader_action (P := P) (w := w) (base := base) T; have M_Reader_kind := M_Reader_kind (P := P) (w := w) (base := base) T; have Mk_Reader := Mk_Reader T
  refine ⟨_, (pss_cons (ps_if (pt_cmpR op_gtU (pe_callB (cr_len (K := K)) rfl (T.free 2) PySem.boot_len (pa_cons (pv 0) pa_nil)) (pe_gInt (T.int 55)) (nomark _)) (pss_one (ps_raiseE (K := K) E_OutOfRange hr tk (pa_cons pe_str pa_nil))) pss_nil) (pss_cons (ps_set (i := 1) sc_read_actions.nd rfl (Or.inl rfl) (pe_newS M_Reader___init__ Mk_Reader C_Reader hr (atW tk) (pa_cons (pv 0) pa_nil))) (pss_cons (ps_set (i := 2) sc_read_actions.nd rfl (Or.inl rfl) (pe_lst pa_nil)) (pss_cons (ps_while (passes_of rfl) (pt_cmpR (op_neU (K := K) hr.units) (pe_methS0 M_Reader_kind C_Reader hr at0 (pv 1)) pe_str (nomark _)) (pss_one (ps_expr (pe_appendU (K := K) (pv 2) (pe_methS0 M_Reader_action C_Reader hr (atW tk) (pv 1)))))) (pss_one (ps_ret (pe_callTy (cr_tuple (K := K)) rfl (T.free 28) (by decide +kernel) (pa_cons (pv 2) pa_nil)))))))), ?_⟩
  have hs : z.length ≤ sizeLine := by rw [sizeLine_eq]; omega
  walk_at "st"
  refine c_ite (fun g => ?_) (fun g => ?_)
  · walk_at "st"
    refine c_err fun d H1 N => ?_
    exact qo (by omega) d H1 N.kp N.at_
  obtain ⟨qe, q⟩ := q (by omega)
  walk_at "st"
  refine c_newRd (by omega) hok (fun ts e a L H1 k1 f1 R1 => ?_) (fun f e => qe f (by unfold readTx; rw [e]))
  have em : readTx z = readN ts.length ts := by unfold readTx; rw [e]
  rw [em] at qe q
  have tl := spl_many e
  have zl : z.length = z.cps.toList.length := rfl
  walk_at "st"
  walk_at "nw"
  intro l H2 N2
  walk_at "st"
  refine c_while (fun m σ' H' => ∃ us ts' xs acts, m = ts'.length ∧ RdAt K H' a L us ts' ∧ H' l = some (.lst xs) ∧ DtAll K H' xs (acts.map Action.d) ∧ (∀ x ∈ acts, x.tx) ∧ acts.length + ts'.length ≤ ts.length ∧ Kp [] H H' ∧
    (∃ n, ts'.length ≤ n ∧ readN ts.length ts = (readN n ts').map (acts ++ ·)) ∧ σ' = [some (.str z), some (.ref a), some (.ref l)]) ts.length ⟨[], ts, [], [], rfl, R1.kp0 N2.kp, N2.at_, .nil, (fun _ h => by cases h), by simp, k1.trans N2.kp, ⟨_, Nat.le_refl _, by cases readN ts.length ts <;> rfl⟩, rfl⟩ ?_
  rintro m _ H3 ⟨us, ts', xs, acts, rfl, R3, hl3, hd3, htx, hn, k3, ⟨n, n1, n2⟩, rfl⟩
  obtain ⟨t, r, rfl⟩ := fin_cons R3.fin
  obtain ⟨dx3, l3, xs3, h13, _⟩ := R3.ex
  have hla : l ≠ a := fun e => by rw [e, h13] at hl3; cases hl3
  obtain ⟨n, rfl⟩ : ∃ n', n = n' + 1 := ⟨n - 1, by rw [List.length_cons] at n1; omega⟩
  have fr : H l = none := by
    cases hh : H l with
    | none => rfl
    | some o =>
      have := k1.at0 hh
      rw [N2.fr] at this
      cases this
  walk_at "st"
  refine ⟨a, L, us, r, t, rfl, R3, ?_⟩
  walk_at "st"
  refine c_iteN (fun g => ?_) (fun g => ?_)
  · refine c_turn ?_
    have hl4' := hl3
    walk_at "st"
    refine ⟨a, L, us, t :: r, rfl, R3, ?_⟩
    cases e4 : actRF (t :: r) with
    | error f =>
      refine FltE.kp0a (qe f ?_) k3 f1
      rw [n2, readN, if_neg g, e4]
      rfl
    | ok u4 =>
      obtain ⟨x, r'⟩ := u4
      rintro _ H4 us4 k4 t4 R4 ⟨p, rfl, hA, hx⟩
      have hl4 := k4.at1 hla hl3
      have xl : xs.length < sizeLine := by rw [dta_len hd3, List.length_map, sizeLine_eq]; rw [List.length_cons] at hn; omega
      walk_at "st"
      have kt : Kt H4 (upd H4 l (.lst (xs ++ [.ref p]))) := Kt.upd1 (NoT.lst hl4)
      have al := act_len e4
      have k04 : Kp [] H H4 := (k3.mono.trans k4).drop_fresh f1
      refine ⟨r'.length, al, us4, r', xs ++ [.ref p], acts ++ [x], rfl, R4.kl hl4 (R1.neL N2.fr) _, upd_same, ?_, ?_, by rw [List.length_append, List.length_singleton]; omega, k04.fresh_mut fr, ⟨n, by omega, ?_⟩, rfl⟩
      · rw [List.map_append]
        exact dta_snoc (DtAll.kt kt (DtAll.kt t4 hd3)) (Dt.kt kt hA.dt)
      · intro y hy
        rcases List.mem_append.mp hy with hy | hy
        · exact htx y hy
        · rw [List.mem_singleton] at hy
          rw [hy]; exact hx
      · rw [n2, readN, if_neg g, e4]
        show ((readN n r').map (x :: ·)).map (acts ++ ·) = _
        cases readN n r' with
        | error f => rfl
        | ok ys => show Except.ok (acts ++ x :: ys) = Except.ok ((acts ++ [x]) ++ ys); rw [List.append_assoc]; rfl
  · walk_at "st"
    refine c_tupleL (SqL.of hl3) fun p H4 N4 => ?_
    refine q acts ?_ htx H4 p xs (k3.trans N4.kp) (SqT.of N4.at_) (hd3.kp N4.kp)
    rw [n2, readN, if_pos g]
    show Except.ok (acts ++ []) = _
    rw [List.append_nil]
theorem D_read_actions (T : TX K mg) : DefAt P w K mg base (L2.CX P w) "read_actions" 8 ["text"] (spRead K) :=
  def_ofX T 28 56 sc_read_actions bn_read_actions (by walk_at "len") (b_read_actions T)
end
end K45



namespace K45
open PySem L2 Sa
local macro_rules | `(tactic| walk_at "s1") => `(tactic| first | (with_reducible apply c_dgetK))
local macro_rules | `(tactic| walk_at "s1") => `(tactic| (with_reducible apply c_raiseO))
local macro_rules | `(tactic| walk_at "s1") => `(tactic| first | (with_reducible apply c_dgetK))
local macro_rules | `(tactic| walk_at "s1") => `(tactic| (with_reducible apply c_raiseO))
local macro_rules | `(tactic| walk_at "s1") => `(tactic| first | (with_reducible apply c_un) | (with_reducible apply c_negI))
set_option pp.maxSteps 1500
def quoS (y : Str) : Str := PySem.Str.ofString "\"" ++ y ++ PySem.Str.ofString "\""
def itemS (ls : List Str) : Str := PySem.Str.ofString "[" ++ Txt.join (PySem.Str.ofString " ") (ls.map quoS) ++ PySem.Str.ofString "]"
def placeS (z : Str) : Str := if z = PySem.Str.ofString "" then PySem.Str.ofString "." else z
def Action.parts : Action → List Str
  | .read p => ["read", placeS p]
  | .kind p => ["kind", placeS p]
  | .list p => ["list", placeS p]
  | .find z u => ["find", placeS z, quoS u]
  | .count p => ["count", placeS p]
  | .write p ls => ["write", placeS p, itemS ls]
  | .remove p => ["remove", placeS p]
  | .move p t => ["move", placeS p, t]
  | .splice p o n => ["splice", placeS p, itemS o, itemS n]
def wrA (x : Action) : Str := PySem.Str.ofString "(" ++ Txt.join (PySem.Str.ofString " ") x.parts ++ PySem.Str.ofString ")\n"
theorem app_len (a b : Str) : (a ++ b).length = a.length + b.length := by
  show (a ++ b).cps.toList.length = a.cps.toList.length + b.cps.toList.length
  rw [cps_app, List.length_append]
theorem quoS_len (y : Str) : (quoS y).length = y.length + 2 := by
  unfold quoS
  rw [app_len, app_len, show (PySem.Str.ofString "\"").length = 1 from by decide +kernel]
  omega
theorem join_most {m : Nat} {s : Str} {ys : List Str} (h : ∀ y ∈ ys, y.length ≤ m) : (Txt.join s ys).length ≤ ys.length * m + ys.length * s.length := by
  rw [tjoin, ← join_len]
  have := sum_le h
  have : (ys.length - 1) * s.length ≤ ys.length * s.length := Nat.mul_le_mul_right _ (by omega)
  omega
theorem itemS_len {ls : List Str} (h : LsTx ls) : (itemS ls).length ≤ 310 := by
  unfold itemS
  have j := join_most (s := PySem.Str.ofString " ") (m := 22) (ys := ls.map quoS) fun y hy => by
    obtain ⟨z, hz, rfl⟩ := List.mem_map.mp hy
    rw [quoS_len]
    have := (h.tx z hz).len
    omega
  rw [List.length_map] at j
  have e1 : (PySem.Str.ofString " ").length = 1 := by decide +kernel
  have e2 : (PySem.Str.ofString "[").length = 1 := by decide +kernel
  have e3 : (PySem.Str.ofString "]").length = 1 := by decide +kernel
  rw [app_len, app_len, e2, e3]
  rw [e1] at j
  have := h.len
  omega
theorem placeS_len (z : Str) : (placeS z).length ≤ z.length + 1 := by
  unfold placeS
  split
  · have : (PySem.Str.ofString ".").length = 1 := by decide +kernel
    omega
  · omega
theorem words_len : ∀ z ∈ ([PySem.Str.ofString "read", "kind", "list", "find", "count", "write", "remove", "move", "splice"] : List Str), z.length ≤ 8002 := by decide +kernel
theorem parts_len {x : Action} (h : x.tx) : x.parts.length ≤ 4 ∧ ∀ y ∈ x.parts, y.length ≤ 8002 := by
  have wl := words_len
  simp only [List.mem_cons, List.not_mem_nil, or_false, forall_eq_or_imp, forall_eq] at wl
  obtain ⟨w1, w2, w3, w4, w5, w6, w7, w8, w9⟩ := wl
  have one : ∀ {p w : Str}, TxOk p 8000 → w.length ≤ 8002 → ∀ y ∈ [w, placeS p], y.length ≤ 8002 := fun {p w} hp hw y hy => by
    simp only [List.mem_cons, List.not_mem_nil, or_false] at hy
    rcases hy with rfl | rfl
    · exact hw
    · have := placeS_len p; have := hp.len; omega
  cases x with
  | read p => exact ⟨Nat.le_of_ble_eq_true rfl, one h w1⟩
  | kind p => exact ⟨Nat.le_of_ble_eq_true rfl, one h w2⟩
  | list p => exact ⟨Nat.le_of_ble_eq_true rfl, one h w3⟩
  | count p => exact ⟨Nat.le_of_ble_eq_true rfl, one h w5⟩
  | remove p => exact ⟨Nat.le_of_ble_eq_true rfl, one h w7⟩
  | find z u =>
    refine ⟨Nat.le_of_ble_eq_true rfl, fun y hy => ?_⟩
    have hy : y ∈ [PySem.Str.ofString "find", placeS z] ++ [quoS u] := hy
    rcases List.mem_append.mp hy with hy | hy
    · exact one h.1 w4 y hy
    · rw [List.mem_singleton] at hy; rw [hy, quoS_len]; have := h.2.len; omega
  | move z u =>
    refine ⟨Nat.le_of_ble_eq_true rfl, fun y hy => ?_⟩
    have hy : y ∈ [PySem.Str.ofString "move", placeS z] ++ [u] := hy
    rcases List.mem_append.mp hy with hy | hy
    · exact one h.1 w8 y hy
    · rw [List.mem_singleton] at hy; rw [hy]; have := h.2.len; omega
  | write z ls =>
    refine ⟨Nat.le_of_ble_eq_true rfl, fun y hy => ?_⟩
    have hy : y ∈ [PySem.Str.ofString "write", placeS z] ++ [itemS ls] := hy
    rcases List.mem_append.mp hy with hy | hy
    · exact one h.1 w6 y hy
    · rw [List.mem_singleton] at hy; rw [hy]; have := itemS_len h.2; omega
  | splice z o n =>
    refine ⟨Nat.le_of_ble_eq_true rfl, fun y hy => ?_⟩
    have hy : y ∈ [PySem.Str.ofString "splice", placeS z] ++ [itemS o, itemS n] := hy
    rcases List.mem_append.mp hy with hy | hy
    · exact one h.1 w9 y hy
    · simp only [List.mem_cons, List.not_mem_nil, or_false] at hy
      rcases hy with rfl | rfl
      · have := itemS_len h.2.1; omega
      · have := itemS_len h.2.2; omega
theorem c_extL {l b : Addr} {xs zs : List V} {H : Hp} {Q : VK} (h1 : H l = some (.lst xs)) (h2 : H b = some (.lst zs)) (hz : xs.length + zs.length ≤ sizeLine) (q : Q .non (upd H l (.lst (xs ++ zs)))) : rExtend (.ref l) [.ref b] H Q := ⟨l, b, xs, zs, rfl, rfl, h1, h2, hz, q⟩
theorem c_ifV {c : Prop} [Decidable c] {σ : St} {H : Hp} {Q : VK} {te : TE} {s : Str} (y : Str) (h : ∀ R : VK, R (.str y) H → te σ H R) (q : Q (.str (if c then s else y)) H) : if decide c = true then tC (.str s) σ H Q else te σ H Q := by
  by_cases hc : c
  · rw [if_pos (decide_eq_true hc)]
    rw [if_pos hc] at q
    exact q
  · rw [if_neg (by rw [decide_eq_true_eq]; exact hc)]
    rw [if_neg hc] at q
    exact h Q q
section
variable {P : Program} {w : World} {K : PySem.W.Frag} {mg : Str → Option Value} {base : Heap}
def spWrItem (K : PySem.W.Frag) : Sp := fun vs H Q _ => ∃ (a : Addr) (ls : List Str), vs = [.ref a] ∧ SqT K H a (ls.map V.str) ∧ LsTx ls ∧ ∀ H', Kp [] H H' → Q (.str (itemS ls)) H'
theorem sc__write_item : FnScope ["item", "line"] ["item"] (defScope s__write_item) := ⟨rfl, rfl, rfl, by decide +kernel, rfl, by decide +kernel, by decide +kernel⟩
theorem bn__write_item : BindN "_write_item" s__write_item ["item"] := fun _ _ _ _ _ _ us hl => match us, hl with | [_], _ => rfl
theorem b__write_item (T : TX K mg) : Body P w K mg base "_write_item" s__write_item ["item", "line"] 1 (spWrItem K) := by
  intro cdv A outer s H vs Q E h X hr
  obtain ⟨a, ls, rfl, ha, hl, q⟩ := h
  refine ⟨_, (pss_one (ps_ret (pe_op (op_addU (K := K)) (pe_op (op_addU (K := K)) pe_str (pe_joinU (K := K) pe_str (pe_lc (own := [("line", 1)]) rfl sc__write_item.nd (pi_tupU (K := K) (pv 0)) (blkOk_by (N := ["item", "line"]) (sc := defScope s__write_item) (by decide +kernel)) (fun _ _ _ _ _ => (pg_name (i := 1) sc__write_item.nd rfl (Or.inl rfl))) (fun _ _ _ _ _ => pts_nil) (fun _ _ _ _ _ => (pe_op (op_addU (K := K)) (pe_op (op_addU (K := K)) pe_str (pv 1)) pe_str))))) pe_str))), ?_⟩
  have lu := hl.len
  walk_at "st"
  refine lcT_map (fun y => .str (quoS y)) (fun _ => true) ha (by omega) (fun y H' R S hy e k1 k2 => ?_) (fun Dl H' hD e hacc => ?_)
  · have yl := (hl.tx y hy).len
    walk_at "st"
    refine ⟨rfl, ?_⟩
    walk_at "st"
    refine c_addS (by rw [sizeLine_eq, show (PySem.Str.ofString "\"").length = 1 from by decide +kernel]; omega) ?_
    walk_at "st"
    refine c_addS (by rw [sizeLine_eq, app_len, show (PySem.Str.ofString "\"").length = 1 from by decide +kernel]; omega) ?_
    exact k1 rfl _ Kp.refl
  · rw [List.filter_eq_self.mpr (fun _ _ => rfl)] at hacc
    walk_at "st"
    have jm := join_most (s := PySem.Str.ofString " ") (m := 22) (ys := ls.map quoS) fun y hy => by
      obtain ⟨z, hz, rfl⟩ := List.mem_map.mp hy
      rw [quoS_len]
      have := (hl.tx z hz).len
      omega
    have il := itemS_len hl
    unfold itemS at il
    rw [app_len, app_len] at il
    refine c_join (ys := ls.map quoS) (SqL.of (by rw [List.map_map]; exact hacc)) ?_ ?_
    · have := sum_le (m := 22) (ns := ls.map quoS) fun y hy => by
        obtain ⟨z, hz, rfl⟩ := List.mem_map.mp hy
        rw [quoS_len]
        have := (hl.tx z hz).len
        omega
      rw [List.length_map] at this ⊢
      have e1 : (PySem.Str.ofString " ").length = 1 := by decide +kernel
      rw [e1]
      omega
    walk_at "st"
    refine c_addS (by rw [sizeLine_eq]; omega) ?_
    walk_at "st"
    refine c_addS (by rw [sizeLine_eq, app_len]; omega) ?_
    exact q H' e
theorem D__write_item (T : TX K mg) : DefAt P w K mg base CX0 "_write_item" 2 ["item"] (spWrItem K) :=
  def_of T 22 44 sc__write_item bn__write_item (by walk_at "len") (b__write_item T)
def spWrAct (K : PySem.W.Frag) : Sp := fun vs H Q _ => ∃ (a : Addr) (x : Action), vs = [.ref a] ∧ ActAt K H a x ∧ x.tx ∧ ∀ H', Kp [] H H' → Q (.str (wrA x)) H'
theorem sc__write_action : FnScope ["action", "word", "parts", "item"] ["action"] (defScope s__write_action) := ⟨rfl, rfl, rfl, by decide +kernel, rfl, by decide +kernel, by decide +kernel⟩
theorem bn__write_action : BindN "_write_action" s__write_action ["action"] := fun _ _ _ _ _ _ us hl => match us, hl with | [_], _ => rfl
theorem b__write_action (T : TX K mg) : Body P w K mg base "_write_action" s__write_action ["action", "word", "parts", "item"] 2 (spWrAct K) := by
  intro cdv A outer s H vs Q E h X hr
  obtain ⟨a, x, rfl, ha, hx, q⟩ := h
  have D__write_item := D__write_item (P := P) (w := w) (base := base) T
  refine ⟨_, (pss_cons (ps_set (i := 1) sc__write_action.nd rfl (Or.inl rfl) (pe_ix (ix_U (K := K)) (pv 0) pe_int (fun _ _ => rfl))) (pss_cons (ps_set (i := 2) sc__write_action.nd rfl (Or.inl rfl) (pe_lst (pa_cons (pv 1) (pa_cons (pe_ifExp (pt_cmpR (op_eqU (K := K) hr.units) (pe_ix (ix_U (K := K)) (pv 0) pe_int (fun _ _ => rfl)) pe_str (nomark _)) (pe_gStr (T.str 45)) (pe_ix (ix_U (K := K)) (pv 0) pe_int (fun _ _ => rfl))) pa_nil)))) (pss_cons (ps_if (pt_cmpR (op_eqU (K := K) hr.units) (pv 1) pe_str (nomark _)) (pss_one (ps_expr (pe_appendU (K := K) (pv 2) (pe_op (op_addU (K := K)) (pe_op (op_addU (K := K)) pe_str (pe_ix (ix_U (K := K)) (pv 0) pe_int (fun _ _ => rfl))) pe_str)))) (pss_one (ps_if (pt_cmpR (op_eqU (K := K) hr.units) (pv 1) pe_str (nomark _)) (pss_one (ps_expr (pe_appendU (K := K) (pv 2) (pe_ix (ix_U (K := K)) (pv 0) pe_int (fun _ _ => rfl))))) (pss_one (ps_expr (pe_extendU (K := K) (pv 2) (pe_lc (own := [("item", 3)]) rfl sc__write_action.nd (pi_tupU (K := K) (pe_slice (sl_U (K := K)) (pv 0) (po_some pe_int) po_none)) (blkOk_by (N := ["action", "word", "parts", "item"]) (sc := defScope s__write_action) (by decide +kernel)) (fun _ _ _ _ _ => (pg_name (i := 3) sc__write_action.nd rfl (Or.inl rfl))) (fun _ _ _ _ _ => pts_nil) (fun _ _ _ _ _ => (pe_callA D__write_item hr pass0 (pa_cons (pv 3) pa_nil)))))))))) (pss_one (ps_ret (pe_op (op_addU (K := K)) (pe_op (op_addU (K := K)) pe_str (pe_joinU (K := K) pe_str (pv 2))) pe_str)))))), ?_⟩
  obtain ⟨pl, pm⟩ := parts_len hx
  have fin : ∀ {H1 : Hp} {l : Addr} {Q1 : VK}, Kp [] H H1 → H1 l = some (.lst (x.parts.map V.str)) → (∀ z : Str, z.length ≤ 40000 → wrA x = PySem.Str.ofString "(" ++ z ++ PySem.Str.ofString ")\n" → Q1 (.str z) H1) → rJoin K (.str (PySem.Str.ofString " ")) [.ref l] H1 Q1 := fun {H1 l Q1} e1 hl h => by
    have e1 : (PySem.Str.ofString " ").length = 1 := by decide +kernel
    refine c_join (ys := x.parts) (SqL.of hl) ?_ (h _ ?_ rfl)
    · have := sum_le (m := 8002) pm
      have : x.parts.length * 8002 ≤ 4 * 8002 := Nat.mul_le_mul_right _ pl
      rw [e1]
      omega
    · have j := join_most (s := PySem.Str.ofString " ") (m := 8002) pm
      have : x.parts.length * 8002 ≤ 4 * 8002 := Nat.mul_le_mul_right _ pl
      rw [e1] at j
      omega
  cases x with
  | read p =>
    walk_at "st"
    refine c_ifV p (fun R r => ?_) ?_
    · walk_at "st"
      exact r
    walk_at "st"
    walk_at "nw"
    intro l H1 N1
    have h1 := N1.at_
    have ha := SqT.kp N1.kp ha
    walk_at "dc"
    refine c_slT ha fun pe H2 e2 he => ?_
    have he : SqT K H2 pe ((([]) : List (Addr × List Str)).map fun z => V.ref z.1) := he
    have h2 := e2.at0 h1
    walk_at "st"
    refine lcT_map (u := fun z : Addr × List Str => V.ref z.1) (fun z => .str (itemS z.2)) (fun _ => true) he (by simp) (fun z H' R S hz e k1 k2 => ?_) (fun Dl H3 hD e hacc => ?_)
    · exact absurd hz (by simp)
    rw [List.filter_eq_self.mpr (fun _ _ => rfl)] at hacc
    have h3 := e.at0 h2
    have ne : Dl ≠ l := fun z => by rw [z, h2] at hD; cases hD
    walk_at "st"
    refine c_extL h3 hacc (by rw [sizeLine_eq]; exact Nat.le_of_ble_eq_true rfl) ?_
    have h4 : upd H3 l (.lst ([.str "read", .str (placeS p)] ++ [])) l = some (.lst ([.str "read", .str (placeS p)] ++ [])) := upd_same
    have k4 : Kp [] H (upd H3 l (.lst ([.str "read", .str (placeS p)] ++ []))) := (((N1.kp (ms := [])).trans e2).trans e).fresh_mut N1.fr
    walk_at "st"
    refine fin k4 h4 fun z hz ez => ?_
    walk_at "st"
    refine c_addS (by rw [sizeLine_eq, show (PySem.Str.ofString "(").length = 1 from by decide +kernel]; omega) ?_
    walk_at "st"
    refine c_addS (by rw [sizeLine_eq, app_len, show (PySem.Str.ofString "(").length = 1 from by decide +kernel, show (PySem.Str.ofString ")\n").length = 2 from by decide +kernel]; omega) ?_
    rw [← ez]
    exact q _ k4
  | kind p =>
    walk_at "st"
    refine c_ifV p (fun R r => ?_) ?_
    · walk_at "st"
      exact r
    walk_at "st"
    walk_at "nw"
    intro l H1 N1
    have h1 := N1.at_
    have ha := SqT.kp N1.kp ha
    walk_at "dc"
    refine c_slT ha fun pe H2 e2 he => ?_
    have he : SqT K H2 pe ((([]) : List (Addr × List Str)).map fun z => V.ref z.1) := he
    have h2 := e2.at0 h1
    walk_at "st"
    refine lcT_map (u := fun z : Addr × List Str => V.ref z.1) (fun z => .str (itemS z.2)) (fun _ => true) he (by simp) (fun z H' R S hz e k1 k2 => ?_) (fun Dl H3 hD e hacc => ?_)
    · exact absurd hz (by simp)
    rw [List.filter_eq_self.mpr (fun _ _ => rfl)] at hacc
    have h3 := e.at0 h2
    have ne : Dl ≠ l := fun z => by rw [z, h2] at hD; cases hD
    walk_at "st"
    refine c_extL h3 hacc (by rw [sizeLine_eq]; exact Nat.le_of_ble_eq_true rfl) ?_
    have h4 : upd H3 l (.lst ([.str "kind", .str (placeS p)] ++ [])) l = some (.lst ([.str "kind", .str (placeS p)] ++ [])) := upd_same
    have k4 : Kp [] H (upd H3 l (.lst ([.str "kind", .str (placeS p)] ++ []))) := (((N1.kp (ms := [])).trans e2).trans e).fresh_mut N1.fr
    walk_at "st"
    refine fin k4 h4 fun z hz ez => ?_
    walk_at "st"
    refine c_addS (by rw [sizeLine_eq, show (PySem.Str.ofString "(").length = 1 from by decide +kernel]; omega) ?_
    walk_at "st"
    refine c_addS (by rw [sizeLine_eq, app_len, show (PySem.Str.ofString "(").length = 1 from by decide +kernel, show (PySem.Str.ofString ")\n").length = 2 from by decide +kernel]; omega) ?_
    rw [← ez]
    exact q _ k4
  | list p =>
    walk_at "st"
    refine c_ifV p (fun R r => ?_) ?_
    · walk_at "st"
      exact r
    walk_at "st"
    walk_at "nw"
    intro l H1 N1
    have h1 := N1.at_
    have ha := SqT.kp N1.kp ha
    walk_at "dc"
    refine c_slT ha fun pe H2 e2 he => ?_
    have he : SqT K H2 pe ((([]) : List (Addr × List Str)).map fun z => V.ref z.1) := he
    have h2 := e2.at0 h1
    walk_at "st"
    refine lcT_map (u := fun z : Addr × List Str => V.ref z.1) (fun z => .str (itemS z.2)) (fun _ => true) he (by simp) (fun z H' R S hz e k1 k2 => ?_) (fun Dl H3 hD e hacc => ?_)
    · exact absurd hz (by simp)
    rw [List.filter_eq_self.mpr (fun _ _ => rfl)] at hacc
    have h3 := e.at0 h2
    have ne : Dl ≠ l := fun z => by rw [z, h2] at hD; cases hD
    walk_at "st"
    refine c_extL h3 hacc (by rw [sizeLine_eq]; exact Nat.le_of_ble_eq_true rfl) ?_
    have h4 : upd H3 l (.lst ([.str "list", .str (placeS p)] ++ [])) l = some (.lst ([.str "list", .str (placeS p)] ++ [])) := upd_same
    have k4 : Kp [] H (upd H3 l (.lst ([.str "list", .str (placeS p)] ++ []))) := (((N1.kp (ms := [])).trans e2).trans e).fresh_mut N1.fr
    walk_at "st"
    refine fin k4 h4 fun z hz ez => ?_
    walk_at "st"
    refine c_addS (by rw [sizeLine_eq, show (PySem.Str.ofString "(").length = 1 from by decide +kernel]; omega) ?_
    walk_at "st"
    refine c_addS (by rw [sizeLine_eq, app_len, show (PySem.Str.ofString "(").length = 1 from by decide +kernel, show (PySem.Str.ofString ")\n").length = 2 from by decide +kernel]; omega) ?_
    rw [← ez]
    exact q _ k4
  | find p u =>
    walk_at "st"
    refine c_ifV p (fun R r => ?_) ?_
    · walk_at "st"
      exact r
    walk_at "st"
    walk_at "nw"
    intro l H1 N1
    have h1 := N1.at_
    have ha := SqT.kp N1.kp ha
    walk_at "dc"
    have ul := hx.2.len
    refine c_addS (by rw [sizeLine_eq, show (PySem.Str.ofString "\"").length = 1 from by decide +kernel]; omega) ?_
    walk_at "st"
    refine c_addS (by rw [sizeLine_eq, app_len, show (PySem.Str.ofString "\"").length = 1 from by decide +kernel]; omega) ?_
    walk_at "st"
    have h4 : upd H1 l (.lst ([.str "find", .str (placeS p)] ++ [.str (quoS u)])) l = some (.lst ([.str "find", .str (placeS p)] ++ [.str (quoS u)])) := upd_same
    have k4 : Kp [] H (upd H1 l (.lst ([.str "find", .str (placeS p)] ++ [.str (quoS u)]))) := (N1.kp (ms := [])).fresh_mut N1.fr
    walk_at "st"
    refine fin k4 h4 fun z hz ez => ?_
    walk_at "st"
    refine c_addS (by rw [sizeLine_eq, show (PySem.Str.ofString "(").length = 1 from by decide +kernel]; omega) ?_
    walk_at "st"
    refine c_addS (by rw [sizeLine_eq, app_len, show (PySem.Str.ofString "(").length = 1 from by decide +kernel, show (PySem.Str.ofString ")\n").length = 2 from by decide +kernel]; omega) ?_
    rw [← ez]
    exact q _ k4
  | count p =>
    walk_at "st"
    refine c_ifV p (fun R r => ?_) ?_
    · walk_at "st"
      exact r
    walk_at "st"
    walk_at "nw"
    intro l H1 N1
    have h1 := N1.at_
    have ha := SqT.kp N1.kp ha
    walk_at "dc"
    refine c_slT ha fun pe H2 e2 he => ?_
    have he : SqT K H2 pe ((([]) : List (Addr × List Str)).map fun z => V.ref z.1) := he
    have h2 := e2.at0 h1
    walk_at "st"
    refine lcT_map (u := fun z : Addr × List Str => V.ref z.1) (fun z => .str (itemS z.2)) (fun _ => true) he (by simp) (fun z H' R S hz e k1 k2 => ?_) (fun Dl H3 hD e hacc => ?_)
    · exact absurd hz (by simp)
    rw [List.filter_eq_self.mpr (fun _ _ => rfl)] at hacc
    have h3 := e.at0 h2
    have ne : Dl ≠ l := fun z => by rw [z, h2] at hD; cases hD
    walk_at "st"
    refine c_extL h3 hacc (by rw [sizeLine_eq]; exact Nat.le_of_ble_eq_true rfl) ?_
    have h4 : upd H3 l (.lst ([.str "count", .str (placeS p)] ++ [])) l = some (.lst ([.str "count", .str (placeS p)] ++ [])) := upd_same
    have k4 : Kp [] H (upd H3 l (.lst ([.str "count", .str (placeS p)] ++ []))) := (((N1.kp (ms := [])).trans e2).trans e).fresh_mut N1.fr
    walk_at "st"
    refine fin k4 h4 fun z hz ez => ?_
    walk_at "st"
    refine c_addS (by rw [sizeLine_eq, show (PySem.Str.ofString "(").length = 1 from by decide +kernel]; omega) ?_
    walk_at "st"
    refine c_addS (by rw [sizeLine_eq, app_len, show (PySem.Str.ofString "(").length = 1 from by decide +kernel, show (PySem.Str.ofString ")\n").length = 2 from by decide +kernel]; omega) ?_
    rw [← ez]
    exact q _ k4
  | write p ls =>
    obtain ⟨la, ha, hla⟩ := ha
    walk_at "st"
    refine c_ifV p (fun R r => ?_) ?_
    · walk_at "st"
      exact r
    walk_at "st"
    walk_at "nw"
    intro l H1 N1
    have h1 := N1.at_
    have ha := SqT.kp N1.kp ha
    walk_at "dc"
    refine c_slT ha fun pe H2 e2 he => ?_
    have he : SqT K H2 pe ((([(la, ls)]) : List (Addr × List Str)).map fun z => V.ref z.1) := he
    have h2 := e2.at0 h1
    walk_at "st"
    refine lcT_map (u := fun z : Addr × List Str => V.ref z.1) (fun z => .str (itemS z.2)) (fun _ => true) he (by simp) (fun z H' R S hz e k1 k2 => ?_) (fun Dl H3 hD e hacc => ?_)
    · walk_at "st"
      refine ⟨rfl, ?_⟩
      walk_at "st"
      refine ⟨z.1, z.2, rfl, ?_, ?_, fun H4 e4 => k1 rfl _ e4⟩
      · simp only [List.mem_cons, List.not_mem_nil, or_false] at hz
        subst hz; exact SqT.kp e (SqT.kp e2 (SqT.kp N1.kp hla))
      · simp only [List.mem_cons, List.not_mem_nil, or_false] at hz
        subst hz; exact hx.2
    rw [List.filter_eq_self.mpr (fun _ _ => rfl)] at hacc
    have h3 := e.at0 h2
    have ne : Dl ≠ l := fun z => by rw [z, h2] at hD; cases hD
    walk_at "st"
    refine c_extL h3 hacc (by rw [sizeLine_eq]; exact Nat.le_of_ble_eq_true rfl) ?_
    have h4 : upd H3 l (.lst ([.str "write", .str (placeS p)] ++ [.str (itemS ls)])) l = some (.lst ([.str "write", .str (placeS p)] ++ [.str (itemS ls)])) := upd_same
    have k4 : Kp [] H (upd H3 l (.lst ([.str "write", .str (placeS p)] ++ [.str (itemS ls)]))) := (((N1.kp (ms := [])).trans e2).trans e).fresh_mut N1.fr
    walk_at "st"
    refine fin k4 h4 fun z hz ez => ?_
    walk_at "st"
    refine c_addS (by rw [sizeLine_eq, show (PySem.Str.ofString "(").length = 1 from by decide +kernel]; omega) ?_
    walk_at "st"
    refine c_addS (by rw [sizeLine_eq, app_len, show (PySem.Str.ofString "(").length = 1 from by decide +kernel, show (PySem.Str.ofString ")\n").length = 2 from by decide +kernel]; omega) ?_
    rw [← ez]
    exact q _ k4
  | remove p =>
    walk_at "st"
    refine c_ifV p (fun R r => ?_) ?_
    · walk_at "st"
      exact r
    walk_at "st"
    walk_at "nw"
    intro l H1 N1
    have h1 := N1.at_
    have ha := SqT.kp N1.kp ha
    walk_at "dc"
    refine c_slT ha fun pe H2 e2 he => ?_
    have he : SqT K H2 pe ((([]) : List (Addr × List Str)).map fun z => V.ref z.1) := he
    have h2 := e2.at0 h1
    walk_at "st"
    refine lcT_map (u := fun z : Addr × List Str => V.ref z.1) (fun z => .str (itemS z.2)) (fun _ => true) he (by simp) (fun z H' R S hz e k1 k2 => ?_) (fun Dl H3 hD e hacc => ?_)
    · exact absurd hz (by simp)
    rw [List.filter_eq_self.mpr (fun _ _ => rfl)] at hacc
    have h3 := e.at0 h2
    have ne : Dl ≠ l := fun z => by rw [z, h2] at hD; cases hD
    walk_at "st"
    refine c_extL h3 hacc (by rw [sizeLine_eq]; exact Nat.le_of_ble_eq_true rfl) ?_
    have h4 : upd H3 l (.lst ([.str "remove", .str (placeS p)] ++ [])) l = some (.lst ([.str "remove", .str (placeS p)] ++ [])) := upd_same
    have k4 : Kp [] H (upd H3 l (.lst ([.str "remove", .str (placeS p)] ++ []))) := (((N1.kp (ms := [])).trans e2).trans e).fresh_mut N1.fr
    walk_at "st"
    refine fin k4 h4 fun z hz ez => ?_
    walk_at "st"
    refine c_addS (by rw [sizeLine_eq, show (PySem.Str.ofString "(").length = 1 from by decide +kernel]; omega) ?_
    walk_at "st"
    refine c_addS (by rw [sizeLine_eq, app_len, show (PySem.Str.ofString "(").length = 1 from by decide +kernel, show (PySem.Str.ofString ")\n").length = 2 from by decide +kernel]; omega) ?_
    rw [← ez]
    exact q _ k4
  | move p u =>
    walk_at "st"
    refine c_ifV p (fun R r => ?_) ?_
    · walk_at "st"
      exact r
    walk_at "st"
    walk_at "nw"
    intro l H1 N1
    have h1 := N1.at_
    have ha := SqT.kp N1.kp ha
    walk_at "dc"
    have h4 : upd H1 l (.lst ([.str "move", .str (placeS p)] ++ [.str u])) l = some (.lst ([.str "move", .str (placeS p)] ++ [.str u])) := upd_same
    have k4 : Kp [] H (upd H1 l (.lst ([.str "move", .str (placeS p)] ++ [.str u]))) := (N1.kp (ms := [])).fresh_mut N1.fr
    walk_at "st"
    refine fin k4 h4 fun z hz ez => ?_
    walk_at "st"
    refine c_addS (by rw [sizeLine_eq, show (PySem.Str.ofString "(").length = 1 from by decide +kernel]; omega) ?_
    walk_at "st"
    refine c_addS (by rw [sizeLine_eq, app_len, show (PySem.Str.ofString "(").length = 1 from by decide +kernel, show (PySem.Str.ofString ")\n").length = 2 from by decide +kernel]; omega) ?_
    rw [← ez]
    exact q _ k4
  | splice p o n =>
    obtain ⟨la, lb, ha, hla, hlb⟩ := ha
    walk_at "st"
    refine c_ifV p (fun R r => ?_) ?_
    · walk_at "st"
      exact r
    walk_at "st"
    walk_at "nw"
    intro l H1 N1
    have h1 := N1.at_
    have ha := SqT.kp N1.kp ha
    walk_at "dc"
    refine c_slT ha fun pe H2 e2 he => ?_
    have he : SqT K H2 pe ((([(la, o), (lb, n)]) : List (Addr × List Str)).map fun z => V.ref z.1) := he
    have h2 := e2.at0 h1
    walk_at "st"
    refine lcT_map (u := fun z : Addr × List Str => V.ref z.1) (fun z => .str (itemS z.2)) (fun _ => true) he (by simp) (fun z H' R S hz e k1 k2 => ?_) (fun Dl H3 hD e hacc => ?_)
    · walk_at "st"
      refine ⟨rfl, ?_⟩
      walk_at "st"
      refine ⟨z.1, z.2, rfl, ?_, ?_, fun H4 e4 => k1 rfl _ e4⟩
      · simp only [List.mem_cons, List.not_mem_nil, or_false] at hz
        rcases hz with rfl | rfl
        · exact SqT.kp e (SqT.kp e2 (SqT.kp N1.kp hla))
        · exact SqT.kp e (SqT.kp e2 (SqT.kp N1.kp hlb))
      · simp only [List.mem_cons, List.not_mem_nil, or_false] at hz
        rcases hz with rfl | rfl
        · exact hx.2.1
        · exact hx.2.2
    rw [List.filter_eq_self.mpr (fun _ _ => rfl)] at hacc
    have h3 := e.at0 h2
    have ne : Dl ≠ l := fun z => by rw [z, h2] at hD; cases hD
    walk_at "st"
    refine c_extL h3 hacc (by rw [sizeLine_eq]; exact Nat.le_of_ble_eq_true rfl) ?_
    have h4 : upd H3 l (.lst ([.str "splice", .str (placeS p)] ++ [.str (itemS o), .str (itemS n)])) l = some (.lst ([.str "splice", .str (placeS p)] ++ [.str (itemS o), .str (itemS n)])) := upd_same
    have k4 : Kp [] H (upd H3 l (.lst ([.str "splice", .str (placeS p)] ++ [.str (itemS o), .str (itemS n)]))) := (((N1.kp (ms := [])).trans e2).trans e).fresh_mut N1.fr
    walk_at "st"
    refine fin k4 h4 fun z hz ez => ?_
    walk_at "st"
    refine c_addS (by rw [sizeLine_eq, show (PySem.Str.ofString "(").length = 1 from by decide +kernel]; omega) ?_
    walk_at "st"
    refine c_addS (by rw [sizeLine_eq, app_len, show (PySem.Str.ofString "(").length = 1 from by decide +kernel, show (PySem.Str.ofString ")\n").length = 2 from by decide +kernel]; omega) ?_
    rw [← ez]
    exact q _ k4
theorem D__write_action (T : TX K mg) : DefAt P w K mg base CX0 "_write_action" 3 ["action"] (spWrAct K) :=
  def_of T 23 46 sc__write_action bn__write_action (by walk_at "len") (b__write_action T)
end
end K45



namespace K45
open PySem L2 Sa
local macro_rules | `(tactic| walk_at "s1") => `(tactic| first | (with_reducible apply c_dgetK))
local macro_rules | `(tactic| walk_at "s1") => `(tactic| (with_reducible apply c_raiseO))
local macro_rules | `(tactic| walk_at "s1") => `(tactic| first | (with_reducible apply c_dgetK))
local macro_rules | `(tactic| walk_at "s1") => `(tactic| (with_reducible apply c_raiseO))
local macro_rules | `(tactic| walk_at "s1") => `(tactic| first | (with_reducible apply c_un) | (with_reducible apply c_negI))
set_option pp.maxSteps 1500
section
variable {P : Program} {w : World} {K : PySem.W.Frag} {mg : Str → Option Value} {base : Heap}
def wrAs (acts : List Action) : Str := Txt.join (PySem.Str.ofString "") (acts.map wrA)
theorem zip_dt {H : Hp} : ∀ {xs : List V} {acts : List Action}, DtAll K H xs (acts.map Action.d) → ∀ p ∈ xs.zip acts, Dt K H p.1 p.2.d
  | [], [], _ => fun p hp => by cases hp
  | [], x :: r, h => by have := dta_len h; simp at this
  | v :: xs, [], h => by have := dta_len h; simp at this
  | v :: xs, x :: r, h => fun p hp => by
    obtain ⟨v', vs, e1, h1, h2⟩ := dta_cons h
    injection e1 with e1 e2
    subst e1; subst e2
    rcases List.mem_cons.mp hp with rfl | hp
    · exact h1
    · exact zip_dt h2 p hp
def spWrActs (K : PySem.W.Frag) : Sp := fun vs H Q _ => ∃ (a : Addr) (xs : List V) (acts : List Action), vs = [.ref a] ∧ (SqL K H a xs ∨ SqT K H a xs) ∧ DtAll K H xs (acts.map Action.d) ∧ (∀ x ∈ acts, x.tx) ∧ ((acts.map wrA).map (·.length)).sum ≤ 15000000 ∧ acts.length ≤ 20000 ∧
  ∀ H', Kp [] H H' → Q (.str (wrAs acts)) H'
theorem sc_write_actions : FnScope ["actions", "action"] ["actions"] (defScope s_write_actions) := ⟨rfl, rfl, rfl, by decide +kernel, rfl, by decide +kernel, by decide +kernel⟩
theorem bn_write_actions : BindN "write_actions" s_write_actions ["actions"] := fun _ _ _ _ _ _ us hl => match us, hl with | [_], _ => rfl
theorem b_write_actions (T : TX K mg) : Body P w K mg base "write_actions" s_write_actions ["actions", "action"] 3 (spWrActs K) := by
  intro cdv A outer s H vs Q E h X hr
  obtain ⟨a, xs, acts, rfl, ha, hd, htx, hs, hn, q⟩ := h
  have D__write_action := D__write_action (P := P) (w := w) (base := base) T
  refine ⟨_, (pss_one (ps_ret (pe_joinU (K := K) pe_str (pe_lc (own := [("action", 1)]) rfl sc_write_actions.nd (pi_seq (K := K) (pv 0)) (blkOk_by (N := ["actions", "action"]) (sc := defScope s_write_actions) (by decide +kernel)) (fun _ _ _ _ _ => (pg_name (i := 1) sc_write_actions.nd rfl (Or.inl rfl))) (fun _ _ _ _ _ => pts_nil) (fun _ _ _ _ _ => (pe_callA D__write_action hr pass0 (pa_cons (pv 1) pa_nil))))))), ?_⟩
  have xl : xs.length = acts.length := by rw [dta_len hd, List.length_map]
  have em : (xs.zip acts).map Prod.fst = xs := List.map_fst_zip (by omega)
  have em2 : (xs.zip acts).map Prod.snd = acts := List.map_snd_zip (by omega)
  have ha' : SqL K H a ((xs.zip acts).map fun z => z.1) ∨ SqT K H a ((xs.zip acts).map fun z => z.1) := by rw [show ((xs.zip acts).map fun z => z.1) = xs from em]; exact ha
  walk_at "st"
  rcases ha' with ha' | ha'
  · refine ⟨a, rfl, .inl ⟨⟨_, ha'⟩, ?_⟩⟩
    refine lcL_map (u := fun z : V × Action => z.1) (fun z => .str (wrA z.2)) (fun _ => true) ha' (by rw [List.length_zip]; omega) (fun z H' R S hz e k1 k2 => ?_) (fun Dl H3 hD e hacc => ?_)
    · obtain ⟨b, eb, hb⟩ := ActAt.of (zip_dt hd z hz)
      walk_at "st"
      refine ⟨rfl, ?_⟩
      rw [eb]
      walk_at "st"
      exact ⟨b, z.2, rfl, hb.kp e, htx _ (by rw [← em2]; exact List.mem_map_of_mem hz), fun H4 e4 => k1 rfl _ e4⟩
    · rw [List.filter_eq_self.mpr (fun _ _ => rfl)] at hacc
      have e3 : ((xs.zip acts).map fun z => V.str (wrA z.2)) = (acts.map wrA).map V.str := by
        rw [show ((xs.zip acts).map fun z => V.str (wrA z.2)) = (((xs.zip acts).map Prod.snd).map wrA).map V.str from by rw [List.map_map, List.map_map]; rfl, em2]
      rw [e3] at hacc
      walk_at "st"
      refine c_join (ys := acts.map wrA) (SqL.of hacc) ?_ ?_
      · have e1 : (PySem.Str.ofString "").length = 0 := by decide +kernel
        rw [e1]
        omega
      walk_at "st"
      exact q H3 e
  · refine ⟨a, rfl, .inr ⟨⟨_, ha'⟩, ?_⟩⟩
    refine lcT_map (u := fun z : V × Action => z.1) (fun z => .str (wrA z.2)) (fun _ => true) ha' (by rw [List.length_zip]; omega) (fun z H' R S hz e k1 k2 => ?_) (fun Dl H3 hD e hacc => ?_)
    · obtain ⟨b, eb, hb⟩ := ActAt.of (zip_dt hd z hz)
      walk_at "st"
      refine ⟨rfl, ?_⟩
      rw [eb]
      walk_at "st"
      exact ⟨b, z.2, rfl, hb.kp e, htx _ (by rw [← em2]; exact List.mem_map_of_mem hz), fun H4 e4 => k1 rfl _ e4⟩
    · rw [List.filter_eq_self.mpr (fun _ _ => rfl)] at hacc
      have e3 : ((xs.zip acts).map fun z => V.str (wrA z.2)) = (acts.map wrA).map V.str := by
        rw [show ((xs.zip acts).map fun z => V.str (wrA z.2)) = (((xs.zip acts).map Prod.snd).map wrA).map V.str from by rw [List.map_map, List.map_map]; rfl, em2]
      rw [e3] at hacc
      walk_at "st"
      refine c_join (ys := acts.map wrA) (SqL.of hacc) ?_ ?_
      · have e1 : (PySem.Str.ofString "").length = 0 := by decide +kernel
        rw [e1]
        omega
      walk_at "st"
      exact q H3 e
theorem D_write_actions (T : TX K mg) : DefAt P w K mg base CX0 "write_actions" 4 ["actions"] (spWrActs K) :=
  def_of T 24 47 sc_write_actions bn_write_actions (by walk_at "len") (b_write_actions T)
end
end K45



namespace K45
open PySem L2 Sa
abbrev KT := Str × Str
def Tok.k (t : Tok) : KT := (t.kind, t.text)
inductive Mo where
  | nrm | wd (w : List Nat) | quo (q : List Nat)
def Md.no : Md → Mo
  | .nrm => .nrm
  | .wd w _ _ => .wd w
  | .quo q _ _ => .quo q
def wordK (w : List Nat) : KT := (PySem.Str.ofString "word", txt w)
def quoK (q : List Nat) : KT := (PySem.Str.ofString "quoted", txt q)
def signK (x : Nat) : KT := (PySem.Str.ofString "sign", txt [x])
def endK : KT := (PySem.Str.ofString "end", PySem.Str.ofString "")
def freshK (x : Nat) : List KT × Mo :=
  if x = 10 then ([], .nrm) else if x = 34 then ([], .quo []) else if x ∈ signsL then ([signK x], .nrm) else if x = 32 then ([], .nrm) else ([], .wd [x])
def stepK (m : Mo) (x : Nat) : Option (List KT × Mo) := match m with
  | .nrm => some (freshK x)
  | .wd w => if x ∈ endsL then some (wordK w :: (freshK x).1, (freshK x).2) else some ([], .wd (w ++ [x]))
  | .quo q => if x = 34 then some ([quoK q], .nrm) else if x = 10 then none else some ([], .quo (q ++ [x]))
def lastK : Mo → Option (List KT)
  | .nrm => some [endK]
  | .wd w => some [wordK w, endK]
  | .quo _ => none
def lx : Mo → List Nat → Option (List KT)
  | m, [] => lastK m
  | m, x :: r => match stepK m x with
    | none => none
    | some (es, m') => (lx m' r).map (es ++ ·)
theorem lx_step {m m' : Mo} {x : Nat} {r : List Nat} {es : List KT} (e : stepK m x = some (es, m')) : lx m (x :: r) = (lx m' r).map (es ++ ·) := by rw [lx, e]
theorem lx_none {m : Mo} {x : Nat} {r : List Nat} (e : stepK m x = none) : lx m (x :: r) = none := by rw [lx, e]
theorem mapk_nil (e : Option (List KT)) : e.map (([] : List KT) ++ ·) = e := by cases e <;> rfl
theorem mapk_app (e : Option (List KT)) (a b : List KT) : (e.map (b ++ ·)).map (a ++ ·) = e.map ((a ++ b) ++ ·) := by
  cases e with
  | none => rfl
  | some ts => show some (a ++ (b ++ ts)) = some ((a ++ b) ++ ts); rw [List.append_assoc]
theorem fresh_k (x : Nat) (l c : Int) : ((fresh x l c).1.map Tok.k, (fresh x l c).2.no) = freshK x := by
  unfold fresh freshK
  split
  · rfl
  split
  · rfl
  split
  · rfl
  split <;> rfl
theorem step_k (m : Md) (x : Nat) (l c : Int) : (stepM m x l c).map (fun p => (p.1.map Tok.k, p.2.no)) = stepK m.no x := by
  cases m with
  | nrm => exact congrArg some (fresh_k x l c)
  | wd w l0 c0 =>
    have f := fresh_k x l c
    simp only [stepM, stepK, Md.no]
    split
    · show some (wordK w :: (fresh x l c).1.map Tok.k, (fresh x l c).2.no) = _
      rw [← f]
    · rfl
  | quo q l0 c0 =>
    simp only [stepM, stepK, Md.no]
    split
    · rfl
    split <;> rfl
theorem spl_lx : ∀ {r : List Nat} {m : Md} {l c : Int} {ks : List KT}, lx m.no r = some ks → ∃ ts, spl m r l c = .ok ts ∧ ts.map Tok.k = ks
  | [], m, l, c, ks, h => by
    have h : lastK m.no = some ks := h
    cases m with
    | nrm => injection h with h; exact ⟨_, rfl, h⟩
    | wd w l0 c0 => injection h with h; exact ⟨_, rfl, h⟩
    | quo q l0 c0 => cases h
  | x :: r, m, l, c, ks, h => by
    have s := step_k m x l c
    cases e : stepM m x l c with
    | none => rw [e] at s; rw [lx_none s.symm] at h; cases h
    | some p =>
      obtain ⟨es, m'⟩ := p
      rw [e] at s
      rw [lx_step s.symm] at h
      cases e2 : lx m'.no r with
      | none => rw [e2] at h; cases h
      | some us =>
        rw [e2] at h
        injection h with h
        obtain ⟨ts, h1, h2⟩ := spl_lx (l := nxL x l) (c := nxC x c) e2
        refine ⟨es ++ ts, by rw [spl_step e, h1]; rfl, ?_⟩
        rw [List.map_append, h2]
        exact h
theorem lx_nl {r : List Nat} : lx .nrm (10 :: r) = lx .nrm r := by rw [lx_step (m' := .nrm) (es := []) rfl, mapk_nil]
theorem lx_sp {r : List Nat} : lx .nrm (32 :: r) = lx .nrm r := by 
  have e : stepK .nrm 32 = some ([], .nrm) := by
    show some (freshK 32) = _
    unfold freshK
    rw [if_neg (by decide), if_neg (by decide), if_neg (by decide +kernel), if_pos rfl]
  rw [lx_step e, mapk_nil]
theorem lx_sg {x : Nat} {r : List Nat} (h : x ∈ signsL) : lx .nrm (x :: r) = (lx .nrm r).map ([signK x] ++ ·) := by
  obtain ⟨h1, h2, h3⟩ := signs_ne h
  refine lx_step ?_
  show some (freshK x) = _
  unfold freshK
  rw [if_neg h1, if_neg h2, if_pos h]
theorem lx_q0 {r : List Nat} : lx .nrm (34 :: r) = lx (.quo []) r := by rw [lx_step (m' := .quo []) (es := []) rfl, mapk_nil]
theorem lx_w0 {x : Nat} {r : List Nat} (h : x ∉ endsL) : lx .nrm (x :: r) = lx (.wd [x]) r := by
  have h' := h
  rw [ends_iff] at h'
  simp only [not_or] at h'
  obtain ⟨h1, h2, h3, h4⟩ := h'
  have e : stepK .nrm x = some ([], .wd [x]) := by
    show some (freshK x) = _
    unfold freshK
    rw [if_neg h2, if_neg h3, if_neg h4, if_neg h1]
  rw [lx_step e, mapk_nil]
theorem lx_w1 {w : List Nat} {x : Nat} {r : List Nat} (h : x ∉ endsL) : lx (.wd w) (x :: r) = lx (.wd (w ++ [x])) r := by
  have e : stepK (.wd w) x = some ([], .wd (w ++ [x])) := by
    show (if x ∈ endsL then _ else _) = _
    rw [if_neg h]
  rw [lx_step e, mapk_nil]
theorem lx_w2 {w : List Nat} {x : Nat} {r : List Nat} (h : x ∈ endsL) : lx (.wd w) (x :: r) = (lx .nrm (x :: r)).map ([wordK w] ++ ·) := by
  have e : stepK (.wd w) x = some (wordK w :: (freshK x).1, (freshK x).2) := by
    show (if x ∈ endsL then _ else _) = _
    rw [if_pos h]
  rw [lx_step e, lx_step (m := .nrm) (m' := (freshK x).2) (es := (freshK x).1) rfl, mapk_app]
  rfl
theorem lx_q1 {q : List Nat} {x : Nat} {r : List Nat} (h1 : x ≠ 34) (h2 : x ≠ 10) : lx (.quo q) (x :: r) = lx (.quo (q ++ [x])) r := by
  have e : stepK (.quo q) x = some ([], .quo (q ++ [x])) := by
    show (if x = 34 then _ else if x = 10 then _ else _) = _
    rw [if_neg h1, if_neg h2]
  rw [lx_step e, mapk_nil]
theorem lx_q2 {q : List Nat} {r : List Nat} : lx (.quo q) (34 :: r) = (lx .nrm r).map ([quoK q] ++ ·) := lx_step rfl
theorem lx_word : ∀ {w2 w : List Nat} {x : Nat} {r : List Nat}, (∀ y ∈ w2, y ∉ endsL) → x ∈ endsL → lx (.wd w) (w2 ++ x :: r) = (lx .nrm (x :: r)).map ([wordK (w ++ w2)] ++ ·)
  | [], w, x, r, _, hx => by rw [List.nil_append, List.append_nil]; exact lx_w2 hx
  | y :: w2, w, x, r, h, hx => by
    rw [List.cons_append, lx_w1 (h y (List.mem_cons_self ..)), lx_word (fun z hz => h z (List.mem_cons_of_mem _ hz)) hx, List.append_assoc]
    rfl
theorem lx_quo : ∀ {q2 q r : List Nat}, (∀ y ∈ q2, y ≠ 34 ∧ y ≠ 10) → lx (.quo q) (q2 ++ 34 :: r) = (lx .nrm r).map ([quoK (q ++ q2)] ++ ·)
  | [], q, r, _ => by rw [List.nil_append, List.append_nil]; exact lx_q2
  | y :: q2, q, r, h => by
    obtain ⟨h1, h2⟩ := h y (List.mem_cons_self ..)
    rw [List.cons_append, lx_q1 h1 h2, lx_quo (fun z hz => h z (List.mem_cons_of_mem _ hz)), List.append_assoc]
    rfl
def Bl (b : List Nat) : Prop := ∀ x ∈ b, x = 32 ∨ x = 10
inductive Ls : Bool → List Nat → List Nat → Prop
  | nil {q : Bool} : Ls q [] []
  | word {x : Nat} {r s : List Nat} : x ∉ endsL → Ls false r s → Ls false (x :: r) (x :: s)
  | blank {x : Nat} {b r s : List Nat} : (x = 32 ∨ x = 10) → Bl b → Ls false r s → Ls false (x :: r) (b ++ x :: s)
  | sign {x : Nat} {a b r s : List Nat} : x ∈ signsL → Bl a → Bl b → Ls false r s → Ls false (x :: r) (a ++ x :: (b ++ s))
  | opens {b r s : List Nat} : Bl b → Ls true r s → Ls false (34 :: r) (b ++ 34 :: s)
  | inside {x : Nat} {r s : List Nat} : x ≠ 34 → Ls true r s → Ls true (x :: r) (x :: s)
  | closes {b r s : List Nat} : Bl b → Ls false r s → Ls true (34 :: r) (34 :: (b ++ s))
def Mo.q : Mo → Bool
  | .quo _ => true
  | _ => false
end K45



namespace K45
open PySem L2 Sa
def lineK (y : Str) : KT := (PySem.Str.ofString "quoted", y)
def wdK (y : Str) : KT := (PySem.Str.ofString "word", y)
def sgK (y : Str) : KT := (PySem.Str.ofString "sign", y)
def linesK (ls : List Str) : List KT := sgK "[" :: (ls.map lineK ++ [sgK "]"])
def Action.restK : Action → List KT
  | .read p => [wdK "read", wdK (placeS p)]
  | .kind p => [wdK "kind", wdK (placeS p)]
  | .list p => [wdK "list", wdK (placeS p)]
  | .find z u => [wdK "find", wdK (placeS z), lineK u]
  | .count p => [wdK "count", wdK (placeS p)]
  | .write p ls => [wdK "write", wdK (placeS p)] ++ linesK ls
  | .remove p => [wdK "remove", wdK (placeS p)]
  | .move p t => [wdK "move", wdK (placeS p), wdK t]
  | .splice p o n => [wdK "splice", wdK (placeS p)] ++ linesK o ++ linesK n
def toksK (x : Action) : List KT := sgK "(" :: (x.restK ++ [sgK ")"])
theorem k_cons {ts : List Tok} {k : KT} {ks : List KT} (h : ts.map Tok.k = k :: ks) : ∃ t r, ts = t :: r ∧ t.k = k ∧ r.map Tok.k = ks := by
  cases ts with
  | nil => cases h
  | cons t r => rw [List.map_cons] at h; injection h with h1 h2; exact ⟨t, r, rfl, h1, h2⟩
theorem exp_k {ts : List Tok} {s : Str} {ks : List KT} (h : ts.map Tok.k = sgK s :: ks) : ∃ r, expF s ts = .ok ((), r) ∧ r.map Tok.k = ks := by
  obtain ⟨t, r, rfl, h1, h2⟩ := k_cons h
  have h1 : (t.kind, t.text) = (PySem.Str.ofString "sign", s) := h1
  injection h1 with h3 h4
  refine ⟨r, ?_, h2⟩
  rw [expF, if_pos]
  unfold isSg
  rw [h3, h4, decide_eq_true_eq]
theorem take_k {ts : List Tok} {k w u : Str} {p : Str → Bool} {ks : List KT} (h : ts.map Tok.k = (k, u) :: ks) (hp : p u = true) : ∃ r, takeP k p w ts = .ok (u, r) ∧ r.map Tok.k = ks := by
  obtain ⟨t, r, rfl, h1, h2⟩ := k_cons h
  have h1 : (t.kind, t.text) = (k, u) := h1
  injection h1 with h3 h4
  refine ⟨r, ?_, h2⟩
  rw [← h4]
  exact take_ok h3 (by rw [h4]; exact hp)
theorem sg_line (y : Str) (s : Str) {t : Tok} (h : t.k = lineK y) : isSg s t = false := by
  have h : (t.kind, t.text) = (PySem.Str.ofString "quoted", y) := h
  injection h with h1 h2
  unfold isSg
  rw [h1, decide_eq_false_iff_not]
  intro e
  injection e with e _
  exact absurd e (by decide +kernel)
theorem linesL_k {n : Nat} {ks : List KT} : ∀ {ls found : List Str} {ts : List Tok}, ts.map Tok.k = ls.map lineK ++ sgK "]" :: ks → (∀ y ∈ ls, y.length ≤ 20) → found.length + ls.length ≤ 12 → n ≤ found.length + ls.length →
    ∃ r, linesL n found ts = .ok (found ++ ls, r) ∧ r.map Tok.k = ks
  | [], found, ts, h, _, _, hn => by
    obtain ⟨t, r, rfl, h1, h2⟩ := k_cons h
    have h1 : (t.kind, t.text) = (PySem.Str.ofString "sign", PySem.Str.ofString "]") := h1
    injection h1 with h3 h4
    have hs : isSg "]" t = true := by unfold isSg; rw [h3, h4, decide_eq_true_eq]
    refine ⟨r, ?_, h2⟩
    rw [linesL, if_neg, List.append_nil]
    rintro (h | h)
    · simp only [List.length_nil] at hn; omega
    · rw [hs] at h; cases h
  | y :: ls, found, ts, h, hy, hm, hn => by
    obtain ⟨t, r, rfl, h1, h2⟩ := k_cons h
    have hs := sg_line y "]" h1
    have h1 : (t.kind, t.text) = (PySem.Str.ofString "quoted", y) := h1
    injection h1 with h3 h4
    have yl := hy y (List.mem_cons_self ..)
    rw [List.length_cons] at hm hn
    obtain ⟨r', h5, h6⟩ := linesL_k (n := n) (ks := ks) (ls := ls) (found := found ++ [y]) (ts := r) h2 (fun z hz => hy z (List.mem_cons_of_mem _ hz)) (by rw [List.length_append, List.length_singleton]; omega) (by rw [List.length_append, List.length_singleton]; omega)
    refine ⟨r', ?_, h6⟩
    rw [linesL, if_pos (.inr hs), if_pos h3, h4, if_neg (by omega), if_neg (by omega), h5, List.append_assoc]
    rfl
theorem lines_k {n : Nat} {ls : List Str} {ts : List Tok} {ks : List KT} (h : ts.map Tok.k = linesK ls ++ ks) (hl : isLinesS ls = true) (hn : n ≤ ls.length) : ∃ r, linesF n ts = .ok (ls, r) ∧ r.map Tok.k = ks := by
  have h : ts.map Tok.k = sgK "[" :: (ls.map lineK ++ [sgK "]"]) ++ ks := h
  rw [List.cons_append, List.append_assoc] at h
  obtain ⟨r, h1, h2⟩ := exp_k h
  obtain ⟨l1, l2⟩ := lines_len hl
  obtain ⟨r', h3, h4⟩ := linesL_k (n := n) (ks := ks) (ls := ls) (found := []) h2 (fun y hy => (l2 y hy).1) (by simpa using l1) (by simpa using hn)
  exact ⟨r', by unfold linesF; rw [go_app h1, h3]; rfl, h4⟩
theorem path_nd {p : Str} (h : isPathS p = true) : p ≠ PySem.Str.ofString "." ∧ p ≠ PySem.Str.ofString "" := by
  constructor
  · rintro rfl
    exact absurd h (by decide +kernel)
  · rintro rfl
    exact absurd h (by decide +kernel)
theorem placeS_path {p : Str} (h : isPathS p = true) : placeS p = p := by unfold placeS; rw [if_neg (path_nd h).2]
theorem place_back {z : Str} (h : isPlaceS z = true) : placeB (placeS z) = true ∧ toPlace (placeS z) = z := by
  unfold isPlaceS at h
  rw [Bool.or_eq_true, decide_eq_true_eq] at h
  rcases h with rfl | h
  · exact ⟨by decide +kernel, by decide +kernel⟩
  · rw [placeS_path h]
    unfold placeB toPlace
    rw [h, Bool.or_true, if_neg (path_nd h).1]
    exact ⟨rfl, rfl⟩
theorem place_k {ts : List Tok} {z : Str} {ks : List KT} (h : ts.map Tok.k = wdK (placeS z) :: ks) (hz : isPlaceS z = true) : ∃ r, placeF ts = .ok (z, r) ∧ r.map Tok.k = ks := by
  obtain ⟨h1, h2⟩ := place_back hz
  obtain ⟨r, h3, h4⟩ := take_k (p := placeB) (w := "expected a place") h h1
  exact ⟨r, by unfold placeF; rw [go_app h3, h2], h4⟩
theorem path_k {ts : List Tok} {p : Str} {ks : List KT} (h : ts.map Tok.k = wdK p :: ks) (hp : isPathS p = true) : ∃ r, pathF ts = .ok (p, r) ∧ r.map Tok.k = ks := take_k h hp
theorem quoW_k {ts : List Tok} {u : Str} {ks : List KT} (h : ts.map Tok.k = lineK u :: ks) (hu : isWordS u = true) : ∃ r, quoWF ts = .ok (u, r) ∧ r.map Tok.k = ks := by
  refine take_k h ?_
  unfold isWordS at hu
  simp only [Bool.and_eq_true] at hu
  unfold quoWB
  rw [hu.1.1, hu.1.2]
  rfl
theorem act_k {x : Action} {ts : List Tok} {ks : List KT} (h : ts.map Tok.k = toksK x ++ ks) (hb : x.bad = none) : ∃ r, actRF ts = .ok (x, r) ∧ r.map Tok.k = ks := by
  have h : ts.map Tok.k = sgK "(" :: (x.restK ++ [sgK ")"]) ++ ks := h
  rw [List.cons_append, List.append_assoc] at h
  obtain ⟨r1, e1, h1⟩ := exp_k h
  suffices ∃ wd r2 r3, wordF r1 = .ok (wd, r2) ∧ restF wd r2 = .ok (x, r3) ∧ r3.map Tok.k = [sgK ")"] ++ ks by
    obtain ⟨wd, r2, r3, e2, e3, h3⟩ := this
    obtain ⟨r4, e4, h4⟩ := exp_k h3
    exact ⟨r4, by unfold actRF; rw [go_app e1, go_app e2, go_app e3, go_app e4], h4⟩
  have wd : ∀ {w : Str} {ks : List KT}, r1.map Tok.k = wdK w :: ks → wordB w = true → ∃ r, wordF r1 = .ok (w, r) ∧ r.map Tok.k = ks := fun h hw => take_k h hw
  cases x with
  | read p =>
    simp only [Action.bad] at hb
    split at hb
    · rename_i hp
      obtain ⟨r2, e2, h2⟩ := wd h1 (by decide +kernel)
      rw [placeS_path hp] at h2
      obtain ⟨r3, e3, h3⟩ := path_k h2 hp
      exact ⟨_, r2, r3, e2, by rw [rest_read, go_app e3], h3⟩
    · cases hb
  | remove p =>
    simp only [Action.bad] at hb
    split at hb
    · rename_i hp
      obtain ⟨r2, e2, h2⟩ := wd h1 (by decide +kernel)
      rw [placeS_path hp] at h2
      obtain ⟨r3, e3, h3⟩ := path_k h2 hp
      exact ⟨_, r2, r3, e2, by rw [rest_remove, go_app e3], h3⟩
    · cases hb
  | kind p =>
    simp only [Action.bad] at hb
    split at hb
    · rename_i hp
      obtain ⟨r2, e2, h2⟩ := wd h1 (by decide +kernel)
      obtain ⟨r3, e3, h3⟩ := place_k h2 hp
      exact ⟨_, r2, r3, e2, by rw [rest_kind, go_app e3], h3⟩
    · cases hb
  | list p =>
    simp only [Action.bad] at hb
    split at hb
    · rename_i hp
      obtain ⟨r2, e2, h2⟩ := wd h1 (by decide +kernel)
      obtain ⟨r3, e3, h3⟩ := place_k h2 hp
      exact ⟨_, r2, r3, e2, by rw [rest_list, go_app e3], h3⟩
    · cases hb
  | count p =>
    simp only [Action.bad] at hb
    split at hb
    · rename_i hp
      obtain ⟨r2, e2, h2⟩ := wd h1 (by decide +kernel)
      obtain ⟨r3, e3, h3⟩ := place_k h2 hp
      exact ⟨_, r2, r3, e2, by rw [rest_count, go_app e3], h3⟩
    · cases hb
  | find p u =>
    simp only [Action.bad] at hb
    split at hb
    · rename_i hp
      split at hb
      · rename_i hu
        obtain ⟨r2, e2, h2⟩ := wd h1 (by decide +kernel)
        obtain ⟨r3, e3, h3⟩ := place_k h2 hp
        obtain ⟨r4, e4, h4⟩ := quoW_k h3 hu
        exact ⟨_, r2, r4, e2, by rw [rest_find, go_app e3, go_app e4], h4⟩
      · cases hb
    · cases hb
  | move p u =>
    simp only [Action.bad] at hb
    split at hb
    · rename_i hp
      split at hb
      · rename_i hu
        obtain ⟨r2, e2, h2⟩ := wd h1 (by decide +kernel)
        rw [placeS_path hp] at h2
        obtain ⟨r3, e3, h3⟩ := path_k h2 hp
        obtain ⟨r4, e4, h4⟩ := path_k h3 hu
        exact ⟨_, r2, r4, e2, by rw [rest_move, go_app e3, go_app e4], h4⟩
      · cases hb
    · cases hb
  | write p ls =>
    simp only [Action.bad] at hb
    split at hb
    · rename_i hp
      split at hb
      · rename_i hl
        have h1 : r1.map Tok.k = wdK "write" :: wdK (placeS p) :: (linesK ls ++ ([sgK ")"] ++ ks)) := by rw [h1]; show _ ++ _ = _; simp [Action.restK]
        obtain ⟨r2, e2, h2⟩ := wd h1 (by decide +kernel)
        rw [placeS_path hp] at h2
        obtain ⟨r3, e3, h3⟩ := path_k h2 hp
        obtain ⟨r4, e4, h4⟩ := lines_k (n := 0) h3 hl (Nat.zero_le _)
        exact ⟨_, r2, r4, e2, by rw [rest_write, go_app e3, go_app e4], h4⟩
      · cases hb
    · cases hb
  | splice p o n =>
    simp only [Action.bad] at hb
    split at hb
    · rename_i hp
      split at hb
      · rename_i ho
        split at hb
        · rename_i hn
          rw [Bool.and_eq_true, decide_eq_true_eq] at ho
          have h1 : r1.map Tok.k = wdK "splice" :: wdK (placeS p) :: (linesK o ++ (linesK n ++ ([sgK ")"] ++ ks))) := by rw [h1]; show _ ++ _ = _; simp [Action.restK]
          obtain ⟨r2, e2, h2⟩ := wd h1 (by decide +kernel)
          rw [placeS_path hp] at h2
          obtain ⟨r3, e3, h3⟩ := path_k h2 hp
          obtain ⟨r4, e4, h4⟩ := lines_k (n := 1) h3 ho.1 ho.2
          obtain ⟨r5, e5, h5⟩ := lines_k (n := 0) h4 hn (Nat.zero_le _)
          exact ⟨_, r2, r5, e2, by rw [rest_splice, go_app e3, go_app e4, go_app e5], h5⟩
        · cases hb
      · cases hb
    · cases hb
theorem read_k : ∀ {n : Nat} {acts : List Action} {ts : List Tok}, ts.map Tok.k = acts.flatMap toksK ++ [endK] → (∀ x ∈ acts, x.bad = none) → ts.length ≤ n → readN n ts = .ok acts
  | n, acts, [], h, _, _ => by
    have := congrArg List.length h
    rw [List.length_append] at this
    simp at this
  | 0, acts, t :: r, _, _, hn => by simp at hn
  | n + 1, [], t :: r, h, _, _ => by
    rw [List.map_cons] at h
    injection h with h _
    have h : (t.kind, t.text) = (PySem.Str.ofString "end", PySem.Str.ofString "") := h
    injection h with h _
    rw [readN, if_pos h]
  | n + 1, x :: acts, t :: r, h, hb, hn => by
    have hk : t.kind ≠ "end" := by
      rw [List.map_cons, List.flatMap_cons] at h
      injection h with h _
      have h : (t.kind, t.text) = (PySem.Str.ofString "sign", PySem.Str.ofString "(") := h
      injection h with h _
      rw [h]
      decide +kernel
    rw [List.flatMap_cons, List.append_assoc] at h
    obtain ⟨r', e1, h1⟩ := act_k h (hb x (List.mem_cons_self ..))
    have l1 := act_len e1
    rw [readN, if_neg hk, e1]
    show (readN n r').map (x :: ·) = _
    rw [read_k h1 (fun y hy => hb y (List.mem_cons_of_mem _ hy)) (by omega)]
    rfl
theorem read_lx {z : Str} {acts : List Action} (h : lx .nrm z.cps.toList = some (acts.flatMap toksK ++ [endK])) (hb : ∀ x ∈ acts, x.bad = none) : readTx z = .ok acts := by
  obtain ⟨ts, h1, h2⟩ := spl_lx (m := .nrm) (l := 1) (c := 1) h
  unfold readTx
  rw [h1]
  exact read_k h2 hb (Nat.le_refl _)
end K45



namespace K45
open PySem L2 Sa
def joinN : List (List Nat) → List Nat
  | [] => []
  | [a] => a
  | a :: b :: r => a ++ 32 :: joinN (b :: r)
theorem join_n : ∀ ys : List Str, (Txt.join (PySem.Str.ofString " ") ys).cps.toList = joinN (ys.map fun y => y.cps.toList)
  | [] => by rw [tjoin]; rfl
  | [a] => by rw [tjoin]; rfl
  | a :: b :: r => by
    have ih := join_n (b :: r)
    rw [tjoin] at ih ⊢
    show (a ++ PySem.Str.ofString " " ++ Str.join (PySem.Str.ofString " ") (b :: r)).cps.toList = _
    rw [cps_app, cps_app, ih, show (PySem.Str.ofString " ").cps.toList = [32] from by decide +kernel]
    show (a.cps.toList ++ [32]) ++ joinN _ = a.cps.toList ++ 32 :: joinN _
    rw [List.append_assoc]
    rfl
def Pt (s : List Nat) (ks : List KT) : Prop := ∀ e r, e ∈ endsL → lx .nrm (s ++ e :: r) = (lx .nrm (e :: r)).map (ks ++ ·)
theorem pt_word {w : List Nat} (h0 : w ≠ []) (h : ∀ y ∈ w, y ∉ endsL) : Pt w [wordK w] := fun e r he => by
  cases w with
  | nil => exact absurd rfl h0
  | cons x w =>
    rw [List.cons_append, lx_w0 (h x (List.mem_cons_self ..)), lx_word (fun y hy => h y (List.mem_cons_of_mem _ hy)) he]
    rfl
theorem pt_quo {q : List Nat} (h : ∀ y ∈ q, y ≠ 34 ∧ y ≠ 10) : Pt ([34] ++ q ++ [34]) [quoK q] := fun e r he => by
  rw [List.append_assoc, List.append_assoc]
  show lx .nrm (34 :: (q ++ ([34] ++ e :: r))) = _
  rw [lx_q0]
  exact lx_quo h
theorem pt_join : ∀ {ps : List (List Nat × List KT)}, ps ≠ [] → (∀ p ∈ ps, Pt p.1 p.2) → Pt (joinN (ps.map Prod.fst)) (ps.flatMap Prod.snd)
  | [], h, _ => absurd rfl h
  | [p], _, h => fun e r he => by
    have := h p (List.mem_cons_self ..) e r he
    simp only [List.map_cons, List.map_nil, joinN, List.flatMap_cons, List.flatMap_nil, List.append_nil]
    exact this
  | p :: p2 :: ps, _, h => fun e r he => by
    have h1 := h p (List.mem_cons_self ..)
    have h2 := pt_join (ps := p2 :: ps) (by simp) (fun z hz => h z (List.mem_cons_of_mem _ hz)) e r he
    show lx .nrm ((p.1 ++ 32 :: joinN ((p2 :: ps).map Prod.fst)) ++ e :: r) = (lx .nrm (e :: r)).map ((p.2 ++ (p2 :: ps).flatMap Prod.snd) ++ ·)
    rw [List.append_assoc, List.cons_append, h1 32 _ (ends_iff.mpr (.inl rfl)), lx_sp, h2, mapk_app]
theorem pt_brack {s : List Nat} {ks : List KT} {x y : Nat} (hx : x ∈ signsL) (hy : y ∈ signsL) (h : Pt s ks) : Pt ([x] ++ s ++ [y]) (signK x :: (ks ++ [signK y])) := fun e r he => by
  rw [List.append_assoc, List.append_assoc]
  show lx .nrm (x :: (s ++ y :: (e :: r))) = _
  rw [lx_sg hx, h y _ (ends_iff.mpr (.inr (.inr (.inr hy)))), lx_sg hy, mapk_app, mapk_app]
  rfl
theorem pt_none {x y : Nat} (hx : x ∈ signsL) (hy : y ∈ signsL) : Pt [x, y] [signK x, signK y] := fun e r he => by
  show lx .nrm (x :: y :: (e :: r)) = _
  rw [lx_sg hx, lx_sg hy, mapk_app]
  rfl
theorem wordK_eq (p : Str) : wordK p.cps.toList = wdK p := by unfold wordK wdK; rw [← txt_of]
theorem quoK_eq (p : Str) : quoK p.cps.toList = lineK p := by unfold quoK lineK; rw [← txt_of]
theorem sg4 : signK 40 = sgK "(" ∧ signK 41 = sgK ")" ∧ signK 91 = sgK "[" ∧ signK 93 = sgK "]" := by decide +kernel
theorem in4 : 40 ∈ signsL ∧ 41 ∈ signsL ∧ 91 ∈ signsL ∧ 93 ∈ signsL := by decide +kernel
theorem str1 : (PySem.Str.ofString "\"").cps.toList = [34] ∧ (PySem.Str.ofString "[").cps.toList = [91] ∧ (PySem.Str.ofString "]").cps.toList = [93] ∧ (PySem.Str.ofString "(").cps.toList = [40] ∧ (PySem.Str.ofString ")\n").cps.toList = [41, 10] := by decide +kernel
theorem plain_quo {z : Str} (h : isPlainS z = true) : ∀ y ∈ z.cps.toList, y ≠ 34 ∧ y ≠ 10 := fun y hy => by
  unfold isPlainS at h
  rw [List.all_eq_true] at h
  have := h y hy
  unfold plainC at this
  simp only [Bool.and_eq_true, decide_eq_true_eq, Bool.not_eq_true', decide_eq_false_iff_not] at this
  omega
theorem pt_quoS {z : Str} (h : isPlainS z = true) : Pt (quoS z).cps.toList [lineK z] := by
  unfold quoS
  rw [cps_app, cps_app, str1.1, ← quoK_eq]
  exact pt_quo (plain_quo h)
theorem line_plain {z : Str} (h : isLineS z = true) : isPlainS z = true := by unfold isLineS at h; rw [Bool.and_eq_true] at h; exact h.2
theorem word_plain {z : Str} (h : isWordS z = true) : isPlainS z = true := by unfold isWordS at h; rw [Bool.and_eq_true] at h; exact h.2
theorem lines_each {ls : List Str} (h : isLinesS ls = true) : ∀ y ∈ ls, isLineS y = true := by
  unfold isLinesS at h
  rw [Bool.and_eq_true, List.all_eq_true] at h
  exact h.2
theorem pt_item {ls : List Str} (h : isLinesS ls = true) : Pt (itemS ls).cps.toList (linesK ls) := by
  have hl := lines_each h
  unfold itemS
  rw [cps_app, cps_app, str1.2.1, str1.2.2.1, join_n]
  cases ls with
  | nil =>
    have := pt_none in4.2.2.1 in4.2.2.2
    rw [sg4.2.2.1, sg4.2.2.2] at this
    exact this
  | cons y r =>
    have := pt_brack in4.2.2.1 in4.2.2.2 (pt_join (ps := (y :: r).map fun z => ((quoS z).cps.toList, [lineK z])) (by simp) (fun p hp => by
      obtain ⟨z, hz, rfl⟩ := List.mem_map.mp hp
      exact pt_quoS (line_plain (hl z hz))))
    rw [sg4.2.2.1, sg4.2.2.2] at this
    have e1 : ((y :: r).map fun z => ((quoS z).cps.toList, [lineK z])).map Prod.fst = ((y :: r).map quoS).map fun y => y.cps.toList := by rw [List.map_map, List.map_map]; rfl
    have e2 : ((y :: r).map fun z => ((quoS z).cps.toList, [lineK z])).flatMap Prod.snd = (y :: r).map lineK := by
      generalize y :: r = zs
      induction zs with
      | nil => rfl
      | cons z zs ih => rw [List.map_cons, List.flatMap_cons, ih]; rfl
    rw [e1, e2] at this
    exact this
theorem path_word {p : Str} (h : isPathS p = true) : p.cps.toList ≠ [] ∧ ∀ y ∈ p.cps.toList, y ∉ endsL := by
  constructor
  · intro e
    refine (path_nd h).2 (str_ext ?_)
    rw [e]
    decide +kernel
  · intro y hy
    have j := StrLaws.join_split p (PySem.Str.ofString "/")
    rw [← j] at hy
    rcases mem_join hy with hc | ⟨z, hz, hc⟩
    · rw [slash1, List.mem_singleton] at hc
      subst hc
      decide +kernel
    · have hn := (path_parts h).2 z hz
      unfold isNameS at hn
      simp only [Bool.and_eq_true, List.all_eq_true, decide_eq_true_eq] at hn
      exact (by decide +kernel : ∀ c ∈ (PySem.Str.ofString "abcdefghijklmnopqrstuvwxyz0123456789").cps.toList, c ∉ endsL) y (hn.2 y hc)
theorem pt_path {p : Str} (h : isPathS p = true) : Pt p.cps.toList [wdK p] := by
  rw [← wordK_eq]
  exact pt_word (path_word h).1 (path_word h).2
theorem pt_place {z : Str} (h : isPlaceS z = true) : Pt (placeS z).cps.toList [wdK (placeS z)] := by
  unfold isPlaceS at h
  rw [Bool.or_eq_true, decide_eq_true_eq] at h
  rcases h with rfl | h
  · rw [← wordK_eq]
    exact pt_word (by decide +kernel) (by decide +kernel)
  · rw [placeS_path h]
    exact pt_path h
theorem words_pt : ∀ z ∈ ([PySem.Str.ofString "read", "kind", "list", "find", "count", "write", "remove", "move", "splice"] : List Str), z.cps.toList ≠ [] ∧ ∀ y ∈ z.cps.toList, y ∉ endsL := by decide +kernel
theorem pt_wd {z : Str} (h : z ∈ ([PySem.Str.ofString "read", "kind", "list", "find", "count", "write", "remove", "move", "splice"] : List Str)) : Pt z.cps.toList [wdK z] := by
  rw [← wordK_eq]
  exact pt_word (words_pt z h).1 (words_pt z h).2
def Action.pts : Action → List (Str × List KT)
  | .read p => [("read", [wdK "read"]), (placeS p, [wdK (placeS p)])]
  | .kind p => [("kind", [wdK "kind"]), (placeS p, [wdK (placeS p)])]
  | .list p => [("list", [wdK "list"]), (placeS p, [wdK (placeS p)])]
  | .find z u => [("find", [wdK "find"]), (placeS z, [wdK (placeS z)]), (quoS u, [lineK u])]
  | .count p => [("count", [wdK "count"]), (placeS p, [wdK (placeS p)])]
  | .write p ls => [("write", [wdK "write"]), (placeS p, [wdK (placeS p)]), (itemS ls, linesK ls)]
  | .remove p => [("remove", [wdK "remove"]), (placeS p, [wdK (placeS p)])]
  | .move p t => [("move", [wdK "move"]), (placeS p, [wdK (placeS p)]), (t, [wdK t])]
  | .splice p o n => [("splice", [wdK "splice"]), (placeS p, [wdK (placeS p)]), (itemS o, linesK o), (itemS n, linesK n)]
theorem pts_parts (x : Action) : x.pts.map Prod.fst = x.parts := by cases x <;> rfl
theorem pts_toks (x : Action) : x.pts.flatMap Prod.snd = x.restK := by
  cases x <;> simp [Action.pts, Action.restK]
theorem place_of_path {p : Str} (h : isPathS p = true) : isPlaceS p = true := by unfold isPlaceS; rw [h, Bool.or_true]
theorem pts_pt {x : Action} (hb : x.bad = none) : ∀ p ∈ x.pts, Pt p.1.cps.toList p.2 := by
  have two : ∀ {w p : Str}, w ∈ ([PySem.Str.ofString "read", "kind", "list", "find", "count", "write", "remove", "move", "splice"] : List Str) → isPlaceS p = true → ∀ {l : List (Str × List KT)}, (∀ q ∈ l, Pt q.1.cps.toList q.2) →
      ∀ q ∈ (w, [wdK w]) :: (placeS p, [wdK (placeS p)]) :: l, Pt q.1.cps.toList q.2 := fun hw hp l hl q hq => by
    rcases List.mem_cons.mp hq with rfl | hq
    · exact pt_wd hw
    rcases List.mem_cons.mp hq with rfl | hq
    · exact pt_place hp
    · exact hl q hq
  cases x with
  | read p =>
    simp only [Action.bad] at hb
    split at hb
    · exact two (by simp) (place_of_path ‹_›) (by simp)
    · cases hb
  | remove p =>
    simp only [Action.bad] at hb
    split at hb
    · exact two (by simp) (place_of_path ‹_›) (by simp)
    · cases hb
  | kind p =>
    simp only [Action.bad] at hb
    split at hb
    · exact two (by simp) ‹_› (by simp)
    · cases hb
  | list p =>
    simp only [Action.bad] at hb
    split at hb
    · exact two (by simp) ‹_› (by simp)
    · cases hb
  | count p =>
    simp only [Action.bad] at hb
    split at hb
    · exact two (by simp) ‹_› (by simp)
    · cases hb
  | find p u =>
    simp only [Action.bad] at hb
    split at hb
    · split at hb
      · rename_i h1 h2
        exact two (by simp) h1 (by intro q hq; rw [List.mem_singleton] at hq; subst hq; exact pt_quoS (word_plain h2))
      · cases hb
    · cases hb
  | move p u =>
    simp only [Action.bad] at hb
    split at hb
    · split at hb
      · rename_i h1 h2
        exact two (by simp) (place_of_path h1) (by intro q hq; rw [List.mem_singleton] at hq; subst hq; exact pt_path h2)
      · cases hb
    · cases hb
  | write p ls =>
    simp only [Action.bad] at hb
    split at hb
    · split at hb
      · rename_i h1 h2
        exact two (by simp) (place_of_path h1) (by intro q hq; rw [List.mem_singleton] at hq; subst hq; exact pt_item h2)
      · cases hb
    · cases hb
  | splice p o n =>
    simp only [Action.bad] at hb
    split at hb
    · split at hb
      · split at hb
        · rename_i h1 h2 h3
          rw [Bool.and_eq_true] at h2
          refine two (by simp) (place_of_path h1) (fun q hq => ?_)
          simp only [List.mem_cons, List.not_mem_nil, or_false] at hq
          rcases hq with rfl | rfl
          · exact pt_item h2.1
          · exact pt_item h3
        · cases hb
      · cases hb
    · cases hb
theorem lx_act {x : Action} {r : List Nat} (hb : x.bad = none) : lx .nrm ((wrA x).cps.toList ++ r) = (lx .nrm r).map (toksK x ++ ·) := by
  have h1 := pt_brack in4.1 in4.2.1 (pt_join (ps := x.pts.map fun p => (p.1.cps.toList, p.2)) (by cases x <;> simp [Action.pts]) (fun p hp => by
    obtain ⟨z, hz, rfl⟩ := List.mem_map.mp hp
    exact pts_pt hb z hz)) 10 r (ends_iff.mpr (.inr (.inl rfl)))
  have e1 : (x.pts.map fun p => (p.1.cps.toList, p.2)).map Prod.fst = x.parts.map fun y => y.cps.toList := by rw [List.map_map, ← pts_parts, List.map_map]; rfl
  have e2 : (x.pts.map fun p => (p.1.cps.toList, p.2)).flatMap Prod.snd = x.restK := by rw [List.flatMap_map]; exact pts_toks x
  rw [e1, e2, lx_nl, sg4.1, sg4.2.1] at h1
  unfold wrA
  rw [cps_app, cps_app, str1.2.2.2.1, str1.2.2.2.2, join_n]
  have e3 : ([40] ++ joinN (x.parts.map fun y => y.cps.toList) ++ [41, 10]) ++ r = ([40] ++ joinN (x.parts.map fun y => y.cps.toList) ++ [41]) ++ 10 :: r := by simp
  rw [e3, h1]
  rfl
end K45



namespace K45
open PySem L2 Sa
theorem acts_cps (acts : List Action) : (wrAs acts).cps.toList = acts.flatMap fun x => (wrA x).cps.toList := by
  unfold wrAs
  induction acts with
  | nil => rw [tjoin]; rfl
  | cons x r ih =>
    rw [tjoin] at ih ⊢
    cases r with
    | nil => simp [Str.join]
    | cons y r =>
      show (wrA x ++ PySem.Str.ofString "" ++ Str.join (PySem.Str.ofString "") ((y :: r).map wrA)).cps.toList = _
      rw [cps_app, cps_app, ih, show (PySem.Str.ofString "").cps.toList = [] from by decide +kernel, List.append_nil]
      rfl
theorem lx_acts : ∀ {acts : List Action}, (∀ x ∈ acts, x.bad = none) → lx .nrm (acts.flatMap fun x => (wrA x).cps.toList) = some (acts.flatMap toksK ++ [endK])
  | [], _ => rfl
  | x :: r, h => by
    rw [List.flatMap_cons, lx_act (h x (List.mem_cons_self ..)), lx_acts fun y hy => h y (List.mem_cons_of_mem _ hy), List.flatMap_cons, List.append_assoc]
    rfl
theorem read_written {acts : List Action} (h : ∀ x ∈ acts, x.bad = none) : readTx (wrAs acts) = .ok acts := read_lx (by rw [acts_cps]; exact lx_acts h) h
end K45



namespace K45
open PySem L2 Sa
theorem join4 (s : Str) : (∀ a b : Str, Txt.join s [a, b] = a ++ s ++ b) ∧ (∀ a b c : Str, Txt.join s [a, b, c] = a ++ s ++ (b ++ s ++ c)) ∧ (∀ a b c d : Str, Txt.join s [a, b, c, d] = a ++ s ++ (b ++ s ++ (c ++ s ++ d))) :=
  ⟨fun _ _ => by rw [tjoin]; rfl, fun _ _ _ => by rw [tjoin]; rfl, fun _ _ _ _ => by rw [tjoin]; rfl⟩
theorem bad_tx {x : Action} (hb : x.bad = none) : x.tx := by
  have pth : ∀ {p : Str}, isPathS p = true → TxOk p 8000 := fun h => ⟨path_ok h, by have := path_len h; omega⟩
  have plc : ∀ {p : Str}, isPlaceS p = true → TxOk p 8000 := fun h => ⟨place_ok h, by have := place_len h; omega⟩
  have lns : ∀ {ls : List Str}, isLinesS ls = true → LsTx ls := fun h => ⟨Nat.le_succ_of_le (lines_len h).1, fun y hy => ⟨plain_ok (line_plain (lines_each h y hy)), ((lines_len h).2 y hy).1⟩⟩
  cases x with
  | read p =>
    simp only [Action.bad] at hb
    split at hb
    · exact pth ‹_›
    · cases hb
  | remove p =>
    simp only [Action.bad] at hb
    split at hb
    · exact pth ‹_›
    · cases hb
  | kind p =>
    simp only [Action.bad] at hb
    split at hb
    · exact plc ‹_›
    · cases hb
  | list p =>
    simp only [Action.bad] at hb
    split at hb
    · exact plc ‹_›
    · cases hb
  | count p =>
    simp only [Action.bad] at hb
    split at hb
    · exact plc ‹_›
    · cases hb
  | find p u =>
    simp only [Action.bad] at hb
    split at hb
    · split at hb
      · rename_i h1 h2
        exact ⟨plc h1, plain_ok (word_plain h2), by have := word_len h2; omega⟩
      · cases hb
    · cases hb
  | move p u =>
    simp only [Action.bad] at hb
    split at hb
    · split at hb
      · rename_i h1 h2
        exact ⟨pth h1, pth h2⟩
      · cases hb
    · cases hb
  | write p ls =>
    simp only [Action.bad] at hb
    split at hb
    · split at hb
      · rename_i h1 h2
        exact ⟨pth h1, lns h2⟩
      · cases hb
    · cases hb
  | splice p o n =>
    simp only [Action.bad] at hb
    split at hb
    · split at hb
      · split at hb
        · rename_i h1 h2 h3
          rw [Bool.and_eq_true] at h2
          exact ⟨pth h1, lns h2.1, lns h3⟩
        · cases hb
      · cases hb
    · cases hb
theorem sep1 : (PySem.Str.ofString " ").length = 1 ∧ (PySem.Str.ofString "(").length = 1 ∧ (PySem.Str.ofString ")\n").length = 2 ∧ (PySem.Str.ofString "\n").length = 1 := by decide +kernel
theorem nine_len : ∀ z ∈ ([PySem.Str.ofString "read", "kind", "list", "find", "count", "write", "remove", "move", "splice"] : List Str), z.length ≤ 6 := by decide +kernel
theorem pl_len {z : Str} (h : isPlaceS z = true) : (placeS z).length ≤ 27 := by have := placeS_len z; have := place_len h; omega
theorem wrA_len {x : Action} (hb : x.bad = none) : (wrA x).length ≤ 700 := by
  obtain ⟨j2, j3, j4⟩ := join4 (PySem.Str.ofString " ")
  obtain ⟨s1, s2, s3, s4⟩ := sep1
  have htx := bad_tx hb
  have one : ∀ {w z : Str}, w ∈ ([PySem.Str.ofString "read", "kind", "list", "find", "count", "write", "remove", "move", "splice"] : List Str) → isPlaceS z = true → (PySem.Str.ofString "(" ++ Txt.join (PySem.Str.ofString " ") [w, placeS z] ++ PySem.Str.ofString ")\n").length ≤ 700 := fun hw hz => by
    have := nine_len _ hw
    have := pl_len hz
    rw [j2]
    simp only [app_len, s1, s2, s3]
    omega
  have two : ∀ {w z u : Str}, w ∈ ([PySem.Str.ofString "read", "kind", "list", "find", "count", "write", "remove", "move", "splice"] : List Str) → isPlaceS z = true → u.length ≤ 310 → (PySem.Str.ofString "(" ++ Txt.join (PySem.Str.ofString " ") [w, placeS z, u] ++ PySem.Str.ofString ")\n").length ≤ 700 := fun hw hz hu => by
    have := nine_len _ hw
    have := pl_len hz
    rw [j3]
    simp only [app_len, s1, s2, s3]
    omega
  cases x with
  | read p =>
    simp only [Action.bad] at hb
    split at hb
    · exact one (by simp) (place_of_path ‹_›)
    · cases hb
  | remove p =>
    simp only [Action.bad] at hb
    split at hb
    · exact one (by simp) (place_of_path ‹_›)
    · cases hb
  | kind p =>
    simp only [Action.bad] at hb
    split at hb
    · exact one (by simp) ‹_›
    · cases hb
  | list p =>
    simp only [Action.bad] at hb
    split at hb
    · exact one (by simp) ‹_›
    · cases hb
  | count p =>
    simp only [Action.bad] at hb
    split at hb
    · exact one (by simp) ‹_›
    · cases hb
  | find p u =>
    simp only [Action.bad] at hb
    split at hb
    · split at hb
      · rename_i h1 h2
        exact two (by simp) h1 (by rw [quoS_len]; have := word_len h2; omega)
      · cases hb
    · cases hb
  | move p u =>
    simp only [Action.bad] at hb
    split at hb
    · split at hb
      · rename_i h1 h2
        exact two (by simp) (place_of_path h1) (by have := path_len h2; omega)
      · cases hb
    · cases hb
  | write p ls =>
    simp only [Action.bad] at hb
    split at hb
    · split at hb
      · rename_i h1 h2
        exact two (by simp) (place_of_path h1) (itemS_len htx.2)
      · cases hb
    · cases hb
  | splice p o n =>
    simp only [Action.bad] at hb
    split at hb
    · split at hb
      · split at hb
        · rename_i h1 h2 h3
          have h4 := itemS_len htx.2.1
          have h5 := itemS_len htx.2.2
          have h6 := pl_len (place_of_path h1)
          show (PySem.Str.ofString "(" ++ Txt.join (PySem.Str.ofString " ") [PySem.Str.ofString "splice", placeS p, itemS o, itemS n] ++ PySem.Str.ofString ")\n").length ≤ 700
          rw [j4]
          simp only [app_len, s1, s2, s3, show (PySem.Str.ofString "splice").length = 6 from by decide +kernel]
          omega
        · cases hb
      · cases hb
    · cases hb
theorem acts_small {acts : List Action} (hb : ∀ x ∈ acts, x.bad = none) : ((acts.map wrA).map (·.length)).sum ≤ acts.length * 700 := by
  have := sum_le (m := 700) (ns := acts.map wrA) fun y hy => by
    obtain ⟨x, hx, rfl⟩ := List.mem_map.mp hy
    exact wrA_len (hb x hx)
  rw [List.length_map] at this
  exact this
theorem wrAs_len {acts : List Action} (hb : ∀ x ∈ acts, x.bad = none) : (wrAs acts).length ≤ acts.length * 700 := by
  unfold wrAs
  have := join_most (s := PySem.Str.ofString "") (m := 700) (ys := acts.map wrA) fun y hy => by
    obtain ⟨x, hx, rfl⟩ := List.mem_map.mp hy
    exact wrA_len (hb x hx)
  rw [List.length_map, show (PySem.Str.ofString "").length = 0 from by decide +kernel] at this
  omega

def plainZ (z : Str) : Prop := ∀ c ∈ z.cps.toList, c = 10 ∨ (32 ≤ c ∧ c ≤ 126 ∧ c ≠ 37)
def TkG (ts : List Tok) : Prop := ∀ t ∈ ts, t.kind = PySem.Str.ofString "quoted" → isPlainS t.text = true
def MG : Md → Prop
  | .quo q _ _ => ∀ c ∈ q, plainC c = true
  | _ => True
theorem tg_nil : TkG [] := fun _ h => by cases h
theorem tg_cons {t : Tok} {ts : List Tok} (h : t.kind = PySem.Str.ofString "quoted" → isPlainS t.text = true) (g : TkG ts) : TkG (t :: ts) := fun u hu => by
  rcases List.mem_cons.mp hu with rfl | hu
  · exact h
  · exact g u hu
theorem tg_app {a b : List Tok} (h : TkG a) (g : TkG b) : TkG (a ++ b) := fun u hu => by
  rcases List.mem_append.mp hu with hu | hu
  · exact h u hu
  · exact g u hu
theorem kinds_ne : PySem.Str.ofString "word" ≠ PySem.Str.ofString "quoted" ∧ PySem.Str.ofString "sign" ≠ PySem.Str.ofString "quoted" ∧ PySem.Str.ofString "end" ≠ PySem.Str.ofString "quoted" := by decide +kernel
theorem tg_fresh {x : Nat} {l c : Int} : TkG (fresh x l c).1 ∧ MG (fresh x l c).2 := by
  unfold fresh
  split
  · exact ⟨tg_nil, trivial⟩
  split
  · exact ⟨tg_nil, fun _ h => by cases h⟩
  split
  · exact ⟨tg_cons (fun h => absurd h kinds_ne.2.1) tg_nil, trivial⟩
  split
  · exact ⟨tg_nil, trivial⟩
  · exact ⟨tg_nil, trivial⟩
theorem tg_step {m m' : Md} {x : Nat} {l c : Int} {es : List Tok} (hx : x = 10 ∨ (32 ≤ x ∧ x ≤ 126 ∧ x ≠ 37)) (h : stepM m x l c = some (es, m')) (g : MG m) : TkG es ∧ MG m' := by
  cases m with
  | nrm =>
    injection h with h
    have := tg_fresh (x := x) (l := l) (c := c)
    rw [h] at this
    exact this
  | wd w l0 c0 =>
    simp only [stepM] at h
    split at h
    · injection h with h
      injection h with h1 h2
      have := tg_fresh (x := x) (l := l) (c := c)
      rw [← h1, ← h2]
      exact ⟨tg_cons (fun h => absurd h kinds_ne.1) this.1, this.2⟩
    · injection h with h
      injection h with h1 h2
      rw [← h1, ← h2]
      exact ⟨tg_nil, trivial⟩
  | quo q l0 c0 =>
    simp only [stepM] at h
    split at h
    · injection h with h
      injection h with h1 h2
      rw [← h1, ← h2]
      refine ⟨tg_cons (fun _ => ?_) tg_nil, trivial⟩
      show isPlainS (txt q) = true
      unfold isPlainS
      rw [List.all_eq_true]
      intro c hc
      rw [txt_cps] at hc
      exact g c hc
    · split at h
      · cases h
      · rename_i h1 h2
        injection h with h
        injection h with h3 h4
        rw [← h3, ← h4]
        refine ⟨tg_nil, fun c hc => ?_⟩
        rcases List.mem_append.mp hc with hc | hc
        · exact g c hc
        · rw [List.mem_singleton] at hc
          subst hc
          unfold plainC
          simp only [Bool.and_eq_true, Bool.not_eq_true', decide_eq_true_eq, decide_eq_false_iff_not]
          omega
theorem tg_spl : ∀ {r : List Nat} {m : Md} {l c : Int} {ts : List Tok}, (∀ x ∈ r, x = 10 ∨ (32 ≤ x ∧ x ≤ 126 ∧ x ≠ 37)) → MG m → spl m r l c = .ok ts → TkG ts
  | [], m, l, c, ts, _, _, h => by
    cases m with
    | nrm => injection h with h; subst h; exact tg_cons (fun h => absurd h kinds_ne.2.2) tg_nil
    | wd w l0 c0 => injection h with h; subst h; exact tg_cons (fun h => absurd h kinds_ne.1) (tg_cons (fun h => absurd h kinds_ne.2.2) tg_nil)
    | quo q l0 c0 => cases h
  | x :: r, m, l, c, ts, hp, g, h => by
    rw [spl] at h
    split at h
    · cases h
    · rename_i es m' e
      obtain ⟨g1, g2⟩ := tg_step (hp x (List.mem_cons_self ..)) e g
      cases e2 : spl m' r (nxL x l) (nxC x c) with
      | error f => rw [e2] at h; cases h
      | ok us =>
        rw [e2] at h
        injection h with h
        rw [← h]
        exact tg_app g1 (tg_spl (fun y hy => hp y (List.mem_cons_of_mem _ hy)) g2 e2)
theorem tg_tail {t : Tok} {r : List Tok} (g : TkG (t :: r)) : TkG r := fun u hu => g u (List.mem_cons_of_mem _ hu)
theorem tg_exp {s : Str} {ts r : List Tok} {u : Unit} (g : TkG ts) (h : expF s ts = .ok (u, r)) : TkG r := by
  cases ts with
  | nil => cases h
  | cons t r' =>
    simp only [expF] at h
    split at h
    · injection h with h; injection h with _ h; subst h; exact tg_tail g
    · cases h
theorem tg_take {k w : Str} {p : Str → Bool} {ts r : List Tok} {u : Str} (g : TkG ts) (h : takeP k p w ts = .ok (u, r)) : TkG r ∧ p u = true ∧ (k = PySem.Str.ofString "quoted" → isPlainS u = true) := by
  cases ts with
  | nil => cases h
  | cons t r' =>
    simp only [takeP] at h
    split at h
    · rename_i hk
      split at h
      · rename_i hp
        injection h with h; injection h with h1 h2; subst h1; subst h2
        exact ⟨tg_tail g, hp, fun e => g t (List.mem_cons_self ..) (hk.trans e)⟩
      · cases h
    · cases h
theorem tg_place {ts r : List Tok} {z : Str} (g : TkG ts) (h : placeF ts = .ok (z, r)) : TkG r ∧ isPlaceS z = true := by
  obtain ⟨x, r1, h1, h2⟩ := go_ok h
  injection h2 with h2; injection h2 with h2 h3
  obtain ⟨g1, g2, _⟩ := tg_take g h1
  subst h3
  refine ⟨g1, ?_⟩
  rw [← h2]
  unfold toPlace
  unfold placeB at g2
  split
  · unfold isPlaceS; rw [decide_eq_true (show ("" : Str) = PySem.Str.ofString "" from rfl), Bool.true_or]
  · rename_i hn
    rw [decide_eq_false hn, Bool.false_or] at g2
    exact place_of_path g2
theorem tg_path {ts r : List Tok} {z : Str} (g : TkG ts) (h : pathF ts = .ok (z, r)) : TkG r ∧ isPathS z = true := by
  obtain ⟨g1, g2, _⟩ := tg_take g h
  exact ⟨g1, g2⟩
theorem tg_quoW {ts r : List Tok} {z : Str} (g : TkG ts) (h : quoWF ts = .ok (z, r)) : TkG r ∧ isWordS z = true := by
  obtain ⟨g1, g2, g3⟩ := tg_take g h
  refine ⟨g1, ?_⟩
  unfold isWordS
  unfold quoWB at g2
  rw [g2, g3 rfl, Bool.true_and]
theorem tg_linesL {n : Nat} : ∀ {ts r : List Tok} {f ls : List Str}, TkG ts → f.length ≤ 12 → (∀ y ∈ f, isLineS y = true) → linesL n f ts = .ok (ls, r) → TkG r ∧ isLinesS ls = true ∧ n ≤ ls.length
  | [], _, _, _, _, _, _, h => by cases h
  | t :: ts, r, f, ls, g, hf, hl, h => by
    rw [linesL] at h
    split at h
    · split at h
      · rename_i hk
        split at h
        · cases h
        · split at h
          · cases h
          · rename_i h1 h2
            refine tg_linesL (tg_tail g) (by rw [List.length_append, List.length_singleton]; omega) (fun y hy => ?_) h
            rcases List.mem_append.mp hy with hy | hy
            · exact hl y hy
            · rw [List.mem_singleton] at hy
              subst hy
              unfold isLineS
              rw [decide_eq_true (show t.text.length ≤ 20 by omega), g t (List.mem_cons_self ..) hk]
              rfl
      · cases h
    · rename_i hc
      injection h with h; injection h with h1 h2; subst h1; subst h2
      refine ⟨tg_tail g, ?_, ?_⟩
      · unfold isLinesS
        rw [decide_eq_true hf, List.all_eq_true.mpr hl]
        rfl
      · exact Nat.le_of_not_lt fun z => hc (.inl z)
theorem tg_lines {n : Nat} {ts r : List Tok} {ls : List Str} (g : TkG ts) (h : linesF n ts = .ok (ls, r)) : TkG r ∧ isLinesS ls = true ∧ n ≤ ls.length := by
  obtain ⟨x, r1, h1, h2⟩ := go_ok h
  exact tg_linesL (tg_exp g h1) (by simp) (fun y hy => by cases hy) h2
theorem tg_act {ts r : List Tok} {x : Action} (g : TkG ts) (h : actRF ts = .ok (x, r)) : TkG r ∧ x.bad = none := by
  unfold actRF at h
  obtain ⟨_, r1, h1, h⟩ := go_ok h
  have g1 := tg_exp g h1
  obtain ⟨w, r2, h2, h⟩ := go_ok h
  obtain ⟨g2, hw, _⟩ := tg_take g1 h2
  obtain ⟨y, r3, h3, h⟩ := go_ok h
  obtain ⟨_, r4, h4, h⟩ := go_ok h
  injection h with h; injection h with e1 e2; subst e1; subst e2
  suffices hs : TkG r3 ∧ y.bad = none from ⟨tg_exp hs.1 h4, hs.2⟩
  rcases words9 hw with rfl | rfl | rfl | rfl | rfl | rfl | rfl | rfl | rfl
  · rw [rest_read] at h3
    obtain ⟨p, r, a, h3⟩ := go_ok h3
    obtain ⟨g3, hp⟩ := tg_path g2 a
    injection h3 with h3; injection h3 with e1 e2; subst e1; subst e2
    exact ⟨g3, by simp [Action.bad, hp]⟩
  · rw [rest_kind] at h3
    obtain ⟨p, r, a, h3⟩ := go_ok h3
    obtain ⟨g3, hp⟩ := tg_place g2 a
    injection h3 with h3; injection h3 with e1 e2; subst e1; subst e2
    exact ⟨g3, by simp [Action.bad, hp]⟩
  · rw [rest_list] at h3
    obtain ⟨p, r, a, h3⟩ := go_ok h3
    obtain ⟨g3, hp⟩ := tg_place g2 a
    injection h3 with h3; injection h3 with e1 e2; subst e1; subst e2
    exact ⟨g3, by simp [Action.bad, hp]⟩
  · rw [rest_find] at h3
    obtain ⟨p, r, a, h3⟩ := go_ok h3
    obtain ⟨g3, hp⟩ := tg_place g2 a
    obtain ⟨u, r, b, h3⟩ := go_ok h3
    obtain ⟨g4, hu⟩ := tg_quoW g3 b
    injection h3 with h3; injection h3 with e1 e2; subst e1; subst e2
    exact ⟨g4, by simp [Action.bad, hp, hu]⟩
  · rw [rest_count] at h3
    obtain ⟨p, r, a, h3⟩ := go_ok h3
    obtain ⟨g3, hp⟩ := tg_place g2 a
    injection h3 with h3; injection h3 with e1 e2; subst e1; subst e2
    exact ⟨g3, by simp [Action.bad, hp]⟩
  · rw [rest_write] at h3
    obtain ⟨p, r, a, h3⟩ := go_ok h3
    obtain ⟨g3, hp⟩ := tg_path g2 a
    obtain ⟨ls, r, b, h3⟩ := go_ok h3
    obtain ⟨g4, hl, _⟩ := tg_lines g3 b
    injection h3 with h3; injection h3 with e1 e2; subst e1; subst e2
    exact ⟨g4, by simp [Action.bad, hp, hl]⟩
  · rw [rest_remove] at h3
    obtain ⟨p, r, a, h3⟩ := go_ok h3
    obtain ⟨g3, hp⟩ := tg_path g2 a
    injection h3 with h3; injection h3 with e1 e2; subst e1; subst e2
    exact ⟨g3, by simp [Action.bad, hp]⟩
  · rw [rest_move] at h3
    obtain ⟨p, r, a, h3⟩ := go_ok h3
    obtain ⟨g3, hp⟩ := tg_path g2 a
    obtain ⟨u, r, b, h3⟩ := go_ok h3
    obtain ⟨g4, hu⟩ := tg_path g3 b
    injection h3 with h3; injection h3 with e1 e2; subst e1; subst e2
    exact ⟨g4, by simp [Action.bad, hp, hu]⟩
  · rw [rest_splice] at h3
    obtain ⟨p, r, a, h3⟩ := go_ok h3
    obtain ⟨g3, hp⟩ := tg_path g2 a
    obtain ⟨ls, r, b, h3⟩ := go_ok h3
    obtain ⟨g4, hl, ho⟩ := tg_lines g3 b
    obtain ⟨ms, r, c, h3⟩ := go_ok h3
    obtain ⟨g5, hm, _⟩ := tg_lines g4 c
    injection h3 with h3; injection h3 with e1 e2; subst e1; subst e2
    refine ⟨g5, ?_⟩
    simp only [Action.bad]
    rw [if_pos hp, if_pos (by rw [hl, decide_eq_true (show 0 < ls.length by omega)]; rfl), if_pos hm]
theorem tg_readN : ∀ {n : Nat} {ts : List Tok} {acts : List Action}, TkG ts → readN n ts = .ok acts → (∀ x ∈ acts, x.bad = none) ∧ acts.length ≤ n
  | 0, _, _, _, h => by cases h
  | _ + 1, [], _, _, h => by cases h
  | n + 1, t :: r, acts, g, h => by
    rw [readN] at h
    split at h
    · injection h with h; subst h; exact ⟨fun _ h => (by cases h), Nat.zero_le _⟩
    · split at h
      · cases h
      · rename_i x r' e
        obtain ⟨g1, hb⟩ := tg_act g e
        cases e2 : readN n r' with
        | error f => rw [e2] at h; cases h
        | ok us =>
          rw [e2] at h
          injection h with h
          obtain ⟨h1, h2⟩ := tg_readN g1 e2
          rw [← h]
          refine ⟨fun y hy => ?_, by rw [List.length_cons]; omega⟩
          rcases List.mem_cons.mp hy with rfl | hy
          · exact hb
          · exact h1 y hy
theorem read_good {z : Str} {acts : List Action} (hp : plainZ z) (h : readTx z = .ok acts) : (∀ x ∈ acts, x.bad = none) ∧ acts.length ≤ 2 * z.length + 2 := by
  unfold readTx at h
  split at h
  · cases h
  · rename_i ts e
    have g := tg_spl (m := .nrm) hp trivial e
    have l := spl_many e
    obtain ⟨h1, h2⟩ := tg_readN g h
    have : z.cps.toList.length = z.length := rfl
    exact ⟨h1, by omega⟩
end K45



namespace K45
open PySem L2 Sa
local macro_rules | `(tactic| walk_at "s1") => `(tactic| first | (with_reducible apply c_dgetK))
local macro_rules | `(tactic| walk_at "s1") => `(tactic| (with_reducible apply c_raiseO))
local macro_rules | `(tactic| walk_at "s1") => `(tactic| first | (with_reducible apply c_dgetK))
local macro_rules | `(tactic| walk_at "s1") => `(tactic| (with_reducible apply c_raiseO))
local macro_rules | `(tactic| walk_at "s1") => `(tactic| first | (with_reducible apply c_un) | (with_reducible apply c_negI))
set_option pp.maxSteps 1500
section
variable {P : Program} {w : World} {K : PySem.W.Frag} {mg : Str → Option Value} {base : Heap}
def optActs (z : Str) : Option (List Action) := if 8000 < z.length then none else match readTx z with
  | .ok acts => some acts
  | .error _ => none
def spReadA (K : PySem.W.Frag) : Sp := fun vs H Q _ => ∃ z : Str, vs = [.str z] ∧ z.length ≤ 1000000 ∧ okS z = true ∧ (optActs z = none → ∀ H', Kp [] H H' → Q .non H') ∧
  (∀ acts, optActs z = some acts → readTx z = .ok acts → z.length ≤ 8000 → (∀ x ∈ acts, x.tx) → ∀ H' p xs, Kp [] H H' → SqT K H' p xs → DtAll K H' xs (acts.map Action.d) → Q (.ref p) H')
theorem sc__read_actions : FnScope ["text"] ["text"] (defScope s__read_actions) := ⟨rfl, rfl, rfl, by decide +kernel, rfl, by decide +kernel, by decide +kernel⟩
theorem bn__read_actions : BindN "_read_actions" s__read_actions ["text"] := fun _ _ _ _ _ _ us hl => match us, hl with | [_], _ => rfl
theorem b__read_actions (T : TX K mg) : Body P w K mg base "_read_actions" s__read_actions ["text"] 8 (spReadA K) := by
  intro cdv A outer s H vs Q E h X hr
  obtain ⟨z, rfl, hz, hok, qn, q⟩ := h
  have D_read_actions := D_read_actions (P := P) (w := w) (base := base) T
  refine ⟨_, (pss_one (ps_tryTup rfl rfl takes_never (fun W pn xe tk1 po1 => (pss_one (ps_ret (pe_callX D_read_actions hr tk1 (pa_cons (pv 0) pa_nil))))) (names_glo (T.glo 48)) (names_glo (T.glo 24)) (fun a oe cls d pn hz hf => (pss_one (ps_ret pe_non))))), ?_⟩
  walk_at "st"
  refine ⟨z, rfl, hz, hok, fun hl => ?_, fun hl => ⟨fun f ef => ?_, fun acts ea htx H1 p xs e1 hp hd => ?_⟩⟩
  · intro d H1 e1 hd
    refine c_tupHit (He.exm_ok (T.fact 135)) (He.exm_ok (T.fact 136)) rfl fun ea hea => ?_
    walk_at "st"
    exact qn (by unfold optActs; rw [if_pos hl]) _ e1
  · intro H1 d H2 k1 t1 N1
    refine c_tupHit (He.exm_ok (T.fact 137)) (He.exm_ok (T.fact 138)) rfl fun ea hea => ?_
    walk_at "st"
    exact qn (by unfold optActs; rw [if_neg (by omega), ef]) _ (k1.trans N1.kp)
  · walk_at "st"
    exact q acts (by unfold optActs; rw [if_neg (by omega), ea]) ea (by omega) htx H1 p xs e1 hp hd
theorem D__read_actions (T : TX K mg) : DefAt P w K mg base CX0 "_read_actions" 9 ["text"] (spReadA K) :=
  def_of T 32 67 sc__read_actions bn__read_actions (by walk_at "len") (b__read_actions T)
end
end K45



namespace K45
open PySem L2 Sa
local macro_rules | `(tactic| walk_at "s1") => `(tactic| first | (with_reducible apply c_dgetK))
local macro_rules | `(tactic| walk_at "s1") => `(tactic| (with_reducible apply c_raiseO))
local macro_rules | `(tactic| walk_at "s1") => `(tactic| first | (with_reducible apply c_dgetK))
local macro_rules | `(tactic| walk_at "s1") => `(tactic| (with_reducible apply c_raiseO))
local macro_rules | `(tactic| walk_at "s1") => `(tactic| first | (with_reducible apply c_un) | (with_reducible apply c_negI))
set_option pp.maxSteps 1500
abbrev optN : Option Int → V
  | none => .non
  | some i => .int i
def digitB (c : Nat) : Bool := decide (c ∈ (PySem.Str.ofString "0123456789").cps.toList)
def numV (z : Str) : Int := ((NumText.digitsVal z.cps.toList : Nat) : Int)
def numOk (z : Str) : Bool := decide (1 ≤ z.length) && decide (z.length ≤ 4) && !(decide (z.cps.toList.head? = some 48) && decide (1 < z.length)) && z.cps.toList.all digitB
def numF (z : Str) (m : Int) : Option Int := if numOk z = true ∧ numV z ≤ m then some (numV z) else none
theorem digit_iff {c : Nat} : digitB c = true ↔ 48 ≤ c ∧ c ≤ 57 := by
  have e : (PySem.Str.ofString "0123456789").cps.toList = [48, 49, 50, 51, 52, 53, 54, 55, 56, 57] := by decide +kernel
  unfold digitB
  rw [e, decide_eq_true_eq]
  simp only [List.mem_cons, List.not_mem_nil, or_false]
  omega
section
variable {P : Program} {w : World} {K : PySem.W.Frag} {mg : Str → Option Value} {base : Heap}
def spNum : Sp := fun vs H Q _ => ∃ (z : Str) (m : Int), vs = [.str z, .int m] ∧ z.length ≤ 1000000 ∧ ∀ H', Kp [] H H' → Q (optN (numF z m)) H'
theorem sc__read_number : FnScope ["text", "most", "number", "sign"] ["text", "most"] (defScope s__read_number) := ⟨rfl, rfl, rfl, by decide +kernel, rfl, by decide +kernel, by decide +kernel⟩
theorem bn__read_number : BindN "_read_number" s__read_number ["text", "most"] := fun _ _ _ _ _ _ us hl => match us, hl with | [_, _], _ => rfl
theorem b__read_number (T : TX K mg) : Body P w K mg base "_read_number" s__read_number ["text", "most", "number", "sign"] 1 (spNum) := by
  intro cdv A outer s H vs Q E h X hr
  obtain ⟨z, m, rfl, hz, q⟩ := h
  refine ⟨_, (pss_cons (ps_if (PW.pt (pw_or (pt_not (pt_chain op_leU op_leU pe_int (pe_callB (cr_len (K := K)) rfl (T.free 2) PySem.boot_len (pa_cons (pv 0) pa_nil)) pe_int)) (pw_or (PW.pt (pw_and (pt_cmpR (op_eqU (K := K) hr.units) (pe_ix (ix_U (K := K)) (pv 0) pe_int (fun _ _ => rfl)) pe_str (nomark _)) (pw_and1 (pt_cmpR op_gtU (pe_callB (cr_len (K := K)) rfl (T.free 2) PySem.boot_len (pa_cons (pv 0) pa_nil)) pe_int (nomark _))))) (pw_or1 (pt_tru (K := K) (pe_callB (cr_anyU (K := K) rfl) rfl (T.free 18) (by decide +kernel) (pa_cons (pe_lc (own := [("sign", 3)]) rfl sc__read_number.nd (pi_str (pv 0)) (blkOk_by (N := ["text", "most", "number", "sign"]) (sc := defScope s__read_number) (by decide +kernel)) (fun _ _ _ _ _ => (pg_name (i := 3) sc__read_number.nd rfl (Or.inl rfl))) (fun _ _ _ _ _ => pts_nil) (fun _ _ _ _ _ => (pe_cmpR (op_notInU (K := K)) (pv 3) (pe_gStr (T.str 62)) rfl))) pa_nil))))))) (pss_one (ps_ret pe_non)) pss_nil) (pss_cons (ps_set (i := 2) sc__read_number.nd rfl (Or.inl rfl) (pe_callTy call_int_str rfl (T.free 61) (by decide +kernel) (pa_cons (pv 0) pa_nil))) (pss_one (ps_ret (pe_ifExp (pt_cmpR op_leU (pv 2) (pv 1) (nomark _)) (pv 2) pe_non))))), ?_⟩
  have hs : z.length ≤ sizeLine := by rw [sizeLine_eq]; omega
  have zl : z.length = z.cps.toList.length := rfl
  have no : numOk z = false → ∀ H', Kp [] H H' → Q .non H' := fun h H' k => by
    have := q H' k
    unfold numF at this
    rw [if_neg (by rw [h]; simp)] at this
    exact this
  have bad1 : ¬ (1 ≤ z.length ∧ z.length ≤ 4) → numOk z = false := fun h => by
    unfold numOk
    by_cases h1 : 1 ≤ z.length
    · rw [decide_eq_false (show ¬ z.length ≤ 4 from fun h2 => h ⟨h1, h2⟩)]; simp
    · rw [decide_eq_false h1]; simp
  walk_at "st"
  refine c_ite (fun h1 => ?_) (fun h1 => ?_)
  · walk_at "st"
    refine c_iteN (fun h2 => ?_) (fun h2 => ?_)
    · walk_at "st"
      exact no (bad1 (by omega)) H Kp.refl
    obtain ⟨x, r, hx⟩ : ∃ x r, z.cps.toList = x :: r := by
      cases e : z.cps.toList with
      | nil => rw [e] at zl; simp at zl; omega
      | cons x r => exact ⟨x, r, rfl⟩
    have tail : ∀ H', Kp [] H H' → ¬ (x = 48 ∧ 1 < z.length) → ∀ {G : Prop},
        (((z.cps.toList.map fun c => !digitB c).any id) = true → Q .non H' → G) →
        (((z.cps.toList.map fun c => !digitB c).any id) = false → intText? z = some (numV z) → ((numV z ≤ m ∧ Q (.int (numV z)) H') ∨ (¬ numV z ≤ m ∧ Q .non H')) → G) → G := by
      intro H' e hh G g1 g2
      cases hb : (z.cps.toList.map fun c => !digitB c).any id with
      | true =>
        refine g1 hb (no ?_ H' e)
        have : z.cps.toList.all digitB = false := by
          rw [List.any_map] at hb
          rw [← Bool.not_eq_true, List.all_eq_true]
          intro h
          obtain ⟨c, hc, hd⟩ := List.any_eq_true.mp hb
          rw [Function.comp_apply] at hd
          simp [h c hc] at hd
        unfold numOk
        rw [this, Bool.and_false]
      | false =>
        have al : ∀ c ∈ z.cps.toList, digitB c = true := by
          intro c hc
          rw [List.any_map, ← Bool.not_eq_true, List.any_eq_true] at hb
          cases hd : digitB c with
          | true => rfl
          | false => exact absurd ⟨c, hc, by simp [hd]⟩ hb
        have e0 : intText? z = some (numV z) := intText_digits (fun c hc => digit_iff.mp (al c hc)) (by rw [hx]; simp) (by omega)
        have ok : numOk z = true := by
          unfold numOk
          rw [List.all_eq_true.mpr al, decide_eq_true (show 1 ≤ z.length by omega), decide_eq_true (show z.length ≤ 4 by omega), hx]
          have : ¬ (some x = some 48 ∧ 1 < z.length) := fun h => hh ⟨Option.some.inj h.1, h.2⟩
          by_cases hx0 : x = 48
          · rw [decide_eq_false (show ¬ 1 < z.length from fun h => hh ⟨hx0, h⟩)]; simp
          · simp [hx0]
        have := q H' e
        unfold numF at this
        refine g2 hb e0 ?_
        by_cases hm : numV z ≤ m
        · rw [if_pos ⟨ok, hm⟩] at this; exact .inl ⟨hm, this⟩
        · rw [if_neg (fun h => hm h.2)] at this; exact .inr ⟨hm, this⟩
    walk_at "st"
    refine c_ixS hs (by rw [hx]; exact atI_nat (j := 0) rfl) ?_
    walk_at "st"
    refine c_ite (fun h3 => ?_) (fun h3 => ?_)
    · have h5 : x = 48 := by
        have := congrArg (fun t : Str => t.cps.toList) h3
        rw [show (PySem.Str.ofString "0").cps.toList = [48] by decide +kernel] at this
        simpa using this
      walk_at "st"
      refine c_ite (fun h4 => ?_) (fun h4 => ?_)
      · walk_at "st"
        refine no ?_ H Kp.refl
        unfold numOk
        rw [hx, h5, decide_eq_true (show 1 < z.length by omega)]
        simp
      · have hh : ¬ (x = 48 ∧ 1 < z.length) := fun h => h4 (by omega)
        walk_at "st"
        refine lcS_map (fun c => V.bl (!digitB c)) (fun _ => true) (by omega) (fun c H' R S hc e k1 k2 => ?_) (fun Dl H' hD e hacc => ?_)
        · walk_at "st"
          refine ⟨rfl, ?_⟩
          walk_at "st"
          exact k1 rfl _ Kp.refl
        · rw [fil_true, all_bl] at hacc
          refine c_anyB (SqL.of hacc) ?_
          refine tail _ e hh (fun hb e1 => ?_) (fun hb e0 hv => ?_)
          · rw [hb]; walk_at "st"; exact e1
          · rw [hb]; walk_at "st"
            refine ⟨_, _, rfl, e0, by omega, ?_⟩
            walk_at "st"
            rcases hv with ⟨h7, h8⟩ | ⟨h7, h8⟩
            · refine c_iteT (decide_eq_true h7) ?_
              walk_at "st"
              exact h8
            · refine c_iteF (decide_eq_false h7) ?_
              walk_at "st"
              exact h8
    · have hh : ¬ (x = 48 ∧ 1 < z.length) := fun h => h3 (by rw [h.1]; decide +kernel)
      walk_at "st"
      refine lcS_map (fun c => V.bl (!digitB c)) (fun _ => true) (by omega) (fun c H' R S hc e k1 k2 => ?_) (fun Dl H' hD e hacc => ?_)
      · walk_at "st"
        refine ⟨rfl, ?_⟩
        walk_at "st"
        exact k1 rfl _ Kp.refl
      · rw [fil_true, all_bl] at hacc
        refine c_anyB (SqL.of hacc) ?_
        refine tail _ e hh (fun hb e1 => ?_) (fun hb e0 hv => ?_)
        · rw [hb]; walk_at "st"; exact e1
        · rw [hb]; walk_at "st"
          refine ⟨_, _, rfl, e0, by omega, ?_⟩
          walk_at "st"
          rcases hv with ⟨h7, h8⟩ | ⟨h7, h8⟩
          · refine c_iteT (decide_eq_true h7) ?_
            walk_at "st"
            exact h8
          · refine c_iteF (decide_eq_false h7) ?_
            walk_at "st"
            exact h8
  · walk_at "st"
    exact no (bad1 (by omega)) H Kp.refl
theorem D__read_number (T : TX K mg) : DefAt P w K mg base CX0 "_read_number" 2 ["text", "most"] (spNum) :=
  def_of T 30 63 sc__read_number bn__read_number (by walk_at "len") (b__read_number T)
def acceptF (ws : List Str) : Option (Int × Int × Str) := match ws with
  | [a, d, e, n] => if a = PySem.Str.ofString "accept" ∧ isNameS n = true then (match numF d 2, numF e 9999 with
    | some i, some j => some (i, j, n)
    | _, _ => none) else none
  | _ => none
def spAccept (K : PySem.W.Frag) : Sp := fun vs H Q _ => ∃ (a p : Addr) (ws : List Str), vs = [.ref a, .ref p] ∧ SqL K H a (ws.map V.str) ∧ (∀ y ∈ ws, y.length ≤ 100000) ∧ (acceptF ws = none → ∀ H', Kp [] H H' → Q .non H') ∧
  ∀ d e n, acceptF ws = some (d, e, n) → ∀ q H', Kp [] H H' → SqT K H' q [.str "accept", .int d, .int e, .str n, .ref p] → Q (.ref q) H'
theorem sc__read_accept : FnScope ["words", "actions", "desk", "serial"] ["words", "actions"] (defScope s__read_accept) := ⟨rfl, rfl, rfl, by decide +kernel, rfl, by decide +kernel, by decide +kernel⟩
theorem bn__read_accept : BindN "_read_accept" s__read_accept ["words", "actions"] := fun _ _ _ _ _ _ us hl => match us, hl with | [_, _], _ => rfl
theorem b__read_accept (T : TX K mg) : Body P w K mg base "_read_accept" s__read_accept ["words", "actions", "desk", "serial"] 2 (spAccept K) := by
  intro cdv A outer s H vs Q E h X hr
  obtain ⟨a, p, ws, rfl, ha, hl, qn, q⟩ := h
  have D__read_number := D__read_number (P := P) (w := w) (base := base) T; have D_is_name := D_is_name (P := P) (w := w) (base := base) T
  refine ⟨_, (pss_cons (ps_if (PW.pt (pw_or (pt_cmpR (op_neU (K := K) hr.units) (pe_callB (cr_len (K := K)) rfl (T.free 2) PySem.boot_len (pa_cons (pv 0) pa_nil)) pe_int (nomark _)) (pw_or (pt_cmpR (op_neU (K := K) hr.units) (pe_ix (ix_U (K := K)) (pv 0) pe_int (fun _ _ => rfl)) (pe_gStr (T.str 57)) (nomark _)) (pw_or1 (pt_not (pt_tru (K := K) (pe_callA D_is_name hr pass0 (pa_cons (pe_ix (ix_U (K := K)) (pv 0) pe_int (fun _ _ => rfl)) pa_nil)))))))) (pss_one (ps_ret pe_non)) pss_nil) (pss_cons (ps_set (i := 2) sc__read_accept.nd rfl (Or.inl rfl) (pe_callA D__read_number hr pass0 (pa_cons (pe_ix (ix_U (K := K)) (pv 0) pe_int (fun _ _ => rfl)) (pa_cons (pe_op op_subU (pe_gInt (T.int 65)) pe_int) pa_nil)))) (pss_cons (ps_set (i := 3) sc__read_accept.nd rfl (Or.inl rfl) (pe_callA D__read_number hr pass0 (pa_cons (pe_ix (ix_U (K := K)) (pv 0) pe_int (fun _ _ => rfl)) (pa_cons (pe_gInt (T.int 64)) pa_nil)))) (pss_one (ps_ret (pe_ifExp (PW.pt (pw_or (pt_cmpR op_isU (pv 2) pe_non (nomark _)) (pw_or1 (pt_cmpR op_isU (pv 3) pe_non (nomark _))))) pe_non (pe_tup (pa_cons (pe_gStr (T.str 57)) (pa_cons (pv 2) (pa_cons (pv 3) (pa_cons (pe_ix (ix_U (K := K)) (pv 0) pe_int (fun _ _ => rfl)) (pa_cons (pv 1) pa_nil)))))))))))), ?_⟩
  walk_at "st"
  refine c_iteNB (fun h1 => ?_) (fun h1 => ?_)
  · walk_at "st"
    refine qn ?_ H Kp.refl
    rw [decide_eq_false_iff_not, List.length_map] at h1
    unfold acceptF
    split
    · exact absurd rfl h1
    · rfl
  · obtain ⟨w0, w1, w2, w3, rfl⟩ : ∃ w0 w1 w2 w3, ws = [w0, w1, w2, w3] := by
      rw [decide_eq_true_eq, List.length_map] at h1
      match ws, h1 with
      | [w0, w1, w2, w3], _ => exact ⟨_, _, _, _, rfl⟩
    have ha : SqL K H a [.str w0, .str w1, .str w2, .str w3] := ha
    have l1 := hl w1 (by simp)
    have l2 := hl w2 (by simp)
    have l3 := hl w3 (by simp)
    walk_at "st"
    refine c_iteNB (fun h2 => ?_) (fun h2 => ?_)
    · walk_at "st"
      refine qn ?_ H Kp.refl
      rw [decide_eq_false_iff_not] at h2
      unfold acceptF
      simp only []
      rw [if_neg (fun z => h2 z.1)]
    walk_at "st"
    refine ⟨w3, rfl, l3, fun H1 k1 => ?_⟩
    walk_at "st"
    refine c_iteNB (fun h3 => ?_) (fun h3 => ?_)
    · walk_at "st"
      refine qn ?_ H1 k1
      unfold acceptF
      simp only []
      rw [if_neg (fun z => by rw [h3] at z; exact Bool.false_ne_true z.2)]
    rw [decide_eq_true_eq] at h2
    have ea : acceptF [w0, w1, w2, w3] = (match numF w1 2, numF w2 9999 with
      | some i, some j => some (i, j, w3)
      | _, _ => none) := by
      show (if _ then _ else _) = _
      rw [if_pos ⟨h2, h3⟩]
    have ha1 := SqL.kp k1 ha
    walk_at "st"
    refine ⟨w1, 2, rfl, by omega, fun H2 k2 => ?_⟩
    have ha2 := SqL.kp k2 ha1
    walk_at "st"
    refine ⟨w2, 9999, rfl, by omega, fun H3 k3 => ?_⟩
    have ha3 := SqL.kp k3 ha2
    have k13 := (k1.trans k2).trans k3
    cases e1 : numF w1 2 with
    | none =>
      rw [e1] at ea
      walk_at "st"
      exact qn (by rw [ea]) H3 k13
    | some i =>
      cases e2 : numF w2 9999 with
      | none =>
        rw [e1, e2] at ea
        walk_at "st"
        refine c_iteF (decide_eq_false (by intro z; cases z)) ?_
        walk_at "st"
        exact qn (by rw [ea]) H3 k13
      | some j =>
        rw [e1, e2] at ea
        walk_at "st"
        refine c_iteF (decide_eq_false (by intro z; cases z)) ?_
        walk_at "st"
        refine c_iteF (decide_eq_false (by intro z; cases z)) ?_
        walk_at "st"
        walk_at "nw"
        intro p4 H4 N4
        exact q i j w3 ea p4 H4 (k13.trans N4.kp) (SqT.of N4.at_)
theorem D__read_accept (T : TX K mg) : DefAt P w K mg base CX0 "_read_accept" 3 ["words", "actions"] (spAccept K) :=
  def_of T 31 66 sc__read_accept bn__read_accept (by walk_at "len") (b__read_accept T)
end
end K45



namespace K45
open PySem L2 Sa
local macro_rules | `(tactic| walk_at "s1") => `(tactic| first | (with_reducible apply c_dgetK))
local macro_rules | `(tactic| walk_at "s1") => `(tactic| (with_reducible apply c_raiseO))
local macro_rules | `(tactic| walk_at "s1") => `(tactic| first | (with_reducible apply c_dgetK))
local macro_rules | `(tactic| walk_at "s1") => `(tactic| (with_reducible apply c_raiseO))
local macro_rules | `(tactic| walk_at "s1") => `(tactic| first | (with_reducible apply c_un) | (with_reducible apply c_negI))
set_option pp.maxSteps 1500
inductive Rec where
  | epoch | first (fs : List File) | accept (d s : Int) (n : Str) (acts : List Action)
def writesOf (fs : List File) : List Action := fs.map fun f => .write f.1 f.2
def recHead (d s : Int) (n : Str) : Str := PySem.Str.ofString "accept" ++ PySem.Str.ofString " " ++ PySem.Str.ofString (toString d) ++ PySem.Str.ofString " " ++ PySem.Str.ofString (toString s) ++ PySem.Str.ofString " " ++ n ++ PySem.Str.ofString "\n"
def recT : Rec → Str
  | .epoch => PySem.Str.ofString "epoch" ++ PySem.Str.ofString "\n"
  | .first fs => PySem.Str.ofString "first" ++ PySem.Str.ofString "\n" ++ wrAs (writesOf fs)
  | .accept d s n acts => recHead d s n ++ wrAs acts
def RecAt (K : PySem.W.Frag) (H : Hp) (a : Addr) : Rec → Prop
  | .epoch => SqT K H a [.str "epoch"]
  | .first fs => ∃ t, SqT K H a [.str "first", .ref t] ∧ TreeG K H t fs
  | .accept d s n acts => ∃ p xs, SqT K H a [.str "accept", .int d, .int s, .str n, .ref p] ∧ SqT K H p xs ∧ DtAll K H xs (acts.map Action.d)
structure RecOk (r : Rec) : Prop where
  fs : ∀ fs, r = .first fs → GoodP fs
  ac : ∀ d s n acts, r = .accept d s n acts → 0 ≤ d ∧ d < 100000 ∧ 0 ≤ s ∧ s < 100000 ∧ n.length ≤ 1000 ∧ (∀ x ∈ acts, x.bad = none) ∧ acts.length ≤ 20000
theorem num_len {n : Int} (h0 : 0 ≤ n) (h1 : n < 100000) : (PySem.Str.ofString (toString n)).length ≤ 5 := by
  obtain ⟨m, rfl⟩ := Int.eq_ofNat_of_zero_le h0
  have e : (PySem.Str.ofString (toString ((m : Nat) : Int))).length = (TL.numL m).length := by
    exact congrArg List.length (TL.tl_num m)
  rw [e]
  exact TL.numL_len (by omega) (by omega)
theorem num_small {n : Int} (h0 : 0 ≤ n) (h1 : n < 100000) : n.natAbs.log2 < 1920 := by
  have : n.natAbs < 100000 := by omega
  by_cases h : n.natAbs = 0
  · rw [h]; decide
  · exact Nat.lt_trans ((Nat.log2_lt h).mpr (Nat.lt_trans this (by decide : 100000 < 2 ^ 17))) (by omega)
theorem acc_len : (PySem.Str.ofString "accept").length = 6 ∧ (PySem.Str.ofString "first").length = 5 ∧ (PySem.Str.ofString " ").length = 1 ∧ (PySem.Str.ofString "\n").length = 1 ∧ Str.empty.length = 0 := by decide +kernel
theorem writes_bad {fs : List File} (G : GoodP fs) : ∀ x ∈ writesOf fs, x.bad = none := fun x hx => by
  obtain ⟨f, hf, rfl⟩ := List.mem_map.mp hx
  simp [Action.bad, G.path f hf, G.lines f hf]
theorem empty_app (s : Str) : Str.empty ++ s = s := str_ext (by rw [cps_app]; rfl)
theorem c_fmtC {σ : St} {H : Hp} {Q : VK} {y : Str} (hl : y.length ≤ sizeLine) (h : Q (.str y) H) : tFmt (tC (.str y)) σ H Q := .inl ⟨y, rfl, hl, h⟩
theorem c_fmtV {σ : St} {H : Hp} {Q : VK} {k : Nat} {y : Str} (e : σ[k]? = some (some (.str y))) (hl : y.length ≤ sizeLine) (h : Q (.str y) H) : tFmt (tVar k) σ H Q := by
  unfold tFmt
  exact c_var e (.inl ⟨y, rfl, hl, h⟩)
theorem c_fmtI {σ : St} {H : Hp} {Q : VK} {k : Nat} {n : Int} (e : σ[k]? = some (some (.int n))) (hl : n.natAbs.log2 < 1920) (h : Q (.str (PySem.Str.ofString (toString n))) H) : tFmt (tVar k) σ H Q := by
  unfold tFmt
  exact c_var e (.inr ⟨n, rfl, hl, h⟩)
section
variable {P : Program} {w : World} {K : PySem.W.Frag} {mg : Str → Option Value} {base : Heap}
def spWrRec (K : PySem.W.Frag) : Sp := fun vs H Q _ => ∃ (a : Addr) (r : Rec), vs = [.ref a] ∧ RecAt K H a r ∧ RecOk r ∧ ∀ H', Kp [] H H' → Q (.str (recT r)) H'
theorem sc_write_record : FnScope ["record", "_", "desk", "serial", "name", "actions", "path", "lines"] ["record"] (defScope s_write_record) := ⟨rfl, rfl, rfl, by decide +kernel, rfl, by decide +kernel, by decide +kernel⟩
theorem bn_write_record : BindN "write_record" s_write_record ["record"] := fun _ _ _ _ _ _ us hl => match us, hl with | [_], _ => rfl
theorem b_write_record (T : TX K mg) : Body P w K mg base "write_record" s_write_record ["record", "_", "desk", "serial", "name", "actions", "path", "lines"] 4 (spWrRec K) := by
  intro cdv A outer s H vs Q E h X hr
  obtain ⟨a, r, rfl, ha, ho, q⟩ := h
  have C_Tree := C_Tree T; have D_write_actions := D_write_actions (P := P) (w := w) (base := base) T; have M_Tree_files := M_Tree_files (P := P) (w := w) (base := base) T
  refine ⟨_, (pss_cons (ps_if (pt_cmpR (op_eqU (K := K) hr.units) (pe_ix (ix_U (K := K)) (pv 0) pe_int (fun _ _ => rfl)) (pe_gStr (T.str 59)) (nomark _)) (pss_one (ps_ret (pe_op (op_addU (K := K)) (pe_gStr (T.str 59)) pe_str))) pss_nil) (pss_cons (ps_if (pt_cmpR (op_eqU (K := K) hr.units) (pe_ix (ix_U (K := K)) (pv 0) pe_int (fun _ _ => rfl)) (pe_gStr (T.str 58)) (nomark _)) (pss_one (ps_ret (pe_op (op_addU (K := K)) (pe_op (op_addU (K := K)) (pe_gStr (T.str 58)) pe_str) (pe_callA D_write_actions hr pass0 (pa_cons (pe_lc (own := [("path", 6), ("lines", 7)]) rfl sc_write_record.nd (pi_tupU (K := K) (pe_methS0 M_Tree_files C_Tree hr at0 (pe_ix (ix_U (K := K)) (pv 0) pe_int (fun _ _ => rfl)))) (blkOk_by (N := ["record", "_", "desk", "serial", "name", "actions", "path", "lines"]) (sc := defScope s_write_record) (by decide +kernel)) (fun _ _ _ _ _ => (pg_tupU (K := K) (n := 2) rfl (pgs_cons (pg_name (i := 6) sc_write_record.nd rfl (Or.inl rfl)) (pgs_cons (pg_name (i := 7) sc_write_record.nd rfl (Or.inl rfl)) pgs_nil)))) (fun _ _ _ _ _ => pts_nil) (fun _ _ _ _ _ => (pe_tup (pa_cons pe_str (pa_cons (pv 6) (pa_cons (pv 7) pa_nil)))))) pa_nil))))) pss_nil) (pss_cons (ps_asg (pv 0) (pg_tupU (K := K) (n := 5) rfl (pgs_cons (pg_name (i := 1) sc_write_record.nd rfl (Or.inl rfl)) (pgs_cons (pg_name (i := 2) sc_write_record.nd rfl (Or.inl rfl)) (pgs_cons (pg_name (i := 3) sc_write_record.nd rfl (Or.inl rfl)) (pgs_cons (pg_name (i := 4) sc_write_record.nd rfl (Or.inl rfl)) (pgs_cons (pg_name (i := 5) sc_write_record.nd rfl (Or.inl rfl)) pgs_nil))))))) (pss_one (ps_ret (pe_op (op_addU (K := K)) (pe_joinedU (PJ.cons (pe_fmt (pe_gStr (T.str 57))) (PJ.cons pe_str (PJ.cons (pe_fmt (pv 2)) (PJ.cons pe_str (PJ.cons (pe_fmt (pv 3)) (PJ.cons pe_str (PJ.cons (pe_fmt (pv 4)) (PJ.cons pe_str PJ.nil))))))))) (pe_callA D_write_actions hr pass0 (pa_cons (pv 5) pa_nil)))))))), ?_⟩
  obtain ⟨al, fl, sl, nl0, zl⟩ := acc_len
  cases r with
  | epoch =>
    have ha : SqT K H a _ := ha
    walk_at "dc"
    refine c_addS (by rw [sizeLine_eq]; decide +kernel) ?_
    exact q H Kp.refl
  | first fs =>
    obtain ⟨t, ha, ht⟩ := ha
    have G := ho.fs fs rfl
    have gl := G.len
    walk_at "dc"
    refine c_addS (by rw [sizeLine_eq]; decide +kernel) ?_
    walk_at "st"
    refine c_recvT ht rfl ?_
    walk_at "st"
    refine ⟨t, fs, rfl, ht.at_, by omega, fun p H1 rs k1 hp ers hrs => ?_⟩
    have rl : rs.length = fs.length := by rw [← ers, List.length_map]
    walk_at "st"
    refine lcQ_dt (K := K) (itn_t (ys := rs) (u := fun r : RowA => V.ref r.1)) (fun i => (Action.write (fs.getD i (Str.empty, [])).1 (fs.getD i (Str.empty, [])).2).d) (fun _ => true) (by omega) (fun H' e => SqT.kp e hp) (fun i x H' H'' R S hi e y j1 j2 => ?_) (fun Dl ws H2 hD e2 hacc hws => ?_)
    · obtain ⟨rfl, rr, hrr, rfl⟩ := y
      have g := hrs rr (List.mem_of_getElem? hrr)
      have ef : fs.getD i (Str.empty, []) = rr.2.2 := getD_of (by rw [← ers, List.getElem?_map, hrr]; rfl)
      rw [ef] at j1
      have g1 := SqT.kp e g.1
      have g2 := SqT.kp e g.2
      walk_at "st"
      refine ⟨rfl, ?_⟩
      walk_at "st"
      walk_at "nw"
      intro q4 H4 N4
      exact j1 rfl _ H4 N4.kp (ActAt.dt (x := .write rr.2.2.1 rr.2.2.2) ⟨_, SqT.of N4.at_, SqT.kp N4.kp g2⟩)
    rw [List.filter_eq_self.mpr (fun _ _ => rfl)] at hws
    have ew : ((List.range rs.length).map fun i => (Action.write (fs.getD i (Str.empty, [])).1 (fs.getD i (Str.empty, [])).2).d) = (writesOf fs).map Action.d := by
      rw [rl]
      unfold writesOf
      rw [List.map_map]
      apply List.ext_getElem?
      intro i
      rw [List.getElem?_map, List.getElem?_map]
      by_cases hi : i < fs.length
      · rw [List.getElem?_range hi, List.getElem?_eq_getElem hi]
        have eg : fs.getD i (Str.empty, []) = fs[i] := getD_of (List.getElem?_eq_getElem hi)
        show some (Action.write (fs.getD i (Str.empty, [])).1 (fs.getD i (Str.empty, [])).2).d = some _
        rw [eg]
        rfl
      · rw [List.getElem?_eq_none (by rw [List.length_range]; omega), List.getElem?_eq_none (by omega)]
        rfl
    rw [ew] at hws
    have hb := writes_bad G
    have wl : (writesOf fs).length = fs.length := by unfold writesOf; rw [List.length_map]
    have sm := acts_small hb
    walk_at "st"
    refine ⟨Dl, ws, writesOf fs, rfl, .inl (SqL.of hacc), hws, fun x hx => bad_tx (hb x hx), by omega, by omega, fun H3 k3 => ?_⟩
    walk_at "st"
    refine c_addS (by have := wrAs_len hb; rw [app_len, fl, nl0, sizeLine_eq]; omega) ?_
    exact q H3 ((k1.trans e2).trans k3)
  | accept d s n acts =>
    obtain ⟨p, xs, ha, hp, hd⟩ := ha
    obtain ⟨d0, d1, s0, s1, nl, hb, hn⟩ := ho.ac d s n acts rfl
    have hdl := num_len d0 d1
    have hsl := num_len s0 s1
    have wl := wrAs_len hb
    have sm := acts_small hb
    have jn : ∀ (ts : List TE) (σ : St) (H : Hp) (R : Str → Hp → Prop) (acc y : Str) (t : TE), (∀ Q' : VK, Q' (.str y) H → t σ H Q') → (acc ++ y).length ≤ sizeLine → tJs ts (acc ++ y) σ H R → tJs (t :: ts) acc σ H R := fun ts σ H R acc y t ht hl h => c_jsC (ht _ ⟨y, rfl, hl, h⟩)
    walk_at "dc"
    refine c_joinS ?_
    refine jn _ _ _ _ _ _ _ (fun Q' h => c_fmtC (by rw [al, sizeLine_eq]; omega) h) (by simp only [app_len, al, sl, nl0, zl, sizeLine_eq]; omega) ?_
    refine jn _ _ _ _ _ _ _ (fun Q' h => c_c h) (by simp only [app_len, al, sl, nl0, zl, sizeLine_eq]; omega) ?_
    refine jn _ _ _ _ _ _ _ (fun Q' h => c_fmtI rfl (num_small d0 d1) h) (by simp only [app_len, al, sl, nl0, zl, sizeLine_eq]; omega) ?_
    refine jn _ _ _ _ _ _ _ (fun Q' h => c_c h) (by simp only [app_len, al, sl, nl0, zl, sizeLine_eq]; omega) ?_
    refine jn _ _ _ _ _ _ _ (fun Q' h => c_fmtI rfl (num_small s0 s1) h) (by simp only [app_len, al, sl, nl0, zl, sizeLine_eq]; omega) ?_
    refine jn _ _ _ _ _ _ _ (fun Q' h => c_c h) (by simp only [app_len, al, sl, nl0, zl, sizeLine_eq]; omega) ?_
    refine jn _ _ _ _ _ _ _ (fun Q' h => c_fmtV rfl (by rw [sizeLine_eq]; omega) h) (by simp only [app_len, al, sl, nl0, zl, sizeLine_eq]; omega) ?_
    refine jn _ _ _ _ _ _ _ (fun Q' h => c_c h) (by simp only [app_len, al, sl, nl0, zl, sizeLine_eq]; omega) ?_
    refine c_jsN ?_
    rw [empty_app]
    walk_at "st"
    refine ⟨p, xs, acts, rfl, .inr hp, hd, fun x hx => bad_tx (hb x hx), by omega, by omega, fun H3 k3 => ?_⟩
    walk_at "st"
    refine c_addS (by simp only [app_len, al, sl, nl0, zl, sizeLine_eq]; omega) ?_
    exact q H3 k3
theorem D_write_record (T : TX K mg) : DefAt P w K mg base CX0 "write_record" 5 ["record"] (spWrRec K) :=
  def_of T 29 60 sc_write_record bn_write_record (by walk_at "len") (b_write_record T)
end
end K45



namespace K45
open PySem L2 Sa
local macro_rules | `(tactic| walk_at "s1") => `(tactic| first | (with_reducible apply c_dgetK))
local macro_rules | `(tactic| walk_at "s1") => `(tactic| (with_reducible apply c_raiseO))
local macro_rules | `(tactic| walk_at "s1") => `(tactic| first | (with_reducible apply c_dgetK))
local macro_rules | `(tactic| walk_at "s1") => `(tactic| (with_reducible apply c_raiseO))
local macro_rules | `(tactic| walk_at "s1") => `(tactic| first | (with_reducible apply c_un) | (with_reducible apply c_negI))
set_option pp.maxSteps 1500
def nlS : Str := PySem.Str.ofString "\n"
def candF (z : Str) (acts : List Action) : Option Rec :=
  if (Txt.partition z nlS).1 = PySem.Str.ofString "epoch" then some .epoch
  else if (Txt.partition z nlS).1 = PySem.Str.ofString "first" then some (.first (runF [] acts).2)
  else match acceptF (Txt.split (Txt.partition z nlS).1 (PySem.Str.ofString " ")) with
    | some (d, s, n) => some (.accept d s n acts)
    | none => none
def readRec (z : Str) : Option Rec := match optActs (Txt.partition z nlS).2.2 with
  | none => none
  | some acts => match candF z acts with
    | none => none
    | some r => if recT r = z then some r else none
theorem part_sub {z : Str} : (∀ c ∈ (Txt.partition z nlS).1.cps.toList, c ∈ z.cps.toList) ∧ (∀ c ∈ (Txt.partition z nlS).2.2.cps.toList, c ∈ z.cps.toList) ∧ (Txt.partition z nlS).1.length ≤ z.length ∧ (Txt.partition z nlS).2.2.length ≤ z.length := by
  have e := PySem.StrLaws.partition_sum z nlS
  have e1 := congrArg (fun t : Str => t.cps.toList) e
  simp only [cps_app] at e1
  have e2 := congrArg Str.length e
  simp only [app_len] at e2
  refine ⟨fun c hc => ?_, fun c hc => ?_, by omega, by omega⟩
  · rw [← e1]; exact List.mem_append_left _ (List.mem_append_left _ hc)
  · rw [← e1]; exact List.mem_append_right _ hc
theorem plainZ_ok {z : Str} (h : plainZ z) : okS z = true := okS_iff.mpr fun c hc => by
  have := h c hc
  omega
theorem acceptF_fair {ws : List Str} {d e : Int} {n : Str} (h : acceptF ws = some (d, e, n)) : 0 ≤ d ∧ d ≤ 2 ∧ 0 ≤ e ∧ e ≤ 9999 ∧ isNameS n = true := by
  unfold acceptF at h
  split at h
  · rename_i a x y m
    split at h
    · rename_i hc
      split at h
      · rename_i i j e1 e2
        injection h with h
        injection h with h1 h2
        injection h2 with h2 h3
        subst h1; subst h2; subst h3
        have f : ∀ {z : Str} {m i : Int}, numF z m = some i → 0 ≤ i ∧ i ≤ m := fun {z m i} h => by
          unfold numF at h
          split at h
          · rename_i hm
            injection h with h
            subst h
            exact ⟨Int.natCast_nonneg _, hm.2⟩
          · cases h
        exact ⟨(f e1).1, (f e1).2, (f e2).1, (f e2).2, hc.2⟩
      · cases h
    · cases h
  · cases h
theorem name_len {n : Str} (h : isNameS n = true) : n.length ≤ 8 := by
  unfold isNameS at h
  simp only [Bool.and_eq_true, decide_eq_true_eq] at h
  exact h.1.2
theorem gnil : GoodP ([] : List File) := ⟨by simp, .nil, by simp, by simp, by simp⟩
section
variable {P : Program} {w : World} {K : PySem.W.Frag} {mg : Str → Option Value} {base : Heap}
theorem rows0 (T : TX K mg) (H' : Hp) : RowsAt K H' (He.dflAt ("Tree", some "__init__") 0 K) [] := by
  obtain ⟨p, xs, e0, h1, h2⟩ := dt_tup (Dt.of (dflTree T H') rfl)
  injection e0 with e0
  rw [dta_nil h2, ← e0] at h1
  exact ⟨[], .inr h1, rfl, by simp⟩
theorem c_tree0 (T : TX K mg) {H : Hp} {Q : VK} {E : XK} (q : ∀ t H', Kp [] H H' → TreeG K H' t [] → Q (.ref t) H') : NewK K "Tree" (spTreeInit K) [.ref (He.dflAt ("Tree", some "__init__") 0 K)] H Q E :=
  c_newTree (rows0 T H) (good_sane (goodF_iff.mpr gnil)) (fun _ t H8 e8 ht => q t H8 e8 (newT ht gnil)) (fun g => noE (K := K) gnil g)
theorem RecAt.kp {H H' : Hp} {a : Addr} : ∀ {r : Rec}, Kp [] H H' → RecAt K H a r → RecAt K H' a r
  | .epoch, k, h => SqT.kp k h
  | .first _, k, ⟨t, h1, h2⟩ => ⟨t, SqT.kp k h1, h2.kp k⟩
  | .accept _ _ _ _, k, ⟨p, xs, h1, h2, h3⟩ => ⟨p, xs, SqT.kp k h1, SqT.kp k h2, DtAll.kp h3 k⟩
def spRdRec (K : PySem.W.Frag) : Sp := fun vs H Q _ => ∃ z : Str, vs = [.str z] ∧ z.length ≤ 100000 ∧ plainZ z ∧ (readRec z = none → ∀ H', Kp [] H H' → Q .non H') ∧
  (∀ r, readRec z = some r → recT r = z → ∀ a H', Kp [] H H' → RecAt K H' a r → RecOk r → Q (.ref a) H')
theorem sc_read_record : FnScope ["text", "head", "_", "rest", "actions", "record"] ["text"] (defScope s_read_record) := ⟨rfl, rfl, rfl, by decide +kernel, rfl, by decide +kernel, by decide +kernel⟩
theorem bn_read_record : BindN "read_record" s_read_record ["text"] := fun _ _ _ _ _ _ us hl => match us, hl with | [_], _ => rfl
theorem b_read_record (T : TX K mg) : Body P w K mg base "read_record" s_read_record ["text", "head", "_", "rest", "actions", "record"] 11 (spRdRec K) := by
  intro cdv A outer s H vs Q E h X hr
  obtain ⟨z, rfl, hz, hp, qn, q⟩ := h
  have C_Tree := C_Tree T; have D__read_accept := D__read_accept (P := P) (w := w) (base := base) T; have D__read_actions := D__read_actions (P := P) (w := w) (base := base) T; have D_run := D_run (P := P) (w := w) (base := base) T; have D_write_record := D_write_record (P := P) (w := w) (base := base) T; have M0_Tree___init__ := M0_Tree___init__ (P := P) (w := w) (base := base) T; have Mk_Tree := Mk_Tree T
  refine ⟨_, (pss_cons (ps_asg (pe_partitionU (pv 0) pe_str) (pg_tupU (K := K) (n := 3) rfl (pgs_cons (pg_name (i := 1) sc_read_record.nd rfl (Or.inl rfl)) (pgs_cons (pg_name (i := 2) sc_read_record.nd rfl (Or.inl rfl)) (pgs_cons (pg_name (i := 3) sc_read_record.nd rfl (Or.inl rfl)) pgs_nil))))) (pss_cons (ps_set (i := 4) sc_read_record.nd rfl (Or.inl rfl) (pe_callA D__read_actions hr pass0 (pa_cons (pv 3) pa_nil))) (pss_cons (ps_if (pt_cmpR op_isU (pv 4) pe_non (nomark _)) (pss_one (ps_ret pe_non)) pss_nil) (pss_cons (ps_if (pt_cmpR (op_eqU (K := K) hr.units) (pv 1) (pe_gStr (T.str 59)) (nomark _)) (pss_one (ps_set (i := 5) sc_read_record.nd rfl (Or.inl rfl) (pe_tup (pa_cons (pe_gStr (T.str 59)) pa_nil)))) (pss_one (ps_if (pt_cmpR (op_eqU (K := K) hr.units) (pv 1) (pe_gStr (T.str 58)) (nomark _)) (pss_one (ps_set (i := 5) sc_read_record.nd rfl (Or.inl rfl) (pe_tup (pa_cons (pe_gStr (T.str 58)) (pa_cons (pe_ix (ix_U (K := K)) (pe_callA D_run hr passE0 (pa_cons (pe_newD M0_Tree___init__ Mk_Tree C_Tree hr atE) (pa_cons (pv 4) pa_nil))) pe_int (fun _ _ => rfl)) pa_nil))))) (pss_one (ps_set (i := 5) sc_read_record.nd rfl (Or.inl rfl) (pe_callA D__read_accept hr pass0 (pa_cons (pe_splitU (pv 1) pe_str) (pa_cons (pv 4) pa_nil)))))))) (pss_one (ps_ret (pe_ifExp (PW.pt (pw_and (pt_cmpR op_isNotU (pv 5) pe_non (nomark _)) (pw_and1 (pt_cmpR (op_eqU (K := K) hr.units) (pe_callA D_write_record hr pass0 (pa_cons (pv 5) pa_nil)) (pv 0) (nomark _))))) (pv 5) pe_non))))))), ?_⟩
  obtain ⟨m1, m2, l1, l2⟩ := part_sub (z := z)
  walk_at "st"
  refine c_parti (by decide +kernel) (by rw [sizeLine_eq]; omega) fun p1 H1 N1 => ?_
  have N1' := N1.at_
  walk_at "st"
  refine ⟨_, rfl, by have : (Txt.partition z (PySem.Str.ofString "\n")).2.2.length ≤ z.length := l2; omega, okS_iff.mpr fun c hc => okS_iff.mp (plainZ_ok hp) c (m2 c hc), fun ea H2 k2 => ?_, fun acts ea hr1 hr2 htx H2 p xs k2 hps hds => ?_⟩
  · walk_at "st"
    exact qn (by unfold readRec; rw [show optActs (Txt.partition z nlS).2.2 = none from ea]) H2 (N1.kp.trans k2)
  have ea : optActs (Txt.partition z nlS).2.2 = some acts := ea
  have hg := read_good (z := (Txt.partition z nlS).2.2) (fun c hc => hp c (m2 c hc)) hr1
  have hr2 : (Txt.partition z nlS).2.2.length ≤ 8000 := hr2
  have k12 := N1.kp.trans k2
  walk_at "st"
  refine c_iteF (decide_eq_false (by intro z; cases z)) ?_
  walk_at "st"
  refine c_ite (fun h1 => ?_) (fun h1 => ?_)
  · have h1 : (Txt.partition z nlS).1 = PySem.Str.ofString "epoch" := h1
    have hc : candF z acts = some .epoch := by unfold candF; rw [if_pos h1]
    walk_at "st"
    walk_at "nw"
    intro p3 H3 N3
    have rat : RecAt K H3 p3 .epoch := SqT.of N3.at_
    have rok : RecOk .epoch := ⟨fun _ h => (by cases h), fun _ _ _ _ h => by cases h⟩
    walk_at "st"
    refine c_iteT rfl ?_
    walk_at "st"
    refine ⟨p3, _, rfl, rat, rok, fun HW kw => ?_⟩
    walk_at "st"
    refine c_ite (fun he => ?_) (fun he => ?_)
    · walk_at "st"
      exact q _ (by unfold readRec; rw [ea]; show (match candF z acts with | none => none | some r => if recT r = z then some r else none) = _; rw [hc]; exact if_pos he) he _ HW ((k12.trans N3.kp).trans kw) (RecAt.kp kw rat) rok
    · walk_at "st"
      exact qn (by unfold readRec; rw [ea]; show (match candF z acts with | none => none | some r => if recT r = z then some r else none) = _; rw [hc]; exact if_neg he) HW ((k12.trans N3.kp).trans kw)
  have h1 : ¬ (Txt.partition z nlS).1 = PySem.Str.ofString "epoch" := h1
  walk_at "st"
  refine c_ite (fun h2 => ?_) (fun h2 => ?_)
  · have h2 : (Txt.partition z nlS).1 = PySem.Str.ofString "first" := h2
    have hc : candF z acts = some (.first (runF [] acts).2) := by unfold candF; rw [if_neg h1, if_pos h2]
    walk_at "st"
    refine c_tree0 T fun t H3 k3 hT => ?_
    walk_at "st"
    refine ⟨t, p, acts, [], rfl, hT, .tup (SqT.kp k3 hps) (DtAll.kp hds k3), by omega, hg.1, fun p4 j t' H4 k4 hp4 hj hT4 => ?_⟩
    walk_at "st"
    walk_at "nw"
    intro p5 H5 N5
    have rat : RecAt K H5 p5 (.first (runF [] acts).2) := ⟨t', SqT.of N5.at_, hT4.kp N5.kp⟩
    have rok : RecOk (.first (runF [] acts).2) := ⟨fun fs h => (by injection h with h; rw [← h]; exact (runF_ok gnil hg.1).2), fun _ _ _ _ h => by cases h⟩
    walk_at "st"
    refine c_iteT rfl ?_
    walk_at "st"
    refine ⟨p5, _, rfl, rat, rok, fun HW kw => ?_⟩
    walk_at "st"
    refine c_ite (fun he => ?_) (fun he => ?_)
    · walk_at "st"
      exact q _ (by unfold readRec; rw [ea]; show (match candF z acts with | none => none | some r => if recT r = z then some r else none) = _; rw [hc]; exact if_pos he) he _ HW ((((k12.trans k3).trans k4).trans N5.kp).trans kw) (RecAt.kp kw rat) rok
    · walk_at "st"
      exact qn (by unfold readRec; rw [ea]; show (match candF z acts with | none => none | some r => if recT r = z then some r else none) = _; rw [hc]; exact if_neg he) HW ((((k12.trans k3).trans k4).trans N5.kp).trans kw)
  have h2 : ¬ (Txt.partition z nlS).1 = PySem.Str.ofString "first" := h2
  walk_at "st"
  have l1 : (Txt.partition z (PySem.Str.ofString "\n")).1.length ≤ z.length := l1
  refine c_split (by decide +kernel) (by rw [sizeLine_eq]; omega) fun p3 H3 N3 => ?_
  walk_at "st"
  refine ⟨p3, p, _, rfl, SqL.of N3.at_, fun y hy => by have := split_part hy; omega, fun en H4 k4 => ?_, fun d e n en p4 H4 k4 hp4 => ?_⟩
  · have hc : candF z acts = none := by unfold candF; rw [if_neg h1, if_neg h2, show acceptF (Txt.split (Txt.partition z nlS).1 (PySem.Str.ofString " ")) = none from en]
    walk_at "st"
    exact qn (by unfold readRec; rw [ea]; show (match candF z acts with | none => none | some r => if recT r = z then some r else none) = _; rw [hc]) H4 ((k12.trans N3.kp).trans k4)
  · have en : acceptF (Txt.split (Txt.partition z nlS).1 (PySem.Str.ofString " ")) = some (d, e, n) := en
    have hc : candF z acts = some (.accept d e n acts) := by unfold candF; rw [if_neg h1, if_neg h2, en]
    obtain ⟨d0, d1, e0, e1, nm⟩ := acceptF_fair en
    have nl := name_len nm
    have rat : RecAt K H4 p4 (.accept d e n acts) := ⟨p, xs, hp4, SqT.kp (N3.kp.trans k4) hps, DtAll.kp hds (N3.kp.trans k4)⟩
    have rok : RecOk (.accept d e n acts) := ⟨fun _ h => (by cases h), fun d' e' n' acts' h => by injection h with h1 h2 h3 h4; subst h1; subst h2; subst h3; subst h4; exact ⟨d0, by omega, e0, by omega, by omega, hg.1, by omega⟩⟩
    walk_at "st"
    refine c_iteT rfl ?_
    walk_at "st"
    refine ⟨p4, _, rfl, rat, rok, fun HW kw => ?_⟩
    walk_at "st"
    refine c_ite (fun he => ?_) (fun he => ?_)
    · walk_at "st"
      exact q _ (by unfold readRec; rw [ea]; show (match candF z acts with | none => none | some r => if recT r = z then some r else none) = _; rw [hc]; exact if_pos he) he _ HW (((k12.trans N3.kp).trans k4).trans kw) (RecAt.kp kw rat) rok
    · walk_at "st"
      exact qn (by unfold readRec; rw [ea]; show (match candF z acts with | none => none | some r => if recT r = z then some r else none) = _; rw [hc]; exact if_neg he) HW (((k12.trans N3.kp).trans k4).trans kw)
theorem D_read_record (T : TX K mg) : DefAt P w K mg base CX0 "read_record" 12 ["text"] (spRdRec K) :=
  def_of T 33 69 sc_read_record bn_read_record (by walk_at "len") (b_read_record T)
end
end K45



namespace K45
open PySem L2 Sa
local macro_rules | `(tactic| walk_at "s1") => `(tactic| first | (with_reducible apply c_dgetK))
local macro_rules | `(tactic| walk_at "s1") => `(tactic| (with_reducible apply c_raiseO))
def tPaths : List Str := ["a", "b", "c", "d", "a/x", "a/y", "b/x", "b/x/z", "c/q", "e"]
def tPlaces : List Str := ["", "a", "b", "b/x", "c", "a/y"]
def tLines : List Str := ["", "p", "q", "p q", "r"]
theorem tPaths_ok : ∀ z ∈ tPaths, isPathS z = true := by decide +kernel
theorem tPlaces_ok : ∀ z ∈ tPlaces, isPlaceS z = true := by decide +kernel
theorem tLines_ok : ∀ z ∈ tLines, isLineS z = true := by decide +kernel
section
variable {P : Program} {w : World} {K : PySem.W.Frag} {mg : Str → Option Value} {base : Heap}
theorem sc__law_alike : FnScope ["_law_one", "_law_two"] ["_law_one", "_law_two"] (defScope s__law_alike) := ⟨rfl, rfl, rfl, by decide +kernel, rfl, by decide +kernel, by decide +kernel⟩
theorem bn__law_alike : BindN "_law_alike" s__law_alike ["_law_one", "_law_two"] := fun _ _ _ _ _ _ us hl => match us, hl with | [_, _], _ => rfl
theorem b__law_alike (T : TX K mg) : BodyG P w K mg base "_law_alike" s__law_alike ["_law_one", "_law_two"] 1 (spAlike K) := by
  intro cdv A outer s H vs Q E h X hr hg
  obtain ⟨x, y, d, rfl, hx, hy, nd, q⟩ := h
  refine ⟨_, (pss_one (ps_ret (pe_cmpR (op_eqU (K := K) hr.units) (pe_callB (cr_reprD (K := K) hg (un100 hr)) rfl (T.free 73) (by decide +kernel) (pa_cons (pv 0) pa_nil)) (pe_callB (cr_reprD (K := K) hg (un100 hr)) rfl (T.free 73) (by decide +kernel) (pa_cons (pv 1) pa_nil)) (nomark _)))), ?_⟩
  walk_at "st"
  refine c_repr hx nd ?_
  walk_at "st"
  refine c_repr hy nd ?_
  walk_at "st"
  rw [decide_eq_true rfl]
  exact q
theorem D__law_alike (T : TX K mg) : DefG P w K mg base "_law_alike" 2 ["_law_one", "_law_two"] (spAlike K) :=
  defG_of T 37 74 sc__law_alike bn__law_alike (by walk_at "len") (b__law_alike T)
def spTbPath : Sp := fun vs H Q _ => ∃ (b d : Addr), vs = [.ref b] ∧ Bx H b d ∧ ∀ z H', isPathS z = true → Kp [b] H H' → Bx H' b d → Q (.str z) H'
theorem sc__law_path : FnScope ["_law_box"] ["_law_box"] (defScope s__law_path) := ⟨rfl, rfl, rfl, by decide +kernel, rfl, by decide +kernel, by decide +kernel⟩
theorem bn__law_path : BindN "_law_path" s__law_path ["_law_box"] := fun _ _ _ _ _ _ us hl => match us, hl with | [_], _ => rfl
theorem b__law_path (T : TX K mg) : Body P w K mg base "_law_path" s__law_path ["_law_box"] 2 (spTbPath) := by
  intro cdv A outer s H vs Q E h X hr
  obtain ⟨b, d, rfl, B, q⟩ := h
  have D__law_draw := D__law_draw (P := P) (w := w) (base := base) T
  refine ⟨_, (pss_one (ps_ret (pe_ix (ix_U (K := K)) (pe_lst (pa_cons pe_str (pa_cons pe_str (pa_cons pe_str (pa_cons pe_str (pa_cons pe_str (pa_cons pe_str (pa_cons pe_str (pa_cons pe_str (pa_cons pe_str (pa_cons pe_str pa_nil))))))))))) (pe_callA D__law_draw hr pass0 (pa_cons (pv 0) (pa_cons pe_int pa_nil))) (fun _ _ => rfl)))), ?_⟩
  walk_at "st"
  walk_at "nw"
  intro p H1 N
  walk_at "st"
  refine ⟨b, d, 10, rfl, B.nw N, by decide, fun i H2 h0 h1 e2 B2 => ?_⟩
  exact c_pickM (u := V.str) tPaths (B.pick N e2) h0 h1 fun z hz => q z H2 (tPaths_ok z hz) (N.kp.trans e2) B2
theorem D__law_path (T : TX K mg) : DefAt P w K mg base CX0 "_law_path" 3 ["_law_box"] (spTbPath) :=
  def_of T 38 75 sc__law_path bn__law_path (by walk_at "len") (b__law_path T)
def spTbPlace : Sp := fun vs H Q _ => ∃ (b d : Addr), vs = [.ref b] ∧ Bx H b d ∧ ∀ z H', isPlaceS z = true → Kp [b] H H' → Bx H' b d → Q (.str z) H'
theorem sc__law_place : FnScope ["_law_box"] ["_law_box"] (defScope s__law_place) := ⟨rfl, rfl, rfl, by decide +kernel, rfl, by decide +kernel, by decide +kernel⟩
theorem bn__law_place : BindN "_law_place" s__law_place ["_law_box"] := fun _ _ _ _ _ _ us hl => match us, hl with | [_], _ => rfl
theorem b__law_place (T : TX K mg) : Body P w K mg base "_law_place" s__law_place ["_law_box"] 2 (spTbPlace) := by
  intro cdv A outer s H vs Q E h X hr
  obtain ⟨b, d, rfl, B, q⟩ := h
  have D__law_draw := D__law_draw (P := P) (w := w) (base := base) T
  refine ⟨_, (pss_one (ps_ret (pe_ix (ix_U (K := K)) (pe_lst (pa_cons pe_str (pa_cons pe_str (pa_cons pe_str (pa_cons pe_str (pa_cons pe_str (pa_cons pe_str pa_nil))))))) (pe_callA D__law_draw hr pass0 (pa_cons (pv 0) (pa_cons pe_int pa_nil))) (fun _ _ => rfl)))), ?_⟩
  walk_at "st"
  walk_at "nw"
  intro p H1 N
  walk_at "st"
  refine ⟨b, d, 6, rfl, B.nw N, by decide, fun i H2 h0 h1 e2 B2 => ?_⟩
  exact c_pickM (u := V.str) tPlaces (B.pick N e2) h0 h1 fun z hz => q z H2 (tPlaces_ok z hz) (N.kp.trans e2) B2
theorem D__law_place (T : TX K mg) : DefAt P w K mg base CX0 "_law_place" 3 ["_law_box"] (spTbPlace) :=
  def_of T 39 76 sc__law_place bn__law_place (by walk_at "len") (b__law_place T)
theorem sc__law_lines : FnScope ["_law_box", "_law_most", "_law_k"] ["_law_box", "_law_most"] (defScope s__law_lines) := ⟨rfl, rfl, rfl, by decide +kernel, rfl, by decide +kernel, by decide +kernel⟩
theorem bn__law_lines : BindN "_law_lines" s__law_lines ["_law_box", "_law_most"] := fun _ _ _ _ _ _ us hl => match us, hl with | [_, _], _ => rfl
theorem b__law_lines (T : TX K mg) : Body P w K mg base "_law_lines" s__law_lines ["_law_box", "_law_most", "_law_k"] 2 (spLinesD K) := by
  intro cdv A outer s H vs Q E h X hr
  obtain ⟨b, d, m, rfl, B, m0, m1, q⟩ := h
  have D__law_draw := D__law_draw (P := P) (w := w) (base := base) T
  refine ⟨_, (pss_one (ps_ret (pe_callTy (cr_tuple (K := K)) rfl (T.free 28) (by decide +kernel) (pa_cons (pe_lc (own := [("_law_k", 2)]) rfl sc__law_lines.nd (pi_range1 rfl (T.free 27) (pa_cons (pe_callA D__law_draw hr pass0 (pa_cons (pv 0) (pa_cons (pe_op (op_addU (K := K)) (pv 1) pe_int) pa_nil))) pa_nil)) (blkOk_by (N := ["_law_box", "_law_most", "_law_k"]) (sc := defScope s__law_lines) (by decide +kernel)) (fun _ _ _ _ _ => (pg_name (i := 2) sc__law_lines.nd rfl (Or.inl rfl))) (fun _ _ _ _ _ => pts_nil) (fun _ _ _ _ _ => (pe_ix (ix_U (K := K)) (pe_lst (pa_cons pe_str (pa_cons pe_str (pa_cons pe_str (pa_cons pe_str (pa_cons pe_str pa_nil)))))) (pe_callA D__law_draw hr pass0 (pa_cons (pv 0) (pa_cons pe_int pa_nil))) (fun _ _ => rfl)))) pa_nil)))), ?_⟩
  walk_at "st"
  refine ⟨b, d, m + 1, rfl, B, by omega, fun i H1 h0 h1 e1 B1 => ?_⟩
  walk_at "st"
  refine lcR_draw V.str (fun z => z ∈ tLines) B1 (by omega) (fun i H' R S hi e B3 k => ?_) (fun Dl H' ns hD hlen hP e B3 hacc => ?_)
  · walk_at "st"
    refine ⟨rfl, ?_⟩
    walk_at "st"
    walk_at "nw"
    intro p2 H4 N4
    walk_at "st"
    refine ⟨b, d, 5, rfl, B3.nw N4, by decide, fun j H5 g0 g1 e5 B5 => ?_⟩
    exact c_pickM (u := V.str) tLines (B3.pick N4 e5) g0 g1 fun z hz => k z H5 hz (N4.kp.trans e5) B5
  · refine c_tupleL (SqL.of hacc) fun p H2 N => ?_
    refine q p ns H2 ?_ (by omega) ((e1.trans e).trans N.kp) (B3.nw N) (SqT.of N.at_)
    unfold isLinesS
    rw [decide_eq_true (by omega), Bool.true_and, List.all_eq_true]
    exact fun z hz => tLines_ok z (hP z hz)
theorem D__law_lines (T : TX K mg) : DefAt P w K mg base CX0 "_law_lines" 3 ["_law_box", "_law_most"] (spLinesD K) :=
  def_of T 40 77 sc__law_lines bn__law_lines (by walk_at "len") (b__law_lines T)
def spTbDrawn (K : PySem.W.Frag) (p : Action → Bool) : Sp := fun vs H Q _ => ∃ (b d : Addr), vs = [.ref b] ∧ Bx H b d ∧ ∀ a x H', x.bad = none → p x = true → Kp [b] H H' → Bx H' b d → ActAt K H' a x → Q (.ref a) H'
theorem sc__law_question : FnScope ["_law_box", "_law_kind"] ["_law_box"] (defScope s__law_question) := ⟨rfl, rfl, rfl, by decide +kernel, rfl, by decide +kernel, by decide +kernel⟩
theorem bn__law_question : BindN "_law_question" s__law_question ["_law_box"] := fun _ _ _ _ _ _ us hl => match us, hl with | [_], _ => rfl
theorem b__law_question (T : TX K mg) : Body P w K mg base "_law_question" s__law_question ["_law_box", "_law_kind"] 3 (spTbDrawn K fun x => x.isQ) := by
  intro cdv A outer s H vs Q E h X hr
  obtain ⟨b, d, rfl, B, q⟩ := h
  have D__law_draw := D__law_draw (P := P) (w := w) (base := base) T; have D__law_path := D__law_path (P := P) (w := w) (base := base) T; have D__law_place := D__law_place (P := P) (w := w) (base := base) T
  refine ⟨_, (pss_cons (ps_set (i := 1) sc__law_question.nd rfl (Or.inl rfl) (pe_callA D__law_draw hr pass0 (pa_cons (pv 0) (pa_cons pe_int pa_nil)))) (pss_cons (ps_if (pt_cmpR op_ltU (pv 1) pe_int (nomark _)) (pss_one (ps_ret (pe_tup (pa_cons pe_str (pa_cons (pe_callA D__law_path hr pass0 (pa_cons (pv 0) pa_nil)) pa_nil))))) pss_nil) (pss_cons (ps_if (pt_cmpR (op_eqU (K := K) hr.units) (pv 1) pe_int (nomark _)) (pss_one (ps_ret (pe_tup (pa_cons pe_str (pa_cons (pe_callA D__law_place hr pass0 (pa_cons (pv 0) pa_nil)) (pa_cons (pe_ix (ix_U (K := K)) (pe_lst (pa_cons pe_str (pa_cons pe_str (pa_cons pe_str (pa_cons pe_str pa_nil))))) (pe_callA D__law_draw hr pass0 (pa_cons (pv 0) (pa_cons pe_int pa_nil))) (fun _ _ => rfl)) pa_nil)))))) pss_nil) (pss_one (ps_ret (pe_tup (pa_cons (pe_ix (ix_U (K := K)) (pe_lst (pa_cons pe_str (pa_cons pe_str (pa_cons pe_str pa_nil)))) (pe_op op_subU (pv 1) pe_int) (fun _ _ => rfl)) (pa_cons (pe_callA D__law_place hr pass0 (pa_cons (pv 0) pa_nil)) pa_nil)))))))), ?_⟩
  walk_at "st"
  refine ⟨b, d, 6, rfl, B, by decide, fun i H2 h0 h1 e2 B2 => ?_⟩
  walk_at "st"
  refine c_ite (fun g1 => ?_) (fun g1 => ?_)
  · walk_at "st"
    refine ⟨b, d, rfl, B2, fun z H3 hz e3 B3 => ?_⟩
    walk_at "st"
    walk_at "nw"
    intro p4 H4 N4
    exact q p4 (.read z) H4 (by simp only [Action.bad, hz, if_true]) rfl ((e2.trans e3).trans N4.kp) (B3.nw N4) (SqT.of N4.at_)
  walk_at "st"
  refine c_ite (fun g2 => ?_) (fun g2 => ?_)
  · walk_at "st"
    refine ⟨b, d, rfl, B2, fun z H3 hz e3 B3 => ?_⟩
    walk_at "st"
    walk_at "nw"
    intro p4 H4 N4
    walk_at "st"
    refine ⟨b, d, 4, rfl, B3.nw N4, by decide, fun j H5 j0 j1 e5 B5 => ?_⟩
    refine c_pickM (u := V.str) ["p", "q", "r", "p q"] (B3.pick N4 e5) j0 j1 fun y hy => ?_
    have hw : isWordS y = true := (by decide +kernel : ∀ y ∈ (["p", "q", "r", "p q"] : List Str), isWordS y = true) y hy
    walk_at "st"
    walk_at "nw"
    intro p6 H6 N6
    refine q p6 (.find z y) H6 (by simp only [Action.bad, hz, hw, if_true]) rfl ((((e2.trans e3).trans N4.kp).trans e5).trans N6.kp) (B5.nw N6) (SqT.of N6.at_)
  walk_at "st"
  walk_at "nw"
  intro p4 H4 N4
  walk_at "st"
  refine c_pickM (u := V.str) ["kind", "list", "count"] (SqL.of N4.at_) (by omega) (by show i - 3 < 3; omega) fun y hy => ?_
  walk_at "st"
  refine ⟨b, d, rfl, B2.nw N4, fun z H5 hz e5 B5 => ?_⟩
  walk_at "st"
  walk_at "nw"
  intro p6 H6 N6
  have k6 := ((e2.trans N4.kp).trans e5).trans N6.kp
  simp only [List.mem_cons, List.not_mem_nil, or_false] at hy
  rcases hy with rfl | rfl | rfl
  · exact q p6 (.kind z) H6 (by simp only [Action.bad, hz, if_true]) rfl k6 (B5.nw N6) (SqT.of N6.at_)
  · exact q p6 (.list z) H6 (by simp only [Action.bad, hz, if_true]) rfl k6 (B5.nw N6) (SqT.of N6.at_)
  · exact q p6 (.count z) H6 (by simp only [Action.bad, hz, if_true]) rfl k6 (B5.nw N6) (SqT.of N6.at_)
theorem D__law_question (T : TX K mg) : DefAt P w K mg base CX0 "_law_question" 4 ["_law_box"] (spTbDrawn K fun x => x.isQ) :=
  def_of T 41 78 sc__law_question bn__law_question (by walk_at "len") (b__law_question T)
theorem sc__law_action : FnScope ["_law_box", "_law_kind"] ["_law_box"] (defScope s__law_action) := ⟨rfl, rfl, rfl, by decide +kernel, rfl, by decide +kernel, by decide +kernel⟩
theorem bn__law_action : BindN "_law_action" s__law_action ["_law_box"] := fun _ _ _ _ _ _ us hl => match us, hl with | [_], _ => rfl
theorem b__law_action (T : TX K mg) : Body P w K mg base "_law_action" s__law_action ["_law_box", "_law_kind"] 4 (spTbDrawn K fun _ => true) := by
  intro cdv A outer s H vs Q E h X hr
  obtain ⟨b, d, rfl, B, q⟩ := h
  have D__law_draw := D__law_draw (P := P) (w := w) (base := base) T; have D__law_lines := D__law_lines (P := P) (w := w) (base := base) T; have D__law_path := D__law_path (P := P) (w := w) (base := base) T; have D__law_question := D__law_question (P := P) (w := w) (base := base) T
  refine ⟨_, (pss_cons (ps_set (i := 1) sc__law_action.nd rfl (Or.inl rfl) (pe_callA D__law_draw hr pass0 (pa_cons (pv 0) (pa_cons pe_int pa_nil)))) (pss_cons (ps_if (pt_cmpR op_ltU (pv 1) pe_int (nomark _)) (pss_one (ps_ret (pe_callA D__law_question hr pass0 (pa_cons (pv 0) pa_nil)))) pss_nil) (pss_cons (ps_if (pt_cmpR op_ltU (pv 1) pe_int (nomark _)) (pss_one (ps_ret (pe_tup (pa_cons pe_str (pa_cons (pe_callA D__law_path hr pass0 (pa_cons (pv 0) pa_nil)) (pa_cons (pe_callA D__law_lines hr pass0 (pa_cons (pv 0) (pa_cons pe_int pa_nil))) pa_nil)))))) pss_nil) (pss_cons (ps_if (pt_cmpR (op_eqU (K := K) hr.units) (pv 1) pe_int (nomark _)) (pss_one (ps_ret (pe_tup (pa_cons pe_str (pa_cons (pe_callA D__law_path hr pass0 (pa_cons (pv 0) pa_nil)) pa_nil))))) pss_nil) (pss_cons (ps_if (pt_cmpR (op_eqU (K := K) hr.units) (pv 1) pe_int (nomark _)) (pss_one (ps_ret (pe_tup (pa_cons pe_str (pa_cons (pe_callA D__law_path hr pass0 (pa_cons (pv 0) pa_nil)) (pa_cons (pe_callA D__law_path hr pass0 (pa_cons (pv 0) pa_nil)) pa_nil)))))) pss_nil) (pss_one (ps_ret (pe_tup (pa_cons pe_str (pa_cons (pe_callA D__law_path hr pass0 (pa_cons (pv 0) pa_nil)) (pa_cons (pe_tup (pa_cons (pe_ix (ix_U (K := K)) (pe_lst (pa_cons pe_str (pa_cons pe_str (pa_cons pe_str pa_nil)))) (pe_callA D__law_draw hr pass0 (pa_cons (pv 0) (pa_cons pe_int pa_nil))) (fun _ _ => rfl)) pa_nil)) (pa_cons (pe_callA D__law_lines hr pass0 (pa_cons (pv 0) (pa_cons pe_int pa_nil))) pa_nil)))))))))))), ?_⟩
  walk_at "st"
  refine ⟨b, d, 9, rfl, B, by decide, fun i H2 h0 h1 e2 B2 => ?_⟩
  walk_at "st"
  refine c_ite (fun g1 => ?_) (fun g1 => ?_)
  · walk_at "st"
    exact ⟨b, d, rfl, B2, fun a x H3 hb _ e3 B3 ha => q a x H3 hb rfl (e2.trans e3) B3 ha⟩
  walk_at "st"
  refine c_ite (fun g2 => ?_) (fun g2 => ?_)
  · walk_at "st"
    refine ⟨b, d, rfl, B2, fun z H3 hz e3 B3 => ?_⟩
    walk_at "st"
    refine ⟨b, d, 4, rfl, B3, by decide, by decide, fun la ls H4 hls _ e4 B4 hla => ?_⟩
    walk_at "st"
    walk_at "nw"
    intro p5 H5 N5
    exact q p5 (.write z ls) H5 (by simp only [Action.bad, hz, hls, if_true]) rfl (((e2.trans e3).trans e4).trans N5.kp) (B4.nw N5) ⟨la, SqT.of N5.at_, SqT.kp N5.kp hla⟩
  walk_at "st"
  refine c_ite (fun g3 => ?_) (fun g3 => ?_)
  · walk_at "st"
    refine ⟨b, d, rfl, B2, fun z H3 hz e3 B3 => ?_⟩
    walk_at "st"
    walk_at "nw"
    intro p5 H5 N5
    exact q p5 (.remove z) H5 (by simp only [Action.bad, hz, if_true]) rfl ((e2.trans e3).trans N5.kp) (B3.nw N5) (SqT.of N5.at_)
  walk_at "st"
  refine c_ite (fun g4 => ?_) (fun g4 => ?_)
  · walk_at "st"
    refine ⟨b, d, rfl, B2, fun z H3 hz e3 B3 => ?_⟩
    walk_at "st"
    refine ⟨b, d, rfl, B3, fun y H4 hy e4 B4 => ?_⟩
    walk_at "st"
    walk_at "nw"
    intro p5 H5 N5
    exact q p5 (.move z y) H5 (by simp only [Action.bad, hz, hy, if_true]) rfl (((e2.trans e3).trans e4).trans N5.kp) (B4.nw N5) (SqT.of N5.at_)
  walk_at "st"
  refine ⟨b, d, rfl, B2, fun z H3 hz e3 B3 => ?_⟩
  walk_at "st"
  walk_at "nw"
  intro p4 H4 N4
  walk_at "st"
  refine ⟨b, d, 3, rfl, B3.nw N4, by decide, fun j H5 j0 j1 e5 B5 => ?_⟩
  refine c_pickM (u := V.str) ["p", "q", ""] (B3.pick N4 e5) j0 j1 fun y hy => ?_
  have hy1 : isLinesS [y] = true := (by decide +kernel : ∀ y ∈ (["p", "q", ""] : List Str), isLinesS [y] = true) y hy
  walk_at "st"
  walk_at "nw"
  intro p6 H6 N6
  walk_at "st"
  refine ⟨b, d, 3, rfl, B5.nw N6, by decide, by decide, fun la ls H7 hls _ e7 B7 hla => ?_⟩
  walk_at "st"
  walk_at "nw"
  intro p8 H8 N8
  have h6 : SqT K H7 p6 ([y].map V.str) := SqT.kt ((B5.nw N6).kt e7) (SqT.of N6.at_)
  exact q p8 (.splice z [y] ls) H8 (by simp [Action.bad, hz, hy1, hls]) rfl ((((((e2.trans e3).trans N4.kp).trans e5).trans N6.kp).trans e7).trans N8.kp) (B7.nw N8) ⟨p6, la, SqT.of N8.at_, SqT.kp N8.kp h6, SqT.kp N8.kp hla⟩
theorem D__law_action (T : TX K mg) : DefAt P w K mg base CX0 "_law_action" 5 ["_law_box"] (spTbDrawn K fun _ => true) :=
  def_of T 42 79 sc__law_action bn__law_action (by walk_at "len") (b__law_action T)
end
end K45



namespace K45
open PySem L2 Sa
local macro_rules | `(tactic| walk_at "s1") => `(tactic| first | (with_reducible apply c_dgetK))
local macro_rules | `(tactic| walk_at "s1") => `(tactic| (with_reducible apply c_raiseO))
theorem fil_strs (ps : List Str) (p : Str → Bool) : (((List.range ps.length).filter fun i => p (ps.getD i Str.empty)).map fun i => V.str (ps.getD i Str.empty)) = (ps.filter p).map V.str := by
  have : ps = (List.range ps.length).map fun i => ps.getD i Str.empty := by
    apply List.ext_getElem?
    intro n
    rw [List.getElem?_map]
    by_cases hn : n < ps.length
    · rw [List.getElem?_range hn, List.getElem?_eq_getElem hn]
      simp [List.getD_eq_getElem?_getD, List.getElem?_eq_getElem hn]
    · rw [List.getElem?_eq_none (by omega), List.getElem?_eq_none (by rw [List.length_range]; omega)]
      rfl
  conv => rhs; rw [this]
  rw [List.filter_map, List.map_map]
  rfl
theorem inside_any {fs : List File} (z : Str) : decide (insideF (sortF fs) z = []) = !decide (0 < (insideF fs z).length) := by
  rw [← (inside_perm (sortF_perm fs) z).length_eq, Bool.eq_iff_iff, decide_eq_true_eq, Bool.not_eq_true', decide_eq_false_iff_not]
  cases insideF (sortF fs) z with
  | nil => simp
  | cons a r => simp
theorem folder_eq (gs : List File) (z : Str) : isFolderF gs z = (decide (z = PySem.Str.ofString "") || !decide (insideF gs z = [])) := by
  unfold isFolderF
  congr 1
  rw [Bool.eq_iff_iff]
  unfold insideF
  cases (pathsOf gs).filter fun y => isInsideS y z with
  | nil => simp
  | cons a r => simp
section
variable {P : Program} {w : World} {K : PySem.W.Frag} {mg : Str → Option Value} {base : Heap}
def spTbInside (K : PySem.W.Frag) : Sp := fun vs H Q _ => ∃ (f : Addr) (z : Str) (fs : List File), vs = [.ref f, .str z] ∧ FilesAt K H f fs ∧ GoodP fs ∧ z.length ≤ 1000 ∧ ∀ p H', H p = none → Kp [] H H' → H' p = some (.lst ((insideF (sortF fs) z).map V.str)) → Q (.ref p) H'
theorem sc__law_inside : FnScope ["_law_table_here", "_law_place_here", "_law_path_here"] ["_law_table_here", "_law_place_here"] (defScope s__law_inside) := ⟨rfl, rfl, rfl, by decide +kernel, rfl, by decide +kernel, by decide +kernel⟩
theorem bn__law_inside : BindN "_law_inside" s__law_inside ["_law_table_here", "_law_place_here"] := fun _ _ _ _ _ _ us hl => match us, hl with | [_, _], _ => rfl
theorem b__law_inside (T : TX K mg) : Body P w K mg base "_law_inside" s__law_inside ["_law_table_here", "_law_place_here", "_law_path_here"] 1 (spTbInside K) := by
  intro cdv A outer s H vs Q E h X hr
  obtain ⟨f, z, fs, rfl, F, G, hz, q⟩ := h
  refine ⟨_, (pss_one (ps_ret (pe_lc (own := [("_law_path_here", 2)]) rfl sc__law_inside.nd (pi_listU (K := K) (pe_callB (cr_sortedDU rfl) rfl (T.free 30) (by decide +kernel) (pa_cons (pv 0) pa_nil))) (blkOk_by (N := ["_law_table_here", "_law_place_here", "_law_path_here"]) (sc := defScope s__law_inside) (by decide +kernel)) (fun _ _ _ _ _ => (pg_name (i := 2) sc__law_inside.nd rfl (Or.inl rfl))) (fun _ _ _ _ _ => (pts_one (PW.pt (pw_or (pt_cmpR (op_eqU (K := K) hr.units) (pv 1) pe_str (nomark _)) (pw_or1 (pt_cmpR (op_eqU (K := K) hr.units) (pe_slice (sl_U (K := K)) (pv 2) po_none (po_some (pe_op (op_addU (K := K)) (pe_callB (cr_len (K := K)) rfl (T.free 2) PySem.boot_len (pa_cons (pv 1) pa_nil)) pe_int))) (pe_op (op_addU (K := K)) (pv 1) pe_str) (nomark _))))))) (fun _ _ _ _ _ => (pv 2))))), ?_⟩
  have gl := G.len
  have e1 : (PySem.Str.ofString "/").length = 1 := by decide
  walk_at "st"
  refine c_sortedF F.r (by omega) fun sp H1 N1 => ?_
  walk_at "st"
  have hsp : SqL K H1 sp ((pathsOf (sortF fs)).map V.str) := SqL.of N1.at_
  have pn : (pathsOf (sortF fs)).length ≤ 20 := by unfold pathsOf; rw [List.length_map, sortF_len]; omega
  refine lcQ_fil (itn_l (ys := pathsOf (sortF fs)) (u := V.str)) (fun i => V.str ((pathsOf (sortF fs)).getD i Str.empty)) (fun i => isInsideS ((pathsOf (sortF fs)).getD i Str.empty) z) (by omega) (fun H' e => SqL.kp e hsp) (fun i x H' H'' R S hi e y k1 k2 => ?_) (fun D H2 hD e hacc => ?_)
  · obtain ⟨rfl, p, hp, rfl⟩ := y
    have ep : (pathsOf (sortF fs)).getD i Str.empty = p := getD_of hp
    have pl : p.length ≤ 1000 := by
      obtain ⟨r, hr, rfl⟩ := List.mem_map.mp (List.mem_of_getElem? hp)
      have := path_len (G.sort.path r hr)
      omega
    rw [ep] at k1 k2
    unfold isInsideS at k1 k2
    rw [← law_cut] at k1 k2
    walk_at "st"
    refine ⟨rfl, ?_⟩
    walk_at "st"
    refine c_ite (fun g => ?_) (fun g => ?_)
    · walk_at "st"
      exact k1 (by rw [decide_eq_true g]; rfl) _ Kp.refl
    · walk_at "st"
      rw [decide_eq_false g, Bool.false_or] at k1 k2
      refine c_slS (by rw [sizeLine_eq]; omega) ?_
      walk_at "st"
      refine c_addS (by rw [sizeLine_eq]; omega) ?_
      walk_at "st"
      refine c_ite (fun g2 => ?_) (fun g2 => ?_)
      · walk_at "st"
        exact k1 (decide_eq_true g2) _ Kp.refl
      · exact k2 (decide_eq_false g2) _ Kp.refl
  · rw [fil_strs _ fun y => isInsideS y z] at hacc
    exact q D H2 (free0 N1.kp hD) (N1.kp.trans e) hacc
theorem D__law_inside (T : TX K mg) : DefAt P w K mg base CX0 "_law_inside" 2 ["_law_table_here", "_law_place_here"] (spTbInside K) :=
  def_of T 44 81 sc__law_inside bn__law_inside (by walk_at "len") (b__law_inside T)
def spTbBarred (K : PySem.W.Frag) : Sp := fun vs H Q _ => ∃ (f : Addr) (z : Str) (fs : List File), vs = [.ref f, .str z] ∧ FilesAt K H f fs ∧ GoodP fs ∧ z.length ≤ 1000 ∧ okS z = true ∧ ∀ H', Kp [] H H' → Q (.bl (blockedF fs z)) H'
theorem sc__law_barred : FnScope ["_law_table_here", "_law_path_here", "_law_above", "_law_other"] ["_law_table_here", "_law_path_here"] (defScope s__law_barred) := ⟨rfl, rfl, rfl, by decide +kernel, rfl, by decide +kernel, by decide +kernel⟩
theorem bn__law_barred : BindN "_law_barred" s__law_barred ["_law_table_here", "_law_path_here"] := fun _ _ _ _ _ _ us hl => match us, hl with | [_, _], _ => rfl
theorem b__law_barred (T : TX K mg) : Body P w K mg base "_law_barred" s__law_barred ["_law_table_here", "_law_path_here", "_law_above", "_law_other"] 2 (spTbBarred K) := by
  intro cdv A outer s H vs Q E h X hr
  obtain ⟨f, z, fs, rfl, F, G, hz, oz, q⟩ := h
  have D__law_inside := D__law_inside (P := P) (w := w) (base := base) T
  refine ⟨_, (pss_cons (ps_lock (ps_setLc (i := 2) (own := [("_law_other", 3)]) rfl sc__law_barred.nd rfl rfl (sw_true rfl rfl rfl (by decide +kernel)) (pi_keys (pv 0)) (blkOk_by (N := ["_law_table_here", "_law_path_here", "_law_above", "_law_other"]) (sc := defScope s__law_barred) (by decide +kernel)) (fun _ _ _ _ _ => (pg_name (i := 3) sc__law_barred.nd rfl (Or.inl rfl))) (fun _ _ _ _ _ => (pts_one (pt_cmpR (op_eqU (K := K) hr.units) (pe_slice (sl_U (K := K)) (pv 1) po_none (po_some (pe_op (op_addU (K := K)) (pe_callB (cr_len (K := K)) rfl (T.free 2) PySem.boot_len (pa_cons (pv 3) pa_nil)) pe_int))) (pe_op (op_addU (K := K)) (pv 3) pe_str) (nomark _)))) (fun _ _ _ _ _ => (pv 3)))) (pss_one (ps_ret (pe_or (pe_cmpR (op_neU (K := K) hr.units) (pv 2) (pe_lst pa_nil) (nomark _)) (pe_one (pe_cmpR (op_neU (K := K) hr.units) (pe_callA D__law_inside hr pass0 (pa_cons (pv 0) (pa_cons (pv 1) pa_nil))) (pe_lst pa_nil) (nomark _))))))), ?_⟩
  have gl := G.len
  have e1 : (PySem.Str.ofString "/").length = 1 := by decide
  have hps : ∀ o ∈ pathsOf fs, o.length ≤ 1000 ∧ okS o = true ∧ o ≠ PySem.Str.ofString "" := fun o ho => by
    obtain ⟨r, hr, rfl⟩ := List.mem_map.mp ho
    have := path_len (G.path r hr)
    exact ⟨by omega, path_ok (G.path r hr), path_ne (G.path r hr)⟩
  obtain ⟨ls, hf, hl, hfs⟩ := id F.ex
  walk_at "st"
  refine c_lockF hf fun od => ?_
  walk_at "st"
  refine c_keysAtC upd_same ?_
  have hll : ls.length = (pathsOf fs).length := by rw [← hfs]; unfold pathsOf; rw [List.length_map, List.length_map]
  have gd : ∀ i l, ls[i]? = some l → (pathsOf fs).getD i Str.empty = l.2.1 ∧ l.2.1 ∈ pathsOf fs := fun i l h => by
    have : (pathsOf fs)[i]? = some l.2.1 := by rw [← hfs]; unfold pathsOf; rw [List.getElem?_map, List.getElem?_map, h]; rfl
    exact ⟨getD_of this, List.mem_of_getElem? this⟩
  have pn : (pathsOf fs).length ≤ 20 := by unfold pathsOf; rw [List.length_map]; omega
  refine lcQ_fil (itn_ks (ls := ls)) (fun i => V.str ((pathsOf fs).getD i Str.empty)) (fun i => isInsideS z ((pathsOf fs).getD i Str.empty)) (by omega) (fun H' e => e.at0 upd_same) (fun i x H' H'' R S hi e y k1 k2 => ?_) (fun D H1 hD e hacc => ?_)
  · obtain ⟨rfl, l, hl1, rfl⟩ := y
    obtain ⟨ge, gm⟩ := gd i l hl1
    obtain ⟨l1, l2, l3⟩ := hps _ gm
    rw [ge] at k1 k2
    unfold isInsideS at k1 k2
    rw [← law_cut, decide_eq_false l3, Bool.false_or] at k1 k2
    walk_at "st"
    refine ⟨rfl, ?_⟩
    walk_at "st"
    refine c_slS (by rw [sizeLine_eq]; omega) ?_
    walk_at "st"
    refine c_addS (by rw [sizeLine_eq]; omega) ?_
    walk_at "st"
    refine c_ite (fun g2 => ?_) (fun g2 => ?_)
    · walk_at "st"
      exact k1 (decide_eq_true g2) _ Kp.refl
    · exact k2 (decide_eq_false g2) _ Kp.refl
  have nd : D ≠ f := fun z => by rw [z, upd_same] at hD; cases hD
  have k0 := lock_kp hf e
  rw [hll, fil_strs _ fun y => isInsideS z y] at hacc
  have hacc2 : SqL K (upd H1 f (.dK (filesKv ls))) D ((aboveF fs z).map V.str) := SqL.of (upd_other (u := HO.dK (filesKv ls)) nd hacc)
  refine ⟨e.at0 upd_same, ?_⟩
  generalize upd H1 f (.dK (filesKv ls)) = H2 at *
  walk_at "st"
  walk_at "nw"
  intro p3 H3 N3
  have mem : ∀ y ∈ aboveF fs z, okS y = true := fun y hy => (hps y (List.mem_filter.mp hy).1).2.1
  refine c_neLS (zs := []) (SqL.kp N3.kp hacc2) (SqL.of N3.at_) mem (by simp) ?_
  have eb : blockedF fs z = (decide (0 < (insideF fs z).length) || !decide (aboveF fs z = [])) := by
    unfold blockedF
    congr 1
    rw [Bool.eq_iff_iff]
    cases aboveF fs z with
    | nil => simp
    | cons a r => simp
  walk_at "st"
  cases ga : decide (aboveF fs z = []) with
  | false =>
    rw [ga, Bool.not_false, Bool.or_true] at eb
    rw [eb] at q
    walk_at "dc"
    exact q _ (k0.trans N3.kp)
  | true =>
    rw [ga, Bool.not_true, Bool.or_false] at eb
    rw [eb] at q
    walk_at "dc"
    refine ⟨f, z, fs, rfl, (F.kp k0).kp N3.kp, G, hz, fun p4 H4 _ e4 hp4 => ?_⟩
    walk_at "st"
    walk_at "nw"
    intro p5 H5 N5
    have mem2 : ∀ y ∈ insideF (sortF fs) z, okS y = true := fun y hy => by
      have h1 := (List.mem_filter.mp hy).1
      exact (hps y ((paths_perm (sortF_perm fs)).subset h1)).2.1
    refine c_neLS (zs := []) (SqL.of (N5.keep hp4)) (SqL.of N5.at_) mem2 (by simp) ?_
    rw [inside_any, Bool.not_not]
    exact q _ (((k0.trans N3.kp).trans e4).trans N5.kp)
theorem D__law_barred (T : TX K mg) : DefAt P w K mg base CX0 "_law_barred" 3 ["_law_table_here", "_law_path_here"] (spTbBarred K) :=
  def_of T 45 82 sc__law_barred bn__law_barred (by walk_at "len") (b__law_barred T)
def spTbNames (K : PySem.W.Frag) : Sp := fun vs H Q _ => ∃ (f : Addr) (z : Str) (fs : List File), vs = [.ref f, .str z] ∧ FilesAt K H f fs ∧ GoodP fs ∧ z.length ≤ 1000 ∧ ∀ p H', Kp [] H H' → SqT K H' p ((namesF (sortF fs) z).map V.str) → Q (.ref p) H'
theorem sc__law_names : FnScope ["_law_table_here", "_law_place_here", "_law_skip", "_law_found_here", "_law_path_here", "_law_parts", "_law_name"] ["_law_table_here", "_law_place_here"] (defScope s__law_names) := ⟨rfl, rfl, rfl, by decide +kernel, rfl, by decide +kernel, by decide +kernel⟩
theorem bn__law_names : BindN "_law_names" s__law_names ["_law_table_here", "_law_place_here"] := fun _ _ _ _ _ _ us hl => match us, hl with | [_, _], _ => rfl
theorem b__law_names (T : TX K mg) : Body P w K mg base "_law_names" s__law_names ["_law_table_here", "_law_place_here", "_law_skip", "_law_found_here", "_law_path_here", "_law_parts", "_law_name"] 2 (spTbNames K) := by
  intro cdv A outer s H vs Q E h X hr
  obtain ⟨f, z, fs, rfl, F, G, hz, q⟩ := h
  have D__law_inside := D__law_inside (P := P) (w := w) (base := base) T
  refine ⟨_, (pss_cons (ps_set (i := 2) sc__law_names.nd rfl (Or.inl rfl) (pe_op (op_addU (K := K)) (pe_callB (cr_len (K := K)) rfl (T.free 2) PySem.boot_len (pa_cons (pv 1) pa_nil)) (pe_callTy cr_int rfl (T.free 61) (by decide +kernel) (pa_cons (pe_cmpR (op_neU (K := K) hr.units) (pv 1) pe_str (nomark _)) pa_nil)))) (pss_cons (ps_set (i := 3) sc__law_names.nd rfl (Or.inl rfl) (pe_lst pa_nil)) (pss_cons (ps_for PassesOwn.never rfl (pi_listU (K := K) (pe_callA D__law_inside hr pass0 (pa_cons (pv 0) (pa_cons (pv 1) pa_nil)))) (pg_name (i := 4) sc__law_names.nd rfl (Or.inl rfl)) (pss_cons (ps_set (i := 5) sc__law_names.nd rfl (Or.inl rfl) (pe_splitU (pe_slice (sl_U (K := K)) (pv 4) (po_some (pv 2)) po_none) pe_str)) (pss_cons (ps_set (i := 6) sc__law_names.nd rfl (Or.inl rfl) (pe_op (op_addU (K := K)) (pe_ix (ix_U (K := K)) (pv 5) pe_int (fun _ _ => rfl)) (pe_op (op_mulU (K := K)) pe_str (pe_callTy cr_int rfl (T.free 61) (by decide +kernel) (pa_cons (pe_cmpR op_gtU (pe_callB (cr_len (K := K)) rfl (T.free 2) PySem.boot_len (pa_cons (pv 5) pa_nil)) pe_int (nomark _)) pa_nil))))) (pss_one (ps_if (pt_cmpR (op_notInU (K := K)) (pv 6) (pv 3) rfl) (pss_one (ps_expr (pe_appendU (K := K) (pv 3) (pv 6)))) pss_nil))))) (pss_one (ps_ret (pe_callTy (cr_tuple (K := K)) rfl (T.free 28) (by decide +kernel) (pa_cons (pe_callB cr_sortedS rfl (T.free 30) (by decide +kernel) (pa_cons (pv 3) pa_nil)) pa_nil))))))), ?_⟩
  have gl := G.len
  have e1 : (PySem.Str.ofString "/").length = 1 := by decide
  have pn : (insideF (sortF fs) z).length ≤ 20 := by
    have := List.length_filter_le (fun y => isInsideS y z) (pathsOf (sortF fs))
    unfold insideF
    unfold pathsOf at this ⊢
    rw [List.length_map, sortF_len] at this
    omega
  have hps : ∀ o ∈ insideF (sortF fs) z, o.length ≤ 1000 := fun o ho => by
    obtain ⟨r, hr, rfl⟩ := List.mem_map.mp (List.mem_filter.mp ho).1
    have := path_len (G.sort.path r hr)
    omega
  unfold namesF at q
  walk_at "st"
  rw [← decide_not]
  refine c_intB ?_
  have est : (z.length : Int) + (if decide (¬z = PySem.Str.ofString "") = true then 1 else 0) = startN z := by
    unfold startN
    by_cases g : z = PySem.Str.ofString ""
    · rw [decide_eq_true g, decide_eq_false (fun h => h g)]
      subst g
      rfl
    · rw [decide_eq_false g, decide_eq_true g]
      rfl
  walk_at "st"
  rw [est]
  walk_at "nw"
  intro l H1 N1
  walk_at "st"
  refine ⟨f, z, fs, rfl, F.kp N1.kp, G, hz, fun il H2 fil e2 hil => ?_⟩
  generalize insideF (sortF fs) z = ps at *
  have hl2 := e2.at0 N1.at_
  have nl : il ≠ l := fun e => by rw [e, N1.at_] at fil; cases fil
  have hsp : SqL K H2 il (ps.map V.str) := SqL.of hil
  refine ⟨il, rfl, ⟨_, hsp⟩, ?_⟩
  refine forQ (itn_l (ys := ps) (u := V.str)) (fun i σ H' => ∃ v4 v5 v6, σ = [some (.ref f), some (.str z), some (.int (startN z)), some (.ref l), v4, v5, v6] ∧ Kp [l] H2 H' ∧
    H' l = some (.lst ((ded ((ps.take i).map (firstN z))).map V.str))) ⟨_, _, _, rfl, Kp.refl, hl2⟩ (by rintro i σ H' ⟨_, _, _, _, e, _⟩; exact SqL.kp1 e nl hsp) ?_ ?_
  · rintro i x σ _ H' hi ⟨v4, v5, v6, rfl, e, hacc⟩ ⟨rfl, o, ho, rfl⟩
    have hm := List.mem_of_getElem? ho
    have hlen := hps _ hm
    have et : (ps.take (i + 1)).map (firstN z) = (ps.take i).map (firstN z) ++ [firstN z o] := by rw [take_succ' ho, List.map_append]; rfl
    have dl : (ded ((ps.take i).map (firstN z))).length ≤ 20 := by
      have h1 := ded_le ((ps.take i).map (firstN z))
      rw [List.length_map, List.length_take] at h1
      omega
    have cl := cutS_len o (some (startN z)) none
    walk_at "st"
    refine c_slS (by rw [sizeLine_eq]; omega) ?_
    walk_at "st"
    refine c_split (by decide) (by rw [sizeLine_eq]; omega) fun p2 H3 N3 => ?_
    walk_at "st"
    obtain ⟨a0, t0, es, al, ef⟩ := split_first (cutS o (some (startN z)) none)
    have N3' := N3
    rw [es] at N3'
    refine c_ixL (v := .str a0) (SqL.of N3'.at_) (atI_nat (j := 0) rfl) ?_
    walk_at "st"
    rw [List.length_map]
    refine c_intB ?_
    walk_at "st"
    refine c_mulS (by split <;> decide) (by split <;> decide) (by rw [sizeLine_eq, e1]; split <;> decide) ?_
    walk_at "st"
    have er : a0 ++ rptS (PySem.Str.ofString "/") (if decide ((1 : Int) < ((a0 :: t0).length : Int)) = true then 1 else 0) = firstN z o := by
      unfold firstN
      rw [← ef]
      split
      · have : rptS (PySem.Str.ofString "/") 1 = PySem.Str.ofString "/" := by decide +kernel
        rw [this]
      · have : rptS (PySem.Str.ofString "/") 0 = PySem.Str.ofString "" := by decide +kernel
        rw [this]
        have e0 : (PySem.Str.ofString "").cps = #[] := by decide +kernel
        exact str_ext (by rw [cps_app, e0]; simp)
    refine c_addS (by
      have : (rptS (PySem.Str.ofString "/") (if decide ((1 : Int) < ((a0 :: t0).length : Int)) = true then 1 else 0)).length ≤ 1 := by split <;> decide +kernel
      rw [sizeLine_eq]; omega) ?_
    rw [er]
    walk_at "st"
    have k3 : Kp [l] H2 H3 := e.trans N3.kp
    have hacc3 := N3.keep hacc
    refine c_notInSs (.inl (SqL.of hacc3)) ?_
    walk_at "st"
    refine c_iteN (fun g1 => ?_) (fun g1 => ?_)
    · walk_at "st"
      refine ⟨_, _, _, rfl, k3.trans (Kp.mut (by simp)), ?_⟩
      rw [upd_same, et, ded_snoc, if_neg g1, List.map_append]
      rfl
    · walk_at "st"
      refine ⟨_, _, _, rfl, k3, ?_⟩
      rw [et, ded_snoc, if_pos g1]
      exact hacc3
  · rintro σ H' ⟨v4, v5, v6, rfl, e, hacc⟩
    rw [List.take_length] at hacc
    have k0 : Kp [] H H' := Kp.drop_fresh ((N1.kp (ms := [l])).trans (e2.mono.trans e)) N1.fr
    have dl : (ded (ps.map (firstN z))).length ≤ 20 := by
      have h1 := ded_le (ps.map (firstN z))
      rw [List.length_map] at h1
      omega
    walk_at "st"
    refine c_sortedS (SqL.of hacc) (by omega) fun p4 H4 N4 => ?_
    walk_at "st"
    refine c_tupleL (SqL.of N4.at_) fun p5 H5 N5 => ?_
    exact q p5 H5 ((k0.trans N4.kp).trans N5.kp) (SqT.of N5.at_)
theorem D__law_names (T : TX K mg) : DefAt P w K mg base CX0 "_law_names" 3 ["_law_table_here", "_law_place_here"] (spTbNames K) :=
  def_of T 46 83 sc__law_names bn__law_names (by walk_at "len") (b__law_names T)
theorem sc__law_found : FnScope ["_law_table_here", "_law_place_here", "_law_word", "_law_rows", "_law_path_here", "_law_k"] ["_law_table_here", "_law_place_here", "_law_word"] (defScope s__law_found) := ⟨rfl, rfl, rfl, by decide +kernel, rfl, by decide +kernel, by decide +kernel⟩
theorem bn__law_found : BindN "_law_found" s__law_found ["_law_table_here", "_law_place_here", "_law_word"] := fun _ _ _ _ _ _ us hl => match us, hl with | [_, _, _], _ => rfl
theorem b__law_found (T : TX K mg) : Body P w K mg base "_law_found" s__law_found ["_law_table_here", "_law_place_here", "_law_word", "_law_rows", "_law_path_here", "_law_k"] 1 (spLFound K) := by
  intro cdv A outer s H vs Q E h X hr
  obtain ⟨f, z, wd, fs, rfl, F, G, hz, q⟩ := h
  refine ⟨_, (pss_cons (ps_set (i := 3) sc__law_found.nd rfl (Or.inl rfl) (pe_lst pa_nil)) (pss_cons (ps_for PassesOwn.never rfl (pi_listU (K := K) (pe_callB (cr_sortedDU rfl) rfl (T.free 30) (by decide +kernel) (pa_cons (pv 0) pa_nil))) (pg_name (i := 4) sc__law_found.nd rfl (Or.inl rfl)) (pss_one (ps_if (PW.pt (pw_or (pt_cmpR (op_eqU (K := K) hr.units) (pv 1) pe_str (nomark _)) (pw_or (pt_cmpR (op_eqU (K := K) hr.units) (pv 4) (pv 1) (nomark _)) (pw_or1 (pt_cmpR (op_eqU (K := K) hr.units) (pe_slice (sl_U (K := K)) (pv 4) po_none (po_some (pe_op (op_addU (K := K)) (pe_callB (cr_len (K := K)) rfl (T.free 2) PySem.boot_len (pa_cons (pv 1) pa_nil)) pe_int))) (pe_op (op_addU (K := K)) (pv 1) pe_str) (nomark _)))))) (pss_one (ps_for PassesOwn.never rfl (pi_range1 rfl (T.free 27) (pa_cons (pe_callB (cr_len (K := K)) rfl (T.free 2) PySem.boot_len (pa_cons (pe_dget (hu_of hr) (pv 0) (pv 4) (fun _ _ => rfl)) pa_nil)) pa_nil)) (pg_name (i := 5) sc__law_found.nd rfl (Or.inl rfl)) (pss_one (ps_if (pt_cmpR (op_inU (K := K)) (pv 2) (pe_ix (ix_U (K := K)) (pe_dget (hu_of hr) (pv 0) (pv 4) (fun _ _ => rfl)) (pv 5) (fun _ _ => rfl)) rfl) (pss_one (ps_expr (pe_appendU (K := K) (pv 3) (pe_tup (pa_cons (pv 4) (pa_cons (pv 5) pa_nil)))))) pss_nil)))) pss_nil))) (pss_one (ps_ret (pe_callTy (cr_tuple (K := K)) rfl (T.free 28) (by decide +kernel) (pa_cons (pv 3) pa_nil)))))), ?_⟩
  have gl := G.len
  have e1 : (PySem.Str.ofString "/").length = 1 := by decide
  have ef : foundF (sortF fs) z wd = ((pathsOf (sortF fs)).filter fun p => decide (p = z) || isInsideS p z).flatMap fun p => rowsD p ((at? fs p).getD []) wd := by
    unfold foundF
    rw [foundPs_eq G.sort (sortF_asc fs)]
    congr 1
    funext p
    rw [at_sort G]
  rw [ef] at q
  walk_at "st"
  walk_at "nw"
  intro l H1 N1
  walk_at "st"
  have F1 := F.kp N1.kp
  refine c_sortedF F1.r (by omega) fun sp H2 N2 => ?_
  walk_at "st"
  have hps : ∀ y ∈ pathsOf (sortF fs), isPathS y = true ∧ ∃ ls, at? fs y = some ls := fun y hy => by
    have hy2 : y ∈ pathsOf fs := (paths_perm (sortF_perm fs)).subset hy
    obtain ⟨r, hr, rfl⟩ := List.mem_map.mp hy
    exact ⟨G.sort.path r hr, Option.isSome_iff_exists.mp (at_isSome.mpr hy2)⟩
  have hsp : SqL K H2 sp ((pathsOf (sortF fs)).map V.str) := SqL.of N2.at_
  have nl : sp ≠ l := (ne_of_none N1.at_ N2.fr).symm
  have pn : (pathsOf (sortF fs)).length ≤ 20 := by unfold pathsOf; rw [List.length_map, sortF_len]; omega
  refine forQ (itn_l (ys := pathsOf (sortF fs)) (u := V.str)) (fun i σ H' => ∃ v4 v5 ws, σ = [some (.ref f), some (.str z), some (.str wd), some (.ref l), v4, v5] ∧ Kp [] H H' ∧ SqL K H' sp ((pathsOf (sortF fs)).map V.str) ∧
    H' l = some (.lst ws) ∧ DtAll K H' ws ((((pathsOf (sortF fs)).take i).filter fun p => decide (p = z) || isInsideS p z).flatMap fun p => rowsD p ((at? fs p).getD []) wd) ∧ ws.length ≤ 12 * i) ⟨_, _, [], rfl, N1.kp.trans N2.kp, hsp, N2.keep N1.at_, .nil, by simp⟩ (by rintro i σ H' ⟨_, _, _, _, _, h, _⟩; exact h) ?_ ?_
  · rintro i x σ _ H3 hi ⟨v4, v5, ws, rfl, e3, hsp3, hl3, hws, hwl⟩ ⟨rfl, p, hp, rfl⟩
    obtain ⟨hpp, lns, hlns⟩ := hps p (List.mem_of_getElem? hp)
    have plen := path_len hpp
    have lls : lns.length ≤ 12 := (lines_len (G.lines _ (at_mem hlns))).1
    have et : ((pathsOf (sortF fs)).take (i + 1)).filter (fun p => decide (p = z) || isInsideS p z) = ((pathsOf (sortF fs)).take i).filter (fun p => decide (p = z) || isInsideS p z) ++ if (decide (p = z) || isInsideS p z) = true then [p] else [] := by
      rw [take_succ' hp, List.filter_append]
      congr 1
      by_cases h : (decide (p = z) || isInsideS p z) = true
      · rw [if_pos h]; exact List.filter_eq_self.mpr (fun a ha => by rw [List.mem_singleton.mp ha]; exact h)
      · rw [if_neg h]; exact List.filter_eq_nil_iff.mpr (fun a ha => by rw [List.mem_singleton.mp ha]; exact h)
    have skip : (decide (p = z) || isInsideS p z) = false → ∃ u4 u5 ws, ([some (.ref f), some (.str z), some (.str wd), some (.ref l), some (.str p), v5] : St) = [some (.ref f), some (.str z), some (.str wd), some (.ref l), u4, u5] ∧ Kp [] H H3 ∧ SqL K H3 sp ((pathsOf (sortF fs)).map V.str) ∧
        H3 l = some (.lst ws) ∧ DtAll K H3 ws ((((pathsOf (sortF fs)).take (i + 1)).filter fun p => decide (p = z) || isInsideS p z).flatMap fun p => rowsD p ((at? fs p).getD []) wd) ∧ ws.length ≤ 12 * (i + 1) := fun h => by
      refine ⟨_, _, ws, rfl, e3, hsp3, hl3, ?_, by omega⟩
      rw [et, h, if_neg Bool.false_ne_true, List.append_nil]
      exact hws
    have ein : isInsideS p z = (decide (z = PySem.Str.ofString "") || decide (cutS p none (some ((z.length : Int) + 1)) = z ++ PySem.Str.ofString "/")) := by rw [law_cut]; rfl
    walk_at "st"
    refine c_ite (fun g0 => ?_) (fun g0 => ?_)
    · have hP : (decide (p = z) || isInsideS p z) = true := by rw [ein, decide_eq_true g0, Bool.true_or, Bool.or_true]
      walk_at "st"
      refine c_dgetR (F.kp e3).r hlns fun la hla => ?_
      walk_at "st"
      rw [List.length_map]
      refine c_r1F (by omega) ?_
      refine forR (fun j σ H' => ∃ v5 ws2, σ = [some (.ref f), some (.str z), some (.str wd), some (.ref l), some (.str p), v5] ∧ Kp [] H H' ∧ SqL K H' sp ((pathsOf (sortF fs)).map V.str) ∧ H' l = some (.lst (ws ++ ws2)) ∧ DtAll K H' ws ((((pathsOf (sortF fs)).take i).filter fun p => decide (p = z) || isInsideS p z).flatMap fun p => rowsD p ((at? fs p).getD []) wd) ∧
        DtAll K H' ws2 (((List.range j).filter fun i => occS (lns.getD i Str.empty) wd).map fun i => .tuple [.str p, .int (i : Nat)]) ∧ ws2.length ≤ j) ⟨_, [], rfl, e3, hsp3, by rw [List.append_nil]; exact hl3, hws, .nil, by simp⟩ ?_ ?_
      · rintro j σ H4 hj ⟨v5, ws2, rfl, e4, hsp4, hl4, hw1, hw2, hwl2⟩
        have hj : j < lns.length := by have : ((lns.length : Int)).toNat = lns.length := Int.toNat_natCast _; omega
        walk_at "st"
        rw [Int.zero_add]
        refine c_dgetR (F.kp e4).r hlns fun lb hlb => ?_
        walk_at "st"
        refine c_ixT hlb (atI_strs (by omega) (by omega)) ?_
        rw [Int.toNat_natCast]
        walk_at "st"
        refine c_inT ?_
        walk_at "st"
        refine c_iteB (fun g2 => ?_) (fun g2 => ?_)
        · walk_at "st"
          walk_at "nw"
          intro T5 H5 N5
          have hl5 := N5.keep hl4
          refine ⟨l, _, _, rfl, rfl, hl5, by rw [sizeLine_eq, List.length_append]; omega, ?_⟩
          walk_at "st"
          have kt : Kt H5 (upd H5 l (.lst (ws ++ ws2 ++ [V.ref T5]))) := Kt.upd1 (NoT.lst hl5)
          refine ⟨_, ws2 ++ [V.ref T5], rfl, (e4.trans N5.kp).fresh_mut N1.fr, SqL.other nl (SqL.kp N5.kp hsp4), by rw [upd_same, List.append_assoc], DtAll.kt (N5.kp.kt.trans kt) hw1, ?_, by rw [List.length_append, List.length_singleton]; omega⟩
          rw [range_filter_succ, if_pos g2, List.map_append]
          exact dta_snoc (DtAll.kt (N5.kp.kt.trans kt) hw2) (.tup (SqT.kt kt (SqT.of N5.at_)) (.cons (.str p) (.cons (.int _) .nil)))
        · walk_at "st"
          refine ⟨_, ws2, rfl, e4, hsp4, hl4, hw1, ?_, by omega⟩
          rw [range_filter_succ, g2, if_neg Bool.false_ne_true, List.append_nil]
          exact hw2
      · rintro σ H4 ⟨v5, ws2, rfl, e4, hsp4, hl4, hw1, hw2, hwl2⟩
        rw [Int.toNat_natCast] at hw2 hwl2
        walk_at "st"
        refine ⟨_, _, ws ++ ws2, rfl, e4, hsp4, hl4, ?_, by rw [List.length_append]; omega⟩
        rw [et, if_pos hP, List.flatMap_append]
        refine dta_app hw1 ?_
        show DtAll _ _ _ (rowsD p ((at? fs p).getD []) wd ++ [])
        rw [hlns, List.append_nil]
        exact hw2
    walk_at "st"
    refine c_ite (fun g => ?_) (fun g => ?_)
    · have hP : (decide (p = z) || isInsideS p z) = true := by rw [decide_eq_true g]; rfl
      walk_at "st"
      refine c_dgetR (F.kp e3).r hlns fun la hla => ?_
      walk_at "st"
      rw [List.length_map]
      refine c_r1F (by omega) ?_
      refine forR (fun j σ H' => ∃ v5 ws2, σ = [some (.ref f), some (.str z), some (.str wd), some (.ref l), some (.str p), v5] ∧ Kp [] H H' ∧ SqL K H' sp ((pathsOf (sortF fs)).map V.str) ∧ H' l = some (.lst (ws ++ ws2)) ∧ DtAll K H' ws ((((pathsOf (sortF fs)).take i).filter fun p => decide (p = z) || isInsideS p z).flatMap fun p => rowsD p ((at? fs p).getD []) wd) ∧
        DtAll K H' ws2 (((List.range j).filter fun i => occS (lns.getD i Str.empty) wd).map fun i => .tuple [.str p, .int (i : Nat)]) ∧ ws2.length ≤ j) ⟨_, [], rfl, e3, hsp3, by rw [List.append_nil]; exact hl3, hws, .nil, by simp⟩ ?_ ?_
      · rintro j σ H4 hj ⟨v5, ws2, rfl, e4, hsp4, hl4, hw1, hw2, hwl2⟩
        have hj : j < lns.length := by have : ((lns.length : Int)).toNat = lns.length := Int.toNat_natCast _; omega
        walk_at "st"
        rw [Int.zero_add]
        refine c_dgetR (F.kp e4).r hlns fun lb hlb => ?_
        walk_at "st"
        refine c_ixT hlb (atI_strs (by omega) (by omega)) ?_
        rw [Int.toNat_natCast]
        walk_at "st"
        refine c_inT ?_
        walk_at "st"
        refine c_iteB (fun g2 => ?_) (fun g2 => ?_)
        · walk_at "st"
          walk_at "nw"
          intro T5 H5 N5
          have hl5 := N5.keep hl4
          refine ⟨l, _, _, rfl, rfl, hl5, by rw [sizeLine_eq, List.length_append]; omega, ?_⟩
          walk_at "st"
          have kt : Kt H5 (upd H5 l (.lst (ws ++ ws2 ++ [V.ref T5]))) := Kt.upd1 (NoT.lst hl5)
          refine ⟨_, ws2 ++ [V.ref T5], rfl, (e4.trans N5.kp).fresh_mut N1.fr, SqL.other nl (SqL.kp N5.kp hsp4), by rw [upd_same, List.append_assoc], DtAll.kt (N5.kp.kt.trans kt) hw1, ?_, by rw [List.length_append, List.length_singleton]; omega⟩
          rw [range_filter_succ, if_pos g2, List.map_append]
          exact dta_snoc (DtAll.kt (N5.kp.kt.trans kt) hw2) (.tup (SqT.kt kt (SqT.of N5.at_)) (.cons (.str p) (.cons (.int _) .nil)))
        · walk_at "st"
          refine ⟨_, ws2, rfl, e4, hsp4, hl4, hw1, ?_, by omega⟩
          rw [range_filter_succ, g2, if_neg Bool.false_ne_true, List.append_nil]
          exact hw2
      · rintro σ H4 ⟨v5, ws2, rfl, e4, hsp4, hl4, hw1, hw2, hwl2⟩
        rw [Int.toNat_natCast] at hw2 hwl2
        walk_at "st"
        refine ⟨_, _, ws ++ ws2, rfl, e4, hsp4, hl4, ?_, by rw [List.length_append]; omega⟩
        rw [et, if_pos hP, List.flatMap_append]
        refine dta_app hw1 ?_
        show DtAll _ _ _ (rowsD p ((at? fs p).getD []) wd ++ [])
        rw [hlns, List.append_nil]
        exact hw2
    walk_at "st"
    refine c_slS (by rw [sizeLine_eq]; omega) ?_
    walk_at "st"
    refine c_addS (by rw [sizeLine_eq]; omega) ?_
    walk_at "st"
    refine c_ite (fun g1 => ?_) (fun g1 => ?_)
    · have hP : (decide (p = z) || isInsideS p z) = true := by rw [ein, decide_eq_true g1, Bool.or_true, Bool.or_true]
      walk_at "st"
      refine c_dgetR (F.kp e3).r hlns fun la hla => ?_
      walk_at "st"
      rw [List.length_map]
      refine c_r1F (by omega) ?_
      refine forR (fun j σ H' => ∃ v5 ws2, σ = [some (.ref f), some (.str z), some (.str wd), some (.ref l), some (.str p), v5] ∧ Kp [] H H' ∧ SqL K H' sp ((pathsOf (sortF fs)).map V.str) ∧ H' l = some (.lst (ws ++ ws2)) ∧ DtAll K H' ws ((((pathsOf (sortF fs)).take i).filter fun p => decide (p = z) || isInsideS p z).flatMap fun p => rowsD p ((at? fs p).getD []) wd) ∧
        DtAll K H' ws2 (((List.range j).filter fun i => occS (lns.getD i Str.empty) wd).map fun i => .tuple [.str p, .int (i : Nat)]) ∧ ws2.length ≤ j) ⟨_, [], rfl, e3, hsp3, by rw [List.append_nil]; exact hl3, hws, .nil, by simp⟩ ?_ ?_
      · rintro j σ H4 hj ⟨v5, ws2, rfl, e4, hsp4, hl4, hw1, hw2, hwl2⟩
        have hj : j < lns.length := by have : ((lns.length : Int)).toNat = lns.length := Int.toNat_natCast _; omega
        walk_at "st"
        rw [Int.zero_add]
        refine c_dgetR (F.kp e4).r hlns fun lb hlb => ?_
        walk_at "st"
        refine c_ixT hlb (atI_strs (by omega) (by omega)) ?_
        rw [Int.toNat_natCast]
        walk_at "st"
        refine c_inT ?_
        walk_at "st"
        refine c_iteB (fun g2 => ?_) (fun g2 => ?_)
        · walk_at "st"
          walk_at "nw"
          intro T5 H5 N5
          have hl5 := N5.keep hl4
          refine ⟨l, _, _, rfl, rfl, hl5, by rw [sizeLine_eq, List.length_append]; omega, ?_⟩
          walk_at "st"
          have kt : Kt H5 (upd H5 l (.lst (ws ++ ws2 ++ [V.ref T5]))) := Kt.upd1 (NoT.lst hl5)
          refine ⟨_, ws2 ++ [V.ref T5], rfl, (e4.trans N5.kp).fresh_mut N1.fr, SqL.other nl (SqL.kp N5.kp hsp4), by rw [upd_same, List.append_assoc], DtAll.kt (N5.kp.kt.trans kt) hw1, ?_, by rw [List.length_append, List.length_singleton]; omega⟩
          rw [range_filter_succ, if_pos g2, List.map_append]
          exact dta_snoc (DtAll.kt (N5.kp.kt.trans kt) hw2) (.tup (SqT.kt kt (SqT.of N5.at_)) (.cons (.str p) (.cons (.int _) .nil)))
        · walk_at "st"
          refine ⟨_, ws2, rfl, e4, hsp4, hl4, hw1, ?_, by omega⟩
          rw [range_filter_succ, g2, if_neg Bool.false_ne_true, List.append_nil]
          exact hw2
      · rintro σ H4 ⟨v5, ws2, rfl, e4, hsp4, hl4, hw1, hw2, hwl2⟩
        rw [Int.toNat_natCast] at hw2 hwl2
        walk_at "st"
        refine ⟨_, _, ws ++ ws2, rfl, e4, hsp4, hl4, ?_, by rw [List.length_append]; omega⟩
        rw [et, if_pos hP, List.flatMap_append]
        refine dta_app hw1 ?_
        show DtAll _ _ _ (rowsD p ((at? fs p).getD []) wd ++ [])
        rw [hlns, List.append_nil]
        exact hw2
    · walk_at "st"
      exact skip (by rw [ein, decide_eq_false g0, decide_eq_false g1, decide_eq_false g]; rfl)
  · rintro σ H3 ⟨v4, v5, ws, rfl, e3, hsp3, hl3, hws, hwl⟩
    rw [List.take_length] at hws
    walk_at "st"
    refine c_tupleL (SqL.of hl3) fun p5 H5 N5 => ?_
    exact q p5 H5 (e3.trans N5.kp) (.tup (SqT.of N5.at_) (DtAll.kp hws N5.kp))
theorem D__law_found (T : TX K mg) : DefAt P w K mg base CX0 "_law_found" 2 ["_law_table_here", "_law_place_here", "_law_word"] (spLFound K) :=
  def_of T 47 84 sc__law_found bn__law_found (by walk_at "len") (b__law_found T)
theorem sc__law_told : FnScope ["_law_table_here", "_law_action_here", "_law_word", "_law_place_here", "_law_folder"] ["_law_table_here", "_law_action_here"] (defScope s__law_told) := ⟨rfl, rfl, rfl, by decide +kernel, rfl, by decide +kernel, by decide +kernel⟩
theorem bn__law_told : BindN "_law_told" s__law_told ["_law_table_here", "_law_action_here"] := fun _ _ _ _ _ _ us hl => match us, hl with | [_, _], _ => rfl
theorem b__law_told (T : TX K mg) : Body P w K mg base "_law_told" s__law_told ["_law_table_here", "_law_action_here", "_law_word", "_law_place_here", "_law_folder"] 3 (spLAsked K) := by
  intro cdv A outer s H vs Q E h X hr
  obtain ⟨f, a, x, fs, rfl, F, G, ha, hq, hs, q⟩ := h
  have D__law_found := D__law_found (P := P) (w := w) (base := base) T; have D__law_inside := D__law_inside (P := P) (w := w) (base := base) T; have D__law_names := D__law_names (P := P) (w := w) (base := base) T
  refine ⟨_, (pss_cons (ps_set (i := 2) sc__law_told.nd rfl (Or.inl rfl) (pe_ix (ix_U (K := K)) (pv 1) pe_int (fun _ _ => rfl))) (pss_cons (ps_set (i := 3) sc__law_told.nd rfl (Or.inl rfl) (pe_ix (ix_U (K := K)) (pv 1) pe_int (fun _ _ => rfl))) (pss_cons (ps_if (pt_cmpR (op_eqU (K := K) hr.units) (pv 2) pe_str (nomark _)) (pss_cons (ps_if (pt_cmp (pc_din (hu_of hr) (pv 3) (pv 0)) rfl) (pss_one (ps_ret (pe_tup (pa_cons pe_str (pa_cons (pe_dget (hu_of hr) (pv 0) (pv 3) (fun _ _ => rfl)) pa_nil))))) pss_nil) (pss_one (ps_ret (pe_tup (pa_cons pe_str pa_nil))))) pss_nil) (Evl.pss_cut (ps_set (i := 4) sc__law_told.nd rfl (Or.inl rfl) (pe_or (pe_cmpR (op_eqU (K := K) hr.units) (pv 3) pe_str (nomark _)) (pe_one (pe_cmpR (op_neU (K := K) hr.units) (pe_callA D__law_inside hr pass0 (pa_cons (pv 0) (pa_cons (pv 3) pa_nil))) (pe_lst pa_nil) (nomark _))))) (pss_cons (ps_if (PW.pt (pw_and (pt_cmpR (op_eqU (K := K) hr.units) (pv 2) pe_str (nomark _)) (pw_and1 (PW.pt (pw_or (pt_cmp (pc_din (hu_of hr) (pv 3) (pv 0)) rfl) (pw_or1 (pt_tru (K := K) (pv 4)))))))) (pss_one (ps_ret (pe_tup (pa_cons pe_str (pa_cons (pe_callA D__law_found hr pass0 (pa_cons (pv 0) (pa_cons (pv 3) (pa_cons (pe_ix (ix_U (K := K)) (pv 1) pe_int (fun _ _ => rfl)) pa_nil)))) pa_nil))))) pss_nil) (pss_cons (ps_if (PW.pt (pw_and (pt_cmpR (op_eqU (K := K) hr.units) (pv 2) pe_str (nomark _)) (pw_and1 (pt_cmp (pc_din (hu_of hr) (pv 3) (pv 0)) rfl)))) (pss_one (ps_ret (pe_tup (pa_cons pe_str pa_nil)))) pss_nil) (pss_cons (ps_if (pt_not (pt_tru (K := K) (pv 4))) (pss_one (ps_ret (pe_tup (pa_cons pe_str pa_nil)))) pss_nil) (pss_cons (ps_if (pt_cmpR (op_eqU (K := K) hr.units) (pv 2) pe_str (nomark _)) (pss_one (ps_ret (pe_tup (pa_cons pe_str pa_nil)))) pss_nil) (pss_cons (ps_if (pt_cmpR (op_eqU (K := K) hr.units) (pv 2) pe_str (nomark _)) (pss_one (ps_ret (pe_tup (pa_cons pe_str (pa_cons (pe_callB (cr_len (K := K)) rfl (T.free 2) PySem.boot_len (pa_cons (pe_callA D__law_inside hr pass0 (pa_cons (pv 0) (pa_cons (pv 3) pa_nil))) pa_nil)) pa_nil))))) pss_nil) (pss_one (ps_ret (pe_tup (pa_cons pe_str (pa_cons (pe_callA D__law_names hr pass0 (pa_cons (pv 0) (pa_cons (pv 3) pa_nil))) pa_nil)))))))))))))), ?_⟩
  have gl := G.len
  have hps : ∀ o ∈ pathsOf fs, okS o = true := fun o ho => by
    obtain ⟨r, hr, rfl⟩ := List.mem_map.mp ho
    exact path_ok (G.path r hr)
  have word1 : ∀ {H1 : Hp} {p : Addr} {H2 : Hp} {z : Str}, Kp [] H H1 → New H1 p (.tup [.str z]) H2 → askF (sortF fs) x = wordD z → Q (.ref p) H2 := fun e N h => q _ _ (e.trans N.kp) (by rw [h]; exact .tup (SqT.of N.at_) (.cons (.str _) .nil))
  have mem2 : ∀ z, ∀ y ∈ insideF (sortF fs) z, okS y = true := fun z y hy => hps y ((paths_perm (sortF_perm fs)).subset (List.mem_filter.mp hy).1)
  cases x with
  | read p =>
    walk_at "dc"
    refine c_dinF F.r ?_
    walk_at "st"
    refine c_iteB (fun g => ?_) (fun g => ?_)
    · obtain ⟨ls, g⟩ := Option.isSome_iff_exists.mp g
      walk_at "st"
      refine c_dgetR F.r g fun la hla => ?_
      walk_at "st"
      walk_at "nw"
      intro p1 H1 N1
      refine q _ H1 N1.kp ?_
      simp only [askF, at_sort G, g]
      exact .tup (SqT.of N1.at_) (.cons (.str _) (.cons (dt_strs (SqT.kp N1.kp hla)) .nil))
    · walk_at "st"
      walk_at "nw"
      intro p1 H1 N1
      have g : at? fs p = none := by simpa using g
      exact word1 Kp.refl N1 (by simp only [askF, at_sort G, g])
  | find z wd =>
    have hz : z.length ≤ 1000 := hs.1
    walk_at "dc"
    refine c_cut (fun σ' H' => σ' = [some (.ref f), some (.ref a), some (.str "find"), some (.str z), some (.bl (isFolderF (sortF fs) z))] ∧ Kp [] H H') ?_ ?_
    · walk_at "st"
      refine c_ite (fun g0 => ?_) (fun g0 => ?_)
      · walk_at "st"
        exact ⟨by rw [folder_eq, decide_eq_true g0]; rfl, Kp.refl⟩
      · walk_at "st"
        refine ⟨f, z, fs, rfl, F, G, hz, fun p H1 _ e1 hp => ?_⟩
        walk_at "st"
        walk_at "nw"
        intro p2 H2 N2
        refine c_neLS (zs := []) (SqL.of (N2.keep hp)) (SqL.of N2.at_) (mem2 z) (by simp) ?_
        walk_at "st"
        exact ⟨by rw [folder_eq, decide_eq_false g0]; rfl, e1.trans N2.kp⟩
    rintro _ H2 ⟨rfl, e2⟩
    have F2 := F.kp e2
    have ha2 := ha.kp e2
    clear ha
    have fin : ∀ {H1 : Hp} {Q1 : VK}, Kp [] H H1 → (∀ p H', Kp [] H H' → Dt K H' (.ref p) (.tuple (foundF (sortF fs) z wd)) → Q1 (.ref p) H') → spLFound K [.ref f, .str z, .str wd] H1 Q1 E0 := fun e h => ⟨f, z, wd, fs, rfl, F.kp e, G, hz, fun p H' e' hd => h p H' (e.trans e') hd⟩
    walk_at "dc"
    refine c_dinF F2.r ?_
    walk_at "st"
    refine c_iteB (fun g => ?_) (fun g => ?_)
    · walk_at "st"
      refine fin e2 fun p H1 e1 hd => ?_
      walk_at "st"
      walk_at "nw"
      intro p2 H2 N2
      refine q _ H2 (e1.trans N2.kp) ?_
      simp only [askF, at_sort G, g, Bool.true_or, if_true]
      exact .tup (SqT.of N2.at_) (.cons (.str _) (.cons (Dt.kp hd N2.kp) .nil))
    · walk_at "st"
      refine c_iteB (fun g2 => ?_) (fun g2 => ?_)
      · walk_at "st"
        refine fin e2 fun p H1 e1 hd => ?_
        walk_at "st"
        walk_at "nw"
        intro p2 H2 N2
        refine q _ H2 (e1.trans N2.kp) ?_
        simp only [askF, at_sort G, g, g2, Bool.or_true, if_true]
        exact .tup (SqT.of N2.at_) (.cons (.str _) (.cons (Dt.kp hd N2.kp) .nil))
      · walk_at "dc"
        refine c_iteNB (fun g3 => ?_) (fun g3 => ?_)
        · walk_at "dc"
          walk_at "nw"
          intro p1 H1 N1
          exact word1 e2 N1 (by simp only [askF, at_sort G, g, g2]; rfl)
        · rw [g2] at g3
          cases g3
  | kind z =>
    have hz : z.length ≤ 1000 := hs
    walk_at "dc"
    refine c_cut (fun σ' H' => σ' = [some (.ref f), some (.ref a), some (.str "kind"), some (.str z), some (.bl (isFolderF (sortF fs) z))] ∧ Kp [] H H') ?_ ?_
    · walk_at "st"
      refine c_ite (fun g0 => ?_) (fun g0 => ?_)
      · walk_at "st"
        exact ⟨by rw [folder_eq, decide_eq_true g0]; rfl, Kp.refl⟩
      · walk_at "st"
        refine ⟨f, z, fs, rfl, F, G, hz, fun p H1 _ e1 hp => ?_⟩
        walk_at "st"
        walk_at "nw"
        intro p2 H2 N2
        refine c_neLS (zs := []) (SqL.of (N2.keep hp)) (SqL.of N2.at_) (mem2 z) (by simp) ?_
        walk_at "st"
        exact ⟨by rw [folder_eq, decide_eq_false g0]; rfl, e1.trans N2.kp⟩
    rintro _ H2 ⟨rfl, e2⟩
    have F2 := F.kp e2
    have ha2 := ha.kp e2
    clear ha
    walk_at "dc"
    refine c_dinF F2.r ?_
    walk_at "st"
    refine c_iteB (fun g => ?_) (fun g => ?_)
    · walk_at "st"
      walk_at "nw"
      intro p1 H1 N1
      exact word1 e2 N1 (by simp only [askF, at_sort G, g]; rfl)
    · walk_at "st"
      refine c_iteNB (fun g2 => ?_) (fun g2 => ?_)
      · walk_at "dc"
        walk_at "nw"
        intro p1 H1 N1
        exact word1 e2 N1 (by simp only [askF, at_sort G, g, g2]; rfl)
      · walk_at "dc"
        walk_at "nw"
        intro p1 H1 N1
        exact word1 e2 N1 (by simp only [askF, at_sort G, g, g2]; rfl)
  | list z =>
    have hz : z.length ≤ 1000 := hs
    walk_at "dc"
    refine c_cut (fun σ' H' => σ' = [some (.ref f), some (.ref a), some (.str "list"), some (.str z), some (.bl (isFolderF (sortF fs) z))] ∧ Kp [] H H') ?_ ?_
    · walk_at "st"
      refine c_ite (fun g0 => ?_) (fun g0 => ?_)
      · walk_at "st"
        exact ⟨by rw [folder_eq, decide_eq_true g0]; rfl, Kp.refl⟩
      · walk_at "st"
        refine ⟨f, z, fs, rfl, F, G, hz, fun p H1 _ e1 hp => ?_⟩
        walk_at "st"
        walk_at "nw"
        intro p2 H2 N2
        refine c_neLS (zs := []) (SqL.of (N2.keep hp)) (SqL.of N2.at_) (mem2 z) (by simp) ?_
        walk_at "st"
        exact ⟨by rw [folder_eq, decide_eq_false g0]; rfl, e1.trans N2.kp⟩
    rintro _ H2 ⟨rfl, e2⟩
    have F2 := F.kp e2
    have ha2 := ha.kp e2
    clear ha
    walk_at "dc"
    refine c_iteNB (fun g2 => ?_) (fun g2 => ?_)
    · walk_at "dc"
      walk_at "nw"
      intro p1 H1 N1
      exact word1 e2 N1 (by simp only [askF, g2]; rfl)
    · walk_at "dc"
      refine ⟨f, z, fs, rfl, F2, G, hz, fun p H1 e1 hp => ?_⟩
      walk_at "st"
      walk_at "nw"
      intro p2 H2 N2
      refine q _ H2 ((e2.trans e1).trans N2.kp) ?_
      simp only [askF, g2, if_true]
      exact .tup (SqT.of N2.at_) (.cons (.str _) (.cons (dt_strs (SqT.kp N2.kp hp)) .nil))
  | count z =>
    have hz : z.length ≤ 1000 := hs
    walk_at "dc"
    refine c_cut (fun σ' H' => σ' = [some (.ref f), some (.ref a), some (.str "count"), some (.str z), some (.bl (isFolderF (sortF fs) z))] ∧ Kp [] H H') ?_ ?_
    · walk_at "st"
      refine c_ite (fun g0 => ?_) (fun g0 => ?_)
      · walk_at "st"
        exact ⟨by rw [folder_eq, decide_eq_true g0]; rfl, Kp.refl⟩
      · walk_at "st"
        refine ⟨f, z, fs, rfl, F, G, hz, fun p H1 _ e1 hp => ?_⟩
        walk_at "st"
        walk_at "nw"
        intro p2 H2 N2
        refine c_neLS (zs := []) (SqL.of (N2.keep hp)) (SqL.of N2.at_) (mem2 z) (by simp) ?_
        walk_at "st"
        exact ⟨by rw [folder_eq, decide_eq_false g0]; rfl, e1.trans N2.kp⟩
    rintro _ H2 ⟨rfl, e2⟩
    have F2 := F.kp e2
    have ha2 := ha.kp e2
    clear ha
    walk_at "dc"
    refine c_iteNB (fun g2 => ?_) (fun g2 => ?_)
    · walk_at "dc"
      walk_at "nw"
      intro p1 H1 N1
      exact word1 e2 N1 (by simp only [askF, g2]; rfl)
    · walk_at "dc"
      refine ⟨f, z, fs, rfl, F2, G, hz, fun p H1 _ e1 hp => ?_⟩
      walk_at "st"
      first | (refine c_lenL (SqL.of hp) ?_; walk_at "st") | skip
      rw [List.length_map]
      walk_at "nw"
      intro p2 H2 N2
      refine q _ H2 ((e2.trans e1).trans N2.kp) ?_
      simp only [askF, g2, if_true]
      exact .tup (SqT.of N2.at_) (.cons (.str _) (.cons (.int _) .nil))
  | _ => cases hq
theorem D__law_told (T : TX K mg) : DefAt P w K mg base CX0 "_law_told" 4 ["_law_table_here", "_law_action_here"] (spLAsked K) :=
  def_of T 48 85 sc__law_told bn__law_told (by walk_at "len") (b__law_told T)
end
end K45



namespace K45
open PySem L2 Sa
local macro_rules | `(tactic| walk_at "s1") => `(tactic| first | (with_reducible apply c_dgetK))
local macro_rules | `(tactic| walk_at "s1") => `(tactic| (with_reducible apply c_raiseO))
theorem dropK_files (rs : List (Addr × File)) (p : Str) : dropK (filesKv rs) (Sum.inr p) = filesKv (rs.filter fun r => !decide (r.2.1 = p)) := by
  unfold dropK filesKv
  rw [List.filter_map]
  congr 1
  apply List.filter_congr
  intro r _
  simp
theorem filter_snd (rs : List (Addr × File)) (p : Str) : (rs.filter fun r => !decide (r.2.1 = p)).map Prod.snd = withoutF (rs.map Prod.snd) p := by
  unfold withoutF
  rw [List.filter_map]
  rfl
section
variable {P : Program} {w : World} {K : PySem.W.Frag} {mg : Str → Option Value} {base : Heap}
def spTbWith (K : PySem.W.Frag) : Sp := fun vs H Q _ => ∃ (f : Addr) (p : Str) (lv : V) (fs : List File), vs = [.ref f, .str p, lv] ∧ FilesAt K H f fs ∧ Once fs ∧ fs.length ≤ 20 ∧
  ((lv = .non ∧ (at? fs p).isSome = true ∧ ∀ g H', Kp [] H H' → FilesAt K H' g (withoutF fs p) → Q (.ref g) H') ∨ ∃ (la : Addr) (lns : List Str), lv = .ref la ∧ SqT K H la (lns.map V.str) ∧ ∀ g H', Kp [] H H' → FilesAt K H' g (putR fs p lns) → Q (.ref g) H')
theorem sc__law_with : FnScope ["_law_table_here", "_law_path_here", "_law_lines_here", "_law_other", "_law_one"] ["_law_table_here", "_law_path_here", "_law_lines_here"] (defScope s__law_with) := ⟨rfl, rfl, rfl, by decide +kernel, rfl, by decide +kernel, by decide +kernel⟩
theorem bn__law_with : BindN "_law_with" s__law_with ["_law_table_here", "_law_path_here", "_law_lines_here"] := fun _ _ _ _ _ _ us hl => match us, hl with | [_, _, _], _ => rfl
theorem b__law_with (T : TX K mg) : Body P w K mg base "_law_with" s__law_with ["_law_table_here", "_law_path_here", "_law_lines_here", "_law_other", "_law_one"] 1 (spTbWith K) := by
  intro cdv A outer s H vs Q E h X hr
  obtain ⟨f, p, lv, fs, rfl, F, ho, hn, q⟩ := h
  refine ⟨_, (pss_cons (ps_set (i := 3) sc__law_with.nd rfl (Or.inl rfl) pe_dnewK) (pss_cons (ps_lock (ps_for PassesOwn.never rfl (pi_keys (pv 0)) (pg_name (i := 4) sc__law_with.nd rfl (Or.inl rfl)) (pss_one (ps_dput (hu_of hr) (pv 3) (pv 4) (pe_dget (hu_of hr) (pv 0) (pv 4) (fun _ _ => rfl)) rfl)))) (pss_cons (ps_if (pt_cmpR op_isU (pv 2) pe_non (nomark _)) (pss_one (ps_expr (pe_dpopU (pv 3) (pv 1)))) (pss_one (ps_dput (hu_of hr) (pv 3) (pv 1) (pe_callTy (cr_tuple (K := K)) rfl (T.free 28) (by decide +kernel) (pa_cons (pv 2) pa_nil)) rfl))) (pss_one (ps_ret (pv 3)))))), ?_⟩
  walk_at "st"
  refine c_dnew fun gd H1 N1 => ?_
  have F1 := F.kp N1.kp
  obtain ⟨ls, hf, hl, hfs⟩ := id F1.ex
  obtain ⟨rs2, hh2, _, _⟩ := id F.ex
  have nfg : f ≠ gd := ne_of_none hh2 N1.fr
  have hll : ls.length = fs.length := by rw [← hfs, List.length_map]
  walk_at "st"
  refine c_lockF hf fun od => ?_
  walk_at "st"
  refine c_keysAt upd_same ?_
  have hgL : upd H1 f (.frz od (.dK (filesKv ls))) gd = some (.dK []) := upd_other (Ne.symm nfg) N1.at_
  have ktL : Kt H1 (upd H1 f (.frz od (.dK (filesKv ls)))) := Kt.lock hf
  refine forQ (itn_ks (ls := ls)) (fun i σ H' => ∃ v4, σ = [some (.ref f), some (.str p), some lv, some (.ref gd), v4] ∧ Kp [gd] (upd H1 f (.frz od (.dK (filesKv ls)))) H' ∧ FilesAt K H' gd (fs.take i)) ⟨_, rfl, Kp.refl, FilesAt.nil hgL⟩ (by rintro i σ H' ⟨_, _, e, _⟩; exact e.at1 nfg upd_same) ?_ ?_
  · rintro i y σ _ H4 hi ⟨v4, rfl, e4, F4⟩ ⟨rfl, l, hl1, rfl⟩
    have kt4 : Kt H1 H4 := ktL.trans (e4.kt1 (NoT.dK hgL))
    have hl2 : fs[i]? = some l.2 := by rw [← hfs, List.getElem?_map, hl1]; rfl
    have FR : FilesR K H4 f fs := ⟨ls, .inr ⟨od, e4.at1 nfg upd_same⟩, fun r hr => SqT.kt kt4 (hl r hr), hfs⟩
    have ga : at? fs l.2.1 = some l.2.2 := (at_some ho).mpr (List.mem_of_getElem? hl2)
    walk_at "st"
    refine c_dgetR FR ga fun la hla => ?_
    walk_at "st"
    have nin : l.2.1 ∉ pathsOf (fs.take i) := fun hm => by
      obtain ⟨r, hr, er⟩ := List.mem_map.mp hm
      obtain ⟨j, hj, ej⟩ := List.mem_iff_getElem.mp hr
      rw [List.getElem_take] at ej
      rw [List.length_take] at hj
      have o1 : (fs.map Prod.fst)[j]? = some l.2.1 := by rw [List.getElem?_map, List.getElem?_eq_getElem (by omega), ej, Option.map_some, er]
      have o2 : (fs.map Prod.fst)[i]? = some l.2.1 := by rw [List.getElem?_map, hl2]; rfl
      have := (List.getElem?_inj (by rw [List.length_map]; omega) ho).mp (o1.trans o2.symm)
      omega
    refine c_putF F4 (by rw [List.length_take]; omega) hla fun H5 e5 kt5 F5 back => ?_
    walk_at "st"
    refine ⟨_, rfl, e4.trans e5, ?_⟩
    rw [putR_new nin] at F5
    rw [take_succ' hl2]
    exact F5
  · rintro σ H4 ⟨v4, rfl, e4, F4⟩
    rw [List.take_of_length_le (by omega)] at F4
    refine ⟨e4.at1 nfg upd_same, ?_⟩
    have k34 : Kp [gd] H1 (upd H4 f (.dK (filesKv ls))) := lock_kpm hf nfg e4
    have k0 : Kp [] H (upd H4 f (.dK (filesKv ls))) := Kp.drop_fresh (N1.kp.mono.trans k34) N1.fr
    have Fg : FilesAt K (upd H4 f (.dK (filesKv ls))) gd fs := by
      obtain ⟨rs, q1, q2, q3⟩ := F4.ex
      have : Kt H4 (upd H4 f (.dK (filesKv ls))) := fun b xs hb => by
        by_cases z : b = f
        · subst z
          have := e4.at1 nfg upd_same
          rcases hb with hb | ⟨o, hb⟩ <;> rw [this] at hb <;> cases hb
        · exact rd_at (fun o ho => by rw [upd_ne z]; exact ho) hb
      exact ⟨rs, upd_other (Ne.symm nfg) q1, fun r hr => SqT.kt this (q2 r hr), q3⟩
    have kt0 : Kt H (upd H4 f (.dK (filesKv ls))) := k0.kt
    generalize upd H4 f (.dK (filesKv ls)) = H5 at *
    have putk : ∀ {H6 : Hp}, Kp [gd] H5 H6 → Kp [] H H6 := fun e => Kp.drop_fresh (k0.mono.trans e) N1.fr
    rcases q with ⟨rfl, hp, q⟩ | ⟨la, lns, rfl, hla, q⟩
    · walk_at "dc"
      obtain ⟨rs, q1, q2, q3⟩ := Fg.ex
      refine c_dpop1 ?_
      walk_at "st"
      obtain ⟨lns, hlns⟩ := Option.isSome_iff_exists.mp hp
      rw [← q3, find_at] at hlns
      obtain ⟨l, hl0, _⟩ := Option.map_eq_some_iff.mp hlns
      refine ⟨gd, rfl, .inl ⟨_, .inl q1⟩, ?_⟩
      walk_at "st"
      refine ⟨filesKv rs, Sum.inr p, .ref l.1, q1, rfl, by rw [filesKv_val, hl0]; rfl, ?_⟩
      rw [dropK_files]
      walk_at "st"
      have kt : Kt H5 (upd H5 gd (.dK (filesKv (rs.filter fun r => !decide (r.2.1 = p))))) := Kt.upd1 (NoT.dK q1)
      refine q gd _ (putk (Kp.mut (by simp))) ⟨_, upd_same, fun r hr => SqT.kt kt (q2 r (List.mem_filter.mp hr).1), ?_⟩
      rw [filter_snd, q3]
    · walk_at "dc"
      refine c_tupleT (SqT.kt kt0 hla) ?_
      walk_at "st"
      refine c_putF Fg (by omega) (SqT.kt kt0 hla) fun H6 e6 kt6 F6 back => ?_
      walk_at "st"
      exact q gd H6 (putk e6) F6
theorem D__law_with (T : TX K mg) : DefAt P w K mg base CX0 "_law_with" 2 ["_law_table_here", "_law_path_here", "_law_lines_here"] (spTbWith K) :=
  def_of T 49 86 sc__law_with bn__law_with (by walk_at "len") (b__law_with T)
def RetT (K : PySem.W.Frag) (H : Hp) (Q : VK) (r : PyData × List File) : Prop := ∀ p v f' fs' H', Kp [] H H' → SqT K H' p [v, .ref f'] → Dt K H' v r.1 → FilesAt K H' f' fs' → GoodP fs' → sortF fs' = r.2 → Q (.ref p) H'
theorem splice_bad {p : Str} {old new : List Str} (hb : (Action.splice p old new).bad = none) : isPathS p = true ∧ isLinesS old = true ∧ isLinesS new = true := by
  simp only [Action.bad] at hb
  split at hb
  · rename_i h1
    split at hb
    · rename_i h2
      split at hb
      · rename_i h3
        rw [Bool.and_eq_true] at h2
        exact ⟨h1, h2.1, h3⟩
      · cases hb
    · cases hb
  · cases hb
section
variable {H : Hp} {Q : VK} {x : Action} {fs : List File} {f : Addr}
theorem RetT.no (q : RetT K H Q (actF (sortF fs) x)) (hq : x.isQ = false) (G : GoodP fs) (F : FilesAt K H f fs) {z : Str} (hz : refuseF fs x = z) (nz : z ≠ "") {H2 H3 H4 : Hp} {p3 p4 : Addr} (e : Kp [] H H2) (N3 : New H2 p3 (.tup [.str z]) H3) (N4 : New H3 p4 (.tup [.ref p3, .ref f]) H4) : Q (.ref p4) H4 := by
  have ea : actF (sortF fs) x = deedF (sortF fs) x := by unfold actF; rw [hq]; rfl
  have k4 := (e.trans N3.kp).trans N4.kp
  refine q p4 (.ref p3) f fs H4 k4 (SqT.of N4.at_) ?_ (F.kp k4) G ?_
  · rw [ea, (deed_eq G hq).2 (by rw [hz]; exact nz), hz]
    exact .tup (SqT.of (N4.keep N3.at_)) (.cons (.str _) .nil)
  · rw [ea, (deed_eq G hq).2 (by rw [hz]; exact nz)]
theorem RetT.yes (q : RetT K H Q (actF (sortF fs) x)) (hq : x.isQ = false) (hb : x.bad = none) (G : GoodP fs) (hz : refuseF fs x = "") {H4 H5 : Hp} {p3 p5 g : Addr} {gs : List File} (e : Kp [] H H4) (h3 : H4 p3 = some (.tup [.str "done"])) (F : FilesAt K H4 g gs) (pm : gs.Perm (laterF fs x)) (N5 : New H4 p5 (.tup [.ref p3, .ref g]) H5) : Q (.ref p5) H5 := by
  have ea : actF (sortF fs) x = deedF (sortF fs) x := by unfold actF; rw [hq]; rfl
  have ed := (deed_eq G hq).1 hz
  have gact := (G.sort).act (x := x) hb
  rw [ea, ed] at gact
  have gl : GoodP (laterF fs x) := gact.perm (sortF_perm _)
  have gg : GoodP gs := gl.perm pm.symm
  refine q p5 (.ref p3) g gs H5 (e.trans N5.kp) (SqT.of N5.at_) ?_ (F.kp N5.kp) gg ?_
  · rw [ea, ed]
    exact .tup (SqT.of (N5.keep h3)) (.cons (.str _) .nil)
  · rw [ea, ed]
    exact sortF_congr pm gg.once
end
theorem word_ne : ∀ z : Str, z ∈ (["none", "done", "missing", "blocked", "full", "absent", "ambiguous", "long"] : List Str) → z ≠ ("" : Str) := by decide +kernel
def spTbSpliced (K : PySem.W.Frag) : Sp := fun vs H Q _ => ∃ (f l m : Addr) (p : Str) (old new : List Str) (fs : List File), vs = [.ref f, .str p, .ref l, .ref m] ∧ FilesAt K H f fs ∧ GoodP fs ∧ (Action.splice p old new).bad = none ∧ (at? fs p).isSome = true ∧
  SqT K H l (old.map V.str) ∧ SqT K H m (new.map V.str) ∧ RetT K H Q (actF (sortF fs) (.splice p old new))
theorem sc__law_spliced : FnScope ["_law_table_here", "_law_path_here", "_law_old", "_law_new", "_law_lines_here", "_law_places", "_law_k"] ["_law_table_here", "_law_path_here", "_law_old", "_law_new"] (defScope s__law_spliced) := ⟨rfl, rfl, rfl, by decide +kernel, rfl, by decide +kernel, by decide +kernel⟩
theorem bn__law_spliced : BindN "_law_spliced" s__law_spliced ["_law_table_here", "_law_path_here", "_law_old", "_law_new"] := fun _ _ _ _ _ _ us hl => match us, hl with | [_, _, _, _], _ => rfl
theorem b__law_spliced (T : TX K mg) : Body P w K mg base "_law_spliced" s__law_spliced ["_law_table_here", "_law_path_here", "_law_old", "_law_new", "_law_lines_here", "_law_places", "_law_k"] 2 (spTbSpliced K) := by
  intro cdv A outer s H vs Q E h X hr
  obtain ⟨f, l, m, p, old, new, fs, rfl, F, G, hb, hp, hl, hm, q⟩ := h
  have D__law_with := D__law_with (P := P) (w := w) (base := base) T
  refine ⟨_, (pss_cons (ps_set (i := 4) sc__law_spliced.nd rfl (Or.inr rfl) (pe_dget (hu_of hr) (pv 0) (pv 1) (fun _ _ => rfl))) (pss_cons (ps_setLc (i := 5) (own := [("_law_k", 6)]) rfl sc__law_spliced.nd rfl rfl (sw_true rfl rfl rfl (by decide +kernel)) (pi_range1 rfl (T.free 27) (pa_cons (pe_op (op_addU (K := K)) (pe_op op_subU (pe_callB (cr_len (K := K)) rfl (T.free 2) PySem.boot_len (pa_cons (pv 4) pa_nil)) (pe_callB (cr_len (K := K)) rfl (T.free 2) PySem.boot_len (pa_cons (pv 2) pa_nil))) pe_int) pa_nil)) (blkOk_by (N := ["_law_table_here", "_law_path_here", "_law_old", "_law_new", "_law_lines_here", "_law_places", "_law_k"]) (sc := defScope s__law_spliced) (by decide +kernel)) (fun _ _ _ _ _ => (pg_name (i := 6) sc__law_spliced.nd rfl (Or.inl rfl))) (fun _ _ _ _ _ => (pts_one (pt_cmpR (op_eqU (K := K) hr.units) (pe_slice (sl_U (K := K)) (pv 4) (po_some (pv 6)) (po_some (pe_op (op_addU (K := K)) (pv 6) (pe_callB (cr_len (K := K)) rfl (T.free 2) PySem.boot_len (pa_cons (pv 2) pa_nil))))) (pv 2) (nomark _)))) (fun _ _ _ _ _ => (pv 6))) (pss_cons (ps_if (pt_cmpR (op_eqU (K := K) hr.units) (pv 5) (pe_lst pa_nil) (nomark _)) (pss_one (ps_ret (pe_tup (pa_cons (pe_tup (pa_cons pe_str pa_nil)) (pa_cons (pv 0) pa_nil))))) pss_nil) (pss_cons (ps_if (pt_cmpR op_gtU (pe_callB (cr_len (K := K)) rfl (T.free 2) PySem.boot_len (pa_cons (pv 5) pa_nil)) pe_int (nomark _)) (pss_one (ps_ret (pe_tup (pa_cons (pe_tup (pa_cons pe_str pa_nil)) (pa_cons (pv 0) pa_nil))))) pss_nil) (pss_cons (ps_if (pt_cmpR op_gtU (pe_op (op_addU (K := K)) (pe_op op_subU (pe_callB (cr_len (K := K)) rfl (T.free 2) PySem.boot_len (pa_cons (pv 4) pa_nil)) (pe_callB (cr_len (K := K)) rfl (T.free 2) PySem.boot_len (pa_cons (pv 2) pa_nil))) (pe_callB (cr_len (K := K)) rfl (T.free 2) PySem.boot_len (pa_cons (pv 3) pa_nil))) pe_int (nomark _)) (pss_one (ps_ret (pe_tup (pa_cons (pe_tup (pa_cons pe_str pa_nil)) (pa_cons (pv 0) pa_nil))))) pss_nil) (pss_one (ps_ret (pe_tup (pa_cons (pe_tup (pa_cons pe_str pa_nil)) (pa_cons (pe_callA D__law_with hr pass0 (pa_cons (pv 0) (pa_cons (pv 1) (pa_cons (pe_op (op_addU (K := K)) (pe_op (op_addU (K := K)) (pe_slice (sl_U (K := K)) (pv 4) po_none (po_some (pe_ix (ix_U (K := K)) (pv 5) pe_int (fun _ _ => rfl)))) (pv 3)) (pe_slice (sl_U (K := K)) (pv 4) (po_some (pe_op (op_addU (K := K)) (pe_ix (ix_U (K := K)) (pv 5) pe_int (fun _ _ => rfl)) (pe_callB (cr_len (K := K)) rfl (T.free 2) PySem.boot_len (pa_cons (pv 2) pa_nil)))) po_none)) pa_nil)))) pa_nil)))))))))), ?_⟩
  have gl := G.len
  obtain ⟨hpp, ho, hn⟩ := splice_bad hb
  obtain ⟨lns, ga⟩ := Option.isSome_iff_exists.mp hp
  obtain ⟨ol, oo⟩ := lines_len ho
  obtain ⟨nl, no⟩ := lines_len hn
  obtain ⟨ll, lo⟩ := lines_len (G.lines _ (at_mem ga))
  have ll : lns.length ≤ 12 := ll
  walk_at "st"
  refine c_dgetR F.r ga fun la hla => ?_
  walk_at "st"
  rw [List.length_map, List.length_map]
  refine c_r1C (by omega) ?_
  refine lcQ_fil (itn_r (lo := 0)) (fun i => V.int (i : Nat)) (fun i => decide (cutL lns (some ((i : Nat) : Int)) (some ((i : Nat) + (old.length : Int))) = old)) (by omega) (fun _ _ => trivial) (fun i x H' H'' R S hi e y k1 k2 => ?_) (fun Dl H1 hD e1 hacc => ?_)
  · obtain ⟨rfl, rfl⟩ := y
    walk_at "st"
    refine ⟨rfl, ?_⟩
    walk_at "st"
    refine c_lenT (SqT.kp e hl) ?_
    walk_at "st"
    refine c_slT (SqT.kp e hla) fun p H2 e2 hp => ?_
    walk_at "st"
    rw [cutL_map, List.length_map, Int.zero_add] at hp
    refine c_eqTS hp (SqT.kp (e.trans e2) hl) (fun y hy => plain_ok (lo y ?_).2) (fun y hy => plain_ok (oo y hy).2) ?_
    · unfold cutL at hy
      exact List.mem_of_mem_drop (List.mem_of_mem_take hy)
    walk_at "st"
    refine c_ite (fun g => ?_) (fun g => ?_)
    · walk_at "st"
      rw [Int.zero_add]
      exact k1 (decide_eq_true g) _ e2
    · exact k2 (decide_eq_false g) _ e2
  have hacc : H1 Dl = some (.lst ((placesF lns old).map fun i => V.int (i : Nat))) := hacc
  have hD1 : SqL K H1 Dl (((placesF lns old).map fun n => ((n : Nat) : Int)).map V.int) := by
    rw [List.map_map]
    exact SqL.of hacc
  have isq : (Action.splice p old new).isQ = false := rfl
  walk_at "st"
  walk_at "nw"
  intro p2 H2 N2
  refine c_eqLI (ms := []) (SqL.kp N2.kp hD1) (SqL.of N2.at_) ?_
  walk_at "st"
  refine c_ite (fun g1 => ?_) (fun g1 => ?_)
  · have hpl : placesF lns old = [] := List.map_eq_nil_iff.mp g1
    walk_at "st"
    walk_at "nw"
    intro p3 H3 N3
    walk_at "st"
    walk_at "nw"
    intro p4 H4 N4
    exact q.no isq G F (by simp only [refuseF, ga, hpl]) (word_ne "absent" (by simp)) (e1.trans N2.kp) N3 N4
  walk_at "st"
  rw [List.length_map]
  refine c_ite (fun g2 => ?_) (fun g2 => ?_)
  · have hpl : ∃ i j r, placesF lns old = i :: j :: r := by
      cases h : placesF lns old with
      | nil => rw [h] at g2; exact absurd g2 (by simp)
      | cons i r =>
        cases r with
        | nil => rw [h] at g2; exact absurd g2 (by simp)
        | cons j r => exact ⟨i, j, r, rfl⟩
    obtain ⟨i, j, r, hpl⟩ := hpl
    walk_at "st"
    walk_at "nw"
    intro p3 H3 N3
    walk_at "st"
    walk_at "nw"
    intro p4 H4 N4
    exact q.no isq G F (by simp only [refuseF, ga, hpl]) (word_ne "ambiguous" (by simp)) (e1.trans N2.kp) N3 N4
  obtain ⟨i, hpl⟩ : ∃ i, placesF lns old = [i] := by
    cases h : placesF lns old with
    | nil => rw [h] at g1; exact absurd rfl g1
    | cons i r =>
      cases r with
      | nil => exact ⟨i, rfl⟩
      | cons j r => rw [h] at g2; exact absurd g2 (by simp only [List.length_cons]; omega)
  have hi := places_lt (xs := lns) (ys := old) (i := i) (by rw [hpl]; exact List.mem_singleton.mpr rfl)
  have k2 := e1.trans N2.kp
  walk_at "st"
  refine c_lenT (SqT.kp k2 hla) ?_
  walk_at "st"
  refine c_lenT (SqT.kp k2 hl) ?_
  walk_at "st"
  refine c_lenT (SqT.kp k2 hm) ?_
  walk_at "st"
  rw [List.length_map, List.length_map, List.length_map]
  refine c_ite (fun g3 => ?_) (fun g3 => ?_)
  · walk_at "st"
    walk_at "nw"
    intro p3 H3 N3
    walk_at "st"
    walk_at "nw"
    intro p4 H4 N4
    exact q.no isq G F (by simp only [refuseF, ga, hpl]; rw [if_pos (decide_eq_true g3)]) (word_ne "long" (by simp)) k2 N3 N4
  walk_at "st"
  walk_at "nw"
  intro p3 H3 N3
  have k3 := k2.trans N3.kp
  have hD3 : SqL K H3 Dl [V.int (i : Nat)] := by
    have := SqL.kp (N2.kp.trans N3.kp) hD1
    rw [hpl] at this
    exact this
  have c1 : (cutL (lns.map V.str) none (some (i : Int))).length ≤ 12 := by
    unfold cutL
    rw [List.length_take, List.length_drop, List.length_map]
    omega
  have c2 : (cutL (lns.map V.str) (some ((i : Int) + ((old.map V.str).length : Int))) none).length ≤ 12 := by
    unfold cutL
    rw [List.length_take, List.length_drop, List.length_map]
    omega
  walk_at "st"
  first | (refine c_ixL (v := .int (i : Nat)) hD3 rfl ?_; walk_at "st") | skip
  refine c_slT (SqT.kp k3 hla) fun a7 H7 e7 h7 => ?_
  walk_at "st"
  refine c_addT h7 (SqT.kp (k3.trans e7) hm) (by rw [sizeLine_eq, List.length_map]; omega) fun a8 H8 e8 h8 => ?_
  walk_at "st"
  have k8 := (k3.trans e7).trans e8
  have hD8 := SqL.kp (e7.trans e8) hD3
  first | (refine c_ixL (v := .int (i : Nat)) hD8 rfl ?_; walk_at "st") | (refine c_ixL (v := .int (i : Nat)) hD8 (by simp [atI, ixN]) ?_; walk_at "st") | skip
  refine c_lenT (SqT.kp k8 hl) ?_
  walk_at "st"
  refine c_slT (SqT.kp k8 hla) fun a9 H9 e9 h9 => ?_
  walk_at "st"
  refine c_addT (SqT.kp e9 h8) h9 (by rw [sizeLine_eq, List.length_append, List.length_map]; omega) fun a10 H10 e10 h10 => ?_
  walk_at "st"
  have k10 := (k8.trans e9).trans e10
  have h10 : SqT K H10 a10 ((splicedL lns old new i).map V.str) := by
    rw [cutL_map, cutL_map, cutL_to (by omega) (by omega), List.length_map, cutL_from (by omega) (by omega)] at h10
    have e1 : ((i : Int) + (old.length : Int)).toNat = i + old.length := by omega
    rw [e1, Int.toNat_natCast] at h10
    unfold splicedL
    rw [List.map_append, List.map_append]
    exact h10
  refine ⟨f, p, .ref a10, fs, rfl, F.kp k10, G.once, gl, .inr ⟨a10, _, rfl, h10, fun g H11 e11 F11 => ?_⟩⟩
  walk_at "st"
  walk_at "nw"
  intro p12 H12 N12
  refine q.yes isq hb G (by simp only [refuseF, ga, hpl]; rw [if_neg (by rw [decide_eq_false g3]; exact Bool.false_ne_true)]) (k10.trans e11) ((((e7.trans e8).trans e9).trans e10).trans e11 |>.at0 N3.at_) F11 ?_ N12
  simp only [laterF, ga, Option.getD_some, hpl]
  exact putR_perm G.once p _
theorem D__law_spliced (T : TX K mg) : DefAt P w K mg base CX0 "_law_spliced" 3 ["_law_table_here", "_law_path_here", "_law_old", "_law_new"] (spTbSpliced K) :=
  def_of T 50 87 sc__law_spliced bn__law_spliced (by walk_at "len") (b__law_spliced T)
end
end K45



namespace K45
open PySem L2 Sa
local macro_rules | `(tactic| walk_at "s1") => `(tactic| first | (with_reducible apply c_dgetK))
local macro_rules | `(tactic| walk_at "s1") => `(tactic| (with_reducible apply c_raiseO))
section
variable {P : Program} {w : World} {K : PySem.W.Frag} {mg : Str → Option Value} {base : Heap}
def spTbAct (K : PySem.W.Frag) : Sp := fun vs H Q _ => ∃ (f a : Addr) (x : Action) (fs : List File), vs = [.ref f, .ref a] ∧ FilesAt K H f fs ∧ GoodP fs ∧ ActAt K H a x ∧ x.bad = none ∧ RetT K H Q (actF (sortF fs) x)
theorem sc__law_act : FnScope ["_law_table_here", "_law_action_here", "_law_word", "_law_path_here", "_law_rest"] ["_law_table_here", "_law_action_here"] (defScope s__law_act) := ⟨rfl, rfl, rfl, by decide +kernel, rfl, by decide +kernel, by decide +kernel⟩
theorem bn__law_act : BindN "_law_act" s__law_act ["_law_table_here", "_law_action_here"] := fun _ _ _ _ _ _ us hl => match us, hl with | [_, _], _ => rfl
theorem b__law_act (T : TX K mg) : Body P w K mg base "_law_act" s__law_act ["_law_table_here", "_law_action_here", "_law_word", "_law_path_here", "_law_rest"] 4 (spTbAct K) := by
  intro cdv A outer s H vs Q E h X hr
  obtain ⟨f, a, x, fs, rfl, F, G, ha, hb, q⟩ := h
  have D__law_barred := D__law_barred (P := P) (w := w) (base := base) T; have D__law_spliced := D__law_spliced (P := P) (w := w) (base := base) T; have D__law_told := D__law_told (P := P) (w := w) (base := base) T; have D__law_with := D__law_with (P := P) (w := w) (base := base) T
  refine ⟨_, (pss_cons (ps_set (i := 2) sc__law_act.nd rfl (Or.inl rfl) (pe_ix (ix_U (K := K)) (pv 1) pe_int (fun _ _ => rfl))) (pss_cons (ps_set (i := 3) sc__law_act.nd rfl (Or.inl rfl) (pe_ix (ix_U (K := K)) (pv 1) pe_int (fun _ _ => rfl))) (pss_cons (ps_if (pt_cmpR (op_inU (K := K)) (pv 2) (pe_tup (pa_cons pe_str (pa_cons pe_str (pa_cons pe_str (pa_cons pe_str (pa_cons pe_str pa_nil)))))) rfl) (pss_one (ps_ret (pe_tup (pa_cons (pe_callA D__law_told hr pass0 (pa_cons (pv 0) (pa_cons (pv 1) pa_nil))) (pa_cons (pv 0) pa_nil))))) pss_nil) (pss_cons (ps_if (pt_cmpR (op_eqU (K := K) hr.units) (pv 2) pe_str (nomark _)) (pss_cons (ps_if (pt_tru (K := K) (pe_callA D__law_barred hr pass0 (pa_cons (pv 0) (pa_cons (pv 3) pa_nil)))) (pss_one (ps_ret (pe_tup (pa_cons (pe_tup (pa_cons pe_str pa_nil)) (pa_cons (pv 0) pa_nil))))) pss_nil) (pss_cons (ps_if (PW.pt (pw_and (pt_cmp (pc_dnotin (hu_of hr) (pv 3) (pv 0)) rfl) (pw_and1 (pt_cmpR (op_eqU (K := K) hr.units) (pe_callB cr_lenD rfl (T.free 2) PySem.boot_len (pa_cons (pv 0) pa_nil)) pe_int (nomark _))))) (pss_one (ps_ret (pe_tup (pa_cons (pe_tup (pa_cons pe_str pa_nil)) (pa_cons (pv 0) pa_nil))))) pss_nil) (pss_one (ps_ret (pe_tup (pa_cons (pe_tup (pa_cons pe_str pa_nil)) (pa_cons (pe_callA D__law_with hr pass0 (pa_cons (pv 0) (pa_cons (pv 3) (pa_cons (pe_ix (ix_U (K := K)) (pv 1) pe_int (fun _ _ => rfl)) pa_nil)))) pa_nil))))))) pss_nil) (pss_cons (ps_if (pt_cmp (pc_dnotin (hu_of hr) (pv 3) (pv 0)) rfl) (pss_one (ps_ret (pe_tup (pa_cons (pe_tup (pa_cons pe_str pa_nil)) (pa_cons (pv 0) pa_nil))))) pss_nil) (pss_cons (ps_if (pt_cmpR (op_eqU (K := K) hr.units) (pv 2) pe_str (nomark _)) (pss_one (ps_ret (pe_tup (pa_cons (pe_tup (pa_cons pe_str pa_nil)) (pa_cons (pe_callA D__law_with hr pass0 (pa_cons (pv 0) (pa_cons (pv 3) (pa_cons pe_non pa_nil)))) pa_nil))))) pss_nil) (pss_cons (ps_if (pt_cmpR (op_eqU (K := K) hr.units) (pv 2) pe_str (nomark _)) (pss_one (ps_ret (pe_callA D__law_spliced hr pass0 (pa_cons (pv 0) (pa_cons (pv 3) (pa_cons (pe_ix (ix_U (K := K)) (pv 1) pe_int (fun _ _ => rfl)) (pa_cons (pe_ix (ix_U (K := K)) (pv 1) pe_int (fun _ _ => rfl)) pa_nil))))))) pss_nil) (pss_cons (ps_set (i := 4) sc__law_act.nd rfl (Or.inl rfl) (pe_callA D__law_with hr pass0 (pa_cons (pv 0) (pa_cons (pv 3) (pa_cons pe_non pa_nil))))) (pss_cons (ps_if (PW.pt (pw_or (pt_cmp (pc_din (hu_of hr) (pe_ix (ix_U (K := K)) (pv 1) pe_int (fun _ _ => rfl)) (pv 4)) rfl) (pw_or1 (pt_tru (K := K) (pe_callA D__law_barred hr pass0 (pa_cons (pv 4) (pa_cons (pe_ix (ix_U (K := K)) (pv 1) pe_int (fun _ _ => rfl)) pa_nil))))))) (pss_one (ps_ret (pe_tup (pa_cons (pe_tup (pa_cons pe_str pa_nil)) (pa_cons (pv 0) pa_nil))))) pss_nil) (pss_one (ps_ret (pe_tup (pa_cons (pe_tup (pa_cons pe_str pa_nil)) (pa_cons (pe_callA D__law_with hr pass0 (pa_cons (pv 4) (pa_cons (pe_ix (ix_U (K := K)) (pv 1) pe_int (fun _ _ => rfl)) (pa_cons (pe_dget (hu_of hr) (pv 0) (pv 3) (fun _ _ => rfl)) pa_nil)))) pa_nil)))))))))))))), ?_⟩
  have gl := G.len
  obtain ⟨r0, h0⟩ := ha.head
  walk_at "st"
  refine c_ixT h0 (atI_nat (j := 0) rfl) ?_
  walk_at "st"
  refine c_ixT h0 (atI_nat (j := 1) rfl) ?_
  walk_at "st"
  walk_at "nw"
  intro p1 H1 N1
  walk_at "st"
  refine c_inSs (ys := ["read", "kind", "list", "find", "count"]) (.inr (SqT.of N1.at_)) ?_
  rw [word_isQ]
  have F1 := F.kp N1.kp
  have ha1 := ha.kp N1.kp
  have e1 : Kp [] H H1 := N1.kp
  walk_at "st"
  refine c_iteB (fun hq => ?_) (fun hq => ?_)
  · walk_at "st"
    refine ⟨f, a, x, fs, rfl, F1, G, ha1, hq, bad_sane hb, fun v H2 e2 hv => ?_⟩
    walk_at "st"
    walk_at "nw"
    intro p3 H3 N3
    have e : actF (sortF fs) x = (askF (sortF fs) x, sortF fs) := by unfold actF; rw [if_pos hq]
    rw [e] at q
    exact q p3 v f fs H3 ((N1.kp.trans e2).trans N3.kp) (SqT.of N3.at_) (Dt.kp hv N3.kp) ((F1.kp e2).kp N3.kp) G rfl
  clear h0
  cases x with
  | write p ls =>
    dsimp only [Action.word, Action.place]
    obtain ⟨hp, hls⟩ : isPathS p = true ∧ isLinesS ls = true := by
      simp only [Action.bad] at hb
      split at hb
      · split at hb
        · exact ⟨‹_›, ‹_›⟩
        · cases hb
      · cases hb
    have pl := path_len hp
    obtain ⟨l, h0, hl⟩ := ha1
    walk_at "dc"
    refine ⟨f, p, fs, rfl, F1, G, by omega, path_ok hp, fun H2 e2 => ?_⟩
    have k2 := e1.trans e2
    have F2 := F1.kp e2
    walk_at "st"
    refine c_iteB (fun g => ?_) (fun g => ?_)
    · walk_at "st"
      walk_at "nw"
      intro p3 H3 N3
      walk_at "st"
      walk_at "nw"
      intro p4 H4 N4
      exact q.no rfl G F (by simp only [refuseF, g, if_true]) (word_ne "blocked" (by simp)) k2 N3 N4
    walk_at "st"
    refine c_dninF F2.r ?_
    walk_at "st"
    cases ga : (at? fs p).isSome with
    | true =>
      have hf : ((at? fs p).isNone && decide (fs.length = 20)) = false := by rw [← Option.not_isSome, ga]; rfl
      walk_at "dc"
      walk_at "nw"
      intro p3 H3 N3
      walk_at "st"
      refine c_ixT (SqT.kp (e2.trans N3.kp) h0) rfl ?_
      walk_at "st"
      refine ⟨f, p, .ref l, fs, rfl, F2.kp N3.kp, G.once, gl, .inr ⟨l, ls, rfl, SqT.kp (e2.trans N3.kp) hl, fun g' H4 e4 F4 => ?_⟩⟩
      walk_at "st"
      walk_at "nw"
      intro p5 H5 N5
      exact q.yes rfl hb G (by simp only [refuseF, g, hf, Bool.false_eq_true, if_false]) ((k2.trans N3.kp).trans e4) (e4.at0 N3.at_) F4 (putR_perm G.once p ls) N5
    | false =>
      walk_at "dc"
      refine c_lenF F2.r ?_
      walk_at "st"
      refine c_ite (fun g2 => ?_) (fun g2 => ?_)
      · have hf : ((at? fs p).isNone && decide (fs.length = 20)) = true := by rw [← Option.not_isSome, ga, decide_eq_true (by omega : fs.length = 20)]; rfl
        walk_at "st"
        walk_at "nw"
        intro p3 H3 N3
        walk_at "st"
        walk_at "nw"
        intro p4 H4 N4
        exact q.no rfl G F (by simp only [refuseF, g, hf, Bool.false_eq_true, if_false, if_true]) (word_ne "full" (by simp)) k2 N3 N4
      · have hf : ((at? fs p).isNone && decide (fs.length = 20)) = false := by rw [decide_eq_false (by omega : ¬ fs.length = 20), Bool.and_false]
        walk_at "st"
        walk_at "nw"
        intro p3 H3 N3
        walk_at "st"
        refine c_ixT (SqT.kp (e2.trans N3.kp) h0) rfl ?_
        walk_at "st"
        refine ⟨f, p, .ref l, fs, rfl, F2.kp N3.kp, G.once, gl, .inr ⟨l, ls, rfl, SqT.kp (e2.trans N3.kp) hl, fun g' H4 e4 F4 => ?_⟩⟩
        walk_at "st"
        walk_at "nw"
        intro p5 H5 N5
        exact q.yes rfl hb G (by simp only [refuseF, g, hf, Bool.false_eq_true, if_false]) ((k2.trans N3.kp).trans e4) (e4.at0 N3.at_) F4 (putR_perm G.once p ls) N5
  | remove p =>
    dsimp only [Action.word, Action.place]
    walk_at "dc"
    refine c_dninF F1.r ?_
    walk_at "st"
    cases ga : (at? fs p).isSome with
    | false =>
      have hf : (at? fs p).isNone = true := by rw [← Option.not_isSome, ga]; rfl
      walk_at "dc"
      walk_at "nw"
      intro p3 H3 N3
      walk_at "st"
      walk_at "nw"
      intro p4 H4 N4
      exact q.no rfl G F (by simp only [refuseF, hf, if_true]) (word_ne "missing" (by simp)) e1 N3 N4
    | true =>
      have hf : (at? fs p).isNone = false := by rw [← Option.not_isSome, ga]; rfl
      walk_at "dc"
      walk_at "nw"
      intro p3 H3 N3
      walk_at "st"
      refine ⟨f, p, .non, fs, rfl, F1.kp N3.kp, G.once, gl, .inl ⟨rfl, ga, fun g H4 e4 F4 => ?_⟩⟩
      walk_at "st"
      walk_at "nw"
      intro p5 H5 N5
      exact q.yes rfl hb G (by simp only [refuseF, hf, Bool.false_eq_true, if_false]) ((e1.trans N3.kp).trans e4) (e4.at0 N3.at_) F4 (List.Perm.refl _) N5
  | splice p old new =>
    dsimp only [Action.word, Action.place]
    obtain ⟨l, m, h0, hl, hm⟩ := ha1
    walk_at "dc"
    refine c_dninF F1.r ?_
    walk_at "st"
    cases ga : at? fs p with
    | none =>
      walk_at "dc"
      walk_at "nw"
      intro p3 H3 N3
      walk_at "st"
      walk_at "nw"
      intro p4 H4 N4
      exact q.no rfl G F (by simp only [refuseF, ga]) (word_ne "missing" (by simp)) e1 N3 N4
    | some lns =>
      walk_at "dc"
      exact ⟨f, l, m, p, old, new, fs, rfl, F1, G, hb, by rw [ga]; rfl, hl, hm, fun p v f' fs' H' e h1 h2 h3 h4 h5 => q p v f' fs' H' (e1.trans e) h1 h2 h3 h4 h5⟩
  | move p t =>
    dsimp only [Action.word, Action.place]
    obtain ⟨hp, ht⟩ : isPathS p = true ∧ isPathS t = true := by
      simp only [Action.bad] at hb
      split at hb
      · split at hb
        · exact ⟨‹_›, ‹_›⟩
        · cases hb
      · cases hb
    have tl := path_len ht
    have h0 : SqT K H1 a [.str "move", .str p, .str t] := ha1
    walk_at "dc"
    refine c_dninF F1.r ?_
    walk_at "st"
    cases ga : at? fs p with
    | none =>
      walk_at "dc"
      walk_at "nw"
      intro p3 H3 N3
      walk_at "st"
      walk_at "nw"
      intro p4 H4 N4
      exact q.no rfl G F (by simp only [refuseF, ga]) (word_ne "missing" (by simp)) e1 N3 N4
    | some lns =>
      have gw := G.without p
      walk_at "dc"
      refine ⟨f, p, .non, fs, rfl, F1, G.once, gl, .inl ⟨rfl, by rw [ga]; rfl, fun r H2 e2 Fr => ?_⟩⟩
      have k2 := e1.trans e2
      walk_at "st"
      refine c_ixT (SqT.kp e2 h0) rfl ?_
      walk_at "st"
      refine c_dinF Fr.r ?_
      walk_at "st"
      cases g3 : (at? (withoutF fs p) t).isSome with
      | true =>
        walk_at "dc"
        walk_at "nw"
        intro p3 H3 N3
        walk_at "st"
        walk_at "nw"
        intro p4 H4 N4
        exact q.no rfl G F (by simp only [refuseF, ga, g3, Bool.true_or, if_true]) (word_ne "blocked" (by simp)) k2 N3 N4
      | false =>
        walk_at "dc"
        refine c_ixT (SqT.kp e2 h0) rfl ?_
        walk_at "st"
        refine ⟨r, t, _, rfl, Fr, gw, by omega, path_ok ht, fun H3 e3 => ?_⟩
        have k3 := k2.trans e3
        walk_at "st"
        refine c_iteB (fun g => ?_) (fun g => ?_)
        · walk_at "st"
          walk_at "nw"
          intro p3 H4 N3
          walk_at "st"
          walk_at "nw"
          intro p4 H5 N4
          exact q.no rfl G F (by simp only [refuseF, ga, g3, g, Bool.false_or, if_true]) (word_ne "blocked" (by simp)) k3 N3 N4
        · walk_at "st"
          walk_at "nw"
          intro p3 H4 N3
          have k4 := k3.trans N3.kp
          walk_at "st"
          refine c_ixT (SqT.kp ((e2.trans e3).trans N3.kp) h0) rfl ?_
          walk_at "st"
          refine c_dgetR (F.kp k4).r ga fun la hla => ?_
          walk_at "st"
          refine ⟨r, t, .ref la, _, rfl, Fr.kp (e3.trans N3.kp), gw.once, gw.len, .inr ⟨la, lns, rfl, hla, fun g' H5 e5 F5 => ?_⟩⟩
          walk_at "st"
          walk_at "nw"
          intro p6 H6 N6
          refine q.yes rfl hb G (by simp only [refuseF, ga, g3, g, Bool.false_or, Bool.false_eq_true, if_false]) (k4.trans e5) (e5.at0 N3.at_) F5 ?_ N6
          simp only [laterF, ga, Option.getD_some]
          exact putR_perm gw.once t lns
  | _ => cases hq
theorem D__law_act (T : TX K mg) : DefAt P w K mg base CX0 "_law_act" 5 ["_law_table_here", "_law_action_here"] (spTbAct K) :=
  def_of T 51 88 sc__law_act bn__law_act (by walk_at "len") (b__law_act T)
theorem wr_more {fs : List File} (p : Str) (ls : List Str) : (actF (sortF fs) (.write p ls)).2.length ≤ fs.length + 1 := by
  show (deedF (sortF fs) (.write p ls)).2.length ≤ _
  simp only [deedF]
  split
  · rw [sortF_len]; omega
  split
  · rw [sortF_len]; omega
  · rw [sortF_len]
    unfold withF withoutF
    rw [List.length_append, List.length_singleton]
    have := List.length_filter_le (fun f : File => !decide (f.1 = p)) (sortF fs)
    rw [sortF_len] at this
    omega
def spTbTable (K : PySem.W.Frag) : Sp := fun vs H Q _ => ∃ (b d : Addr) (m : Int), vs = [.ref b, .int m] ∧ Bx H b d ∧ 0 ≤ m ∧ m ≤ 100 ∧ ∀ f fs H', GoodP fs → (fs.length : Int) ≤ m → FilesAt K H' f fs → Kp [b] H H' → Bx H' b d → Q (.ref f) H'
theorem sc__law_table : FnScope ["_law_box", "_law_most", "_law_table_here", "_law_turn"] ["_law_box", "_law_most"] (defScope s__law_table) := ⟨rfl, rfl, rfl, by decide +kernel, rfl, by decide +kernel, by decide +kernel⟩
theorem bn__law_table : BindN "_law_table" s__law_table ["_law_box", "_law_most"] := fun _ _ _ _ _ _ us hl => match us, hl with | [_, _], _ => rfl
theorem b__law_table (T : TX K mg) : Body P w K mg base "_law_table" s__law_table ["_law_box", "_law_most", "_law_table_here", "_law_turn"] 5 (spTbTable K) := by
  intro cdv A outer s H vs Q E h X hr
  obtain ⟨b, d, m, rfl, B, m0, m1, q⟩ := h
  have D__law_act := D__law_act (P := P) (w := w) (base := base) T; have D__law_draw := D__law_draw (P := P) (w := w) (base := base) T; have D__law_lines := D__law_lines (P := P) (w := w) (base := base) T; have D__law_path := D__law_path (P := P) (w := w) (base := base) T
  refine ⟨_, (pss_cons (ps_set (i := 2) sc__law_table.nd rfl (Or.inl rfl) pe_dnewK) (pss_cons (ps_for PassesOwn.never rfl (pi_range1 rfl (T.free 27) (pa_cons (pe_callA D__law_draw hr pass0 (pa_cons (pv 0) (pa_cons (pe_op (op_addU (K := K)) (pv 1) pe_int) pa_nil))) pa_nil)) (pg_name (i := 3) sc__law_table.nd rfl (Or.inl rfl)) (pss_one (ps_set (i := 2) sc__law_table.nd rfl (Or.inl rfl) (pe_ix (ix_U (K := K)) (pe_callA D__law_act hr pass0 (pa_cons (pv 2) (pa_cons (pe_tup (pa_cons pe_str (pa_cons (pe_callA D__law_path hr pass0 (pa_cons (pv 0) pa_nil)) (pa_cons (pe_callA D__law_lines hr pass0 (pa_cons (pv 0) (pa_cons pe_int pa_nil))) pa_nil)))) pa_nil))) pe_int (fun _ _ => rfl))))) (pss_one (ps_ret (pv 2))))), ?_⟩
  walk_at "st"
  refine c_dnew fun f0 H1 N1 => ?_
  walk_at "st"
  refine ⟨b, d, m + 1, rfl, B.nw N1, by omega, fun n H2 n0 n1 e2 B2 => ?_⟩
  walk_at "st"
  have F1 : FilesAt K H1 f0 [] := FilesAt.nil N1.at_
  have F2 := F1.kb (B.nw N1) e2
  refine forR (fun i σ H' => ∃ f fs v3, σ = [some (.ref b), some (.int m), some (.ref f), v3] ∧ fs.length ≤ i ∧ FilesAt K H' f fs ∧ GoodP fs ∧ Kp [b] H H' ∧ Bx H' b d) ⟨f0, [], _, rfl, Nat.le_refl _, F2, ⟨by simp, .nil, by simp, by simp, by simp⟩, (N1.kp (ms := [b])).trans e2, B2⟩ ?_ ?_
  · rintro i σ H3 hi ⟨f, fs, v3, rfl, L3, F3, G3, e3, B3⟩
    walk_at "st"
    refine ⟨b, d, rfl, B3, fun z H4 hz e4 B4 => ?_⟩
    walk_at "st"
    refine ⟨b, d, 4, rfl, B4, by decide, by decide, fun la lns H5 hls _ e5 B5 hla => ?_⟩
    walk_at "st"
    walk_at "nw"
    intro p6 H6 N6
    have F6 := ((F3.kb B3 e4).kb B4 e5).kp (N6.kp (ms := []))
    have k6 := ((e3.trans e4).trans e5).trans (N6.kp (ms := [b]))
    walk_at "st"
    refine ⟨f, p6, .write z lns, fs, rfl, F6, G3, ⟨la, SqT.of N6.at_, SqT.kp N6.kp hla⟩, by simp only [Action.bad, hz, hls, if_true], fun p v f' fs' H7 e7 hp hv F7 G7 es => ?_⟩
    walk_at "st"
    first | (refine c_ixT hp rfl ?_; walk_at "st") | skip
    exact ⟨f', fs', _, rfl, (by have := wr_more (fs := fs) z lns; rw [← es, sortF_len] at this; omega), F7, G7, k6.trans e7.mono, (B5.nw N6).kp0 e7⟩
  · rintro σ H3 ⟨f, fs, v3, rfl, L3, F3, G3, e3, B3⟩
    walk_at "st"
    exact q f fs H3 G3 (by omega) F3 e3 B3
theorem D__law_table (T : TX K mg) : DefAt P w K mg base CX0 "_law_table" 6 ["_law_box", "_law_most"] (spTbTable K) :=
  def_of T 43 80 sc__law_table bn__law_table (by walk_at "len") (b__law_table T)
end
end K45



namespace K45
open PySem L2 Sa
theorem plain_app {u v : Str} (hu : plainZ u) (hv : plainZ v) : plainZ (u ++ v) := fun c hc => by
  rw [cps_app] at hc
  rcases List.mem_append.mp hc with hc | hc
  · exact hu c hc
  · exact hv c hc
theorem plain_join {s : Str} {ys : List Str} (hs : plainZ s) (hy : ∀ y ∈ ys, plainZ y) : plainZ (Txt.join s ys) := fun c hc => by
  rw [tjoin] at hc
  rcases mem_join hc with hc | ⟨z, hz, hc⟩
  · exact hs c hc
  · exact hy z hz c hc
def plainB (z : Str) : Bool := z.cps.toList.all fun c => decide (c = 10) || (decide (32 ≤ c) && decide (c ≤ 126) && !decide (c = 37))
theorem plainZ_of {z : Str} (h : plainB z = true) : plainZ z := fun c hc => by
  have := List.all_eq_true.mp h c hc
  simp only [Bool.or_eq_true, Bool.and_eq_true, decide_eq_true_eq, Bool.not_eq_true', decide_eq_false_iff_not] at this
  omega
theorem plainS_Z {z : Str} (h : isPlainS z = true) : plainZ z := fun c hc => by
  have := List.all_eq_true.mp h c hc
  unfold plainC at this
  simp only [Bool.and_eq_true, decide_eq_true_eq, Bool.not_eq_true', decide_eq_false_iff_not] at this
  omega
theorem letter_plain : ∀ c ∈ (PySem.Str.ofString "abcdefghijklmnopqrstuvwxyz0123456789").cps.toList, c ≠ 10 ∧ c ≠ 32 ∧ (32 ≤ c ∧ c ≤ 126 ∧ c ≠ 37) := by decide +kernel
theorem name_signs {n : Str} (h : isNameS n = true) : ∀ c ∈ n.cps.toList, c ≠ 10 ∧ c ≠ 32 ∧ (32 ≤ c ∧ c ≤ 126 ∧ c ≠ 37) := fun c hc => by
  unfold isNameS at h
  simp only [Bool.and_eq_true, List.all_eq_true, decide_eq_true_eq] at h
  exact letter_plain c (h.2 c hc)
theorem name_plain {n : Str} (h : isNameS n = true) : plainZ n := fun c hc => .inr (name_signs h c hc).2.2
theorem path_plain {p : Str} (h : isPathS p = true) : plainZ p := by
  have j := StrLaws.join_split p (PySem.Str.ofString "/")
  intro c hc
  rw [← j] at hc
  rcases mem_join hc with hc | ⟨z, hz, hc⟩
  · rw [slash1, List.mem_singleton] at hc
    omega
  · exact name_plain ((path_parts h).2 z hz) c hc
theorem quo_plain {u : Str} (hu : plainZ u) : plainZ (quoS u) := plain_app (plain_app (plainZ_of (by decide +kernel)) hu) (plainZ_of (by decide +kernel))
theorem item_plain {ls : List Str} (hl : isLinesS ls = true) : plainZ (itemS ls) := plain_app (plain_app (plainZ_of (by decide +kernel)) (plain_join (plainZ_of (by decide +kernel)) fun y hy => by
  obtain ⟨z, hz, rfl⟩ := List.mem_map.mp hy
  exact quo_plain (plainS_Z (line_plain (lines_each hl z hz))))) (plainZ_of (by decide +kernel))
theorem place_plain {z : Str} (hz : isPlaceS z = true) : plainZ (placeS z) := by
  unfold placeS
  split
  · exact plainZ_of (by decide +kernel)
  · rename_i h
    unfold isPlaceS at hz
    rw [decide_eq_false h, Bool.false_or] at hz
    exact path_plain hz
theorem nine_plain : ∀ z ∈ ([PySem.Str.ofString "read", "kind", "list", "find", "count", "write", "remove", "move", "splice"] : List Str), plainB z = true := by decide +kernel
theorem wr_plain {x : Action} (hb : x.bad = none) : plainZ (wrA x) := by
  have nine : ∀ z ∈ ([PySem.Str.ofString "read", "kind", "list", "find", "count", "write", "remove", "move", "splice"] : List Str), plainZ z := fun z hz => plainZ_of (nine_plain z hz)
  have two : ∀ {a b : Str}, plainZ a → plainZ b → ∀ y ∈ [a, b], plainZ y := fun ha hb y hy => by
    simp only [List.mem_cons, List.not_mem_nil, or_false] at hy
    rcases hy with rfl | rfl <;> assumption
  have three : ∀ {a b c : Str}, plainZ a → plainZ b → plainZ c → ∀ y ∈ [a, b, c], plainZ y := fun ha hb hc y hy => by
    simp only [List.mem_cons, List.not_mem_nil, or_false] at hy
    rcases hy with rfl | rfl | rfl <;> assumption
  refine plain_app (plain_app (plainZ_of (by decide +kernel)) (plain_join (plainZ_of (by decide +kernel)) ?_)) (plainZ_of (by decide +kernel))
  cases x with
  | read p => simp only [Action.bad] at hb; split at hb; exact two (nine _ (by simp)) (place_plain (place_of_path ‹_›)); cases hb
  | remove p => simp only [Action.bad] at hb; split at hb; exact two (nine _ (by simp)) (place_plain (place_of_path ‹_›)); cases hb
  | kind p => simp only [Action.bad] at hb; split at hb; exact two (nine _ (by simp)) (place_plain ‹_›); cases hb
  | list p => simp only [Action.bad] at hb; split at hb; exact two (nine _ (by simp)) (place_plain ‹_›); cases hb
  | count p => simp only [Action.bad] at hb; split at hb; exact two (nine _ (by simp)) (place_plain ‹_›); cases hb
  | find p u =>
    simp only [Action.bad] at hb
    split at hb
    · split at hb
      · rename_i h1 h2
        exact three (nine _ (by simp)) (place_plain h1) (quo_plain (plainS_Z (word_plain h2)))
      · cases hb
    · cases hb
  | move p u =>
    simp only [Action.bad] at hb
    split at hb
    · split at hb
      · rename_i h1 h2
        exact three (nine _ (by simp)) (place_plain (place_of_path h1)) (path_plain h2)
      · cases hb
    · cases hb
  | write p ls =>
    simp only [Action.bad] at hb
    split at hb
    · split at hb
      · rename_i h1 h2
        exact three (nine _ (by simp)) (place_plain (place_of_path h1)) (item_plain h2)
      · cases hb
    · cases hb
  | splice p o n =>
    simp only [Action.bad] at hb
    split at hb
    · split at hb
      · split at hb
        · rename_i h1 h2 h3
          rw [Bool.and_eq_true] at h2
          intro y hy
          simp only [Action.parts, List.mem_cons, List.not_mem_nil, or_false] at hy
          rcases hy with rfl | rfl | rfl | rfl
          · exact nine _ (by simp)
          · exact place_plain (place_of_path h1)
          · exact item_plain h2.1
          · exact item_plain h3
        · cases hb
      · cases hb
    · cases hb
theorem wrAs_plain {acts : List Action} (hb : ∀ x ∈ acts, x.bad = none) : plainZ (wrAs acts) := plain_join (plainZ_of (by decide +kernel)) fun y hy => by
  obtain ⟨x, hx, rfl⟩ := List.mem_map.mp hy
  exact wr_plain (hb x hx)
theorem num_cps (m : Nat) : (PySem.Str.ofString (toString ((m : Nat) : Int))).cps.toList = TL.numL m := TL.tl_num m
theorem numL_head : ∀ n : Nat, 0 < n → (TL.numL n).head? ≠ some 48 := by
  intro n
  induction n using Nat.strongRecOn with
  | _ n ih =>
    intro h0
    by_cases h : n < 10
    · exact (by decide +kernel : ∀ k : Nat, k < 10 → 0 < k → (TL.numL k).head? ≠ some 48) n h h0
    · have e : Nat.toDigits 10 (n / 10) ++ Nat.toDigits 10 (n % 10) = Nat.toDigits 10 (10 * (n / 10) + n % 10) := Nat.toDigits_append_toDigits (by decide) (by omega) (Nat.mod_lt _ (by decide))
      rw [Nat.div_add_mod] at e
      have g := ih (n / 10) (by omega) (by omega)
      have ne : TL.numL (n / 10) ≠ [] := TL.numL_ne _
      unfold TL.numL at g ne ⊢
      rw [← e, List.map_append, List.head?_append]
      cases hh : ((Nat.toDigits 10 (n / 10)).map Char.toNat).head? with
      | none => rw [List.head?_eq_none_iff] at hh; exact absurd hh ne
      | some c => rw [hh] at g; exact g
theorem numL_signs (m : Nat) : ∀ c ∈ TL.numL m, 48 ≤ c ∧ c ≤ 57 := fun c hc => TL.numL_digits m c hc
theorem numF_str {d m : Int} (h0 : 0 ≤ d) (h1 : d ≤ m) (h2 : d < 10000) : numF (PySem.Str.ofString (toString d)) m = some d := by
  obtain ⟨n, rfl⟩ := Int.eq_ofNat_of_zero_le h0
  have ec := num_cps n
  have el : (PySem.Str.ofString (toString ((n : Nat) : Int))).length = (TL.numL n).length := congrArg List.length ec
  have l4 : (TL.numL n).length ≤ 4 := TL.numL_len (by omega) (by omega)
  have l1 : 1 ≤ (TL.numL n).length := List.length_pos_iff.mpr (TL.numL_ne n)
  have ev : numV (PySem.Str.ofString (toString ((n : Nat) : Int))) = (n : Int) := by
    unfold numV
    rw [ec, TL.numL_val]
  have ok : numOk (PySem.Str.ofString (toString ((n : Nat) : Int))) = true := by
    unfold numOk
    rw [ec, el, decide_eq_true l1, decide_eq_true l4, List.all_eq_true.mpr fun c hc => digit_iff.mpr (numL_signs n c hc)]
    by_cases hn : n = 0
    · subst hn
      decide +kernel
    · have := numL_head n (by omega)
      rw [decide_eq_false this]
      rfl
  unfold numF
  rw [ev, if_pos ⟨ok, h1⟩]
theorem nl_cps : nlS.cps.toList = [10] := by decide +kernel
theorem sp_cps : (PySem.Str.ofString " ").cps.toList = [32] := by decide +kernel
theorem part_nl {a b : Str} (h : 10 ∉ a.cps.toList) : Txt.partition (a ++ nlS ++ b) nlS = (a, nlS, b) := TL.partition_app (s := 10) (S := []) nl_cps h
theorem split_sp {ys : List Str} (h0 : ys ≠ []) (h : ∀ y ∈ ys, 32 ∉ y.cps.toList) : Txt.split (Txt.join (PySem.Str.ofString " ") ys) (PySem.Str.ofString " ") = ys := TL.split_join (s := 32) (S := []) sp_cps (by decide +kernel) h0 h
theorem str_assoc (a b c : Str) : a ++ b ++ c = a ++ (b ++ c) := str_ext (by rw [cps_app, cps_app, cps_app, cps_app, List.append_assoc])
def headT (d s : Int) (n : Str) : Str := Txt.join (PySem.Str.ofString " ") [PySem.Str.ofString "accept", PySem.Str.ofString (toString d), PySem.Str.ofString (toString s), n]
theorem recHead_eq (d s : Int) (n : Str) : recHead d s n = headT d s n ++ nlS := by
  unfold headT recHead
  rw [(join4 _).2.2]
  simp only [str_assoc]
  rfl
theorem acc_signs : (∀ c ∈ (PySem.Str.ofString "accept").cps.toList, c ≠ 10 ∧ c ≠ 32) ∧ (∀ c ∈ (PySem.Str.ofString "epoch").cps.toList, c ≠ 10) ∧ (∀ c ∈ (PySem.Str.ofString "first").cps.toList, c ≠ 10) := by decide +kernel
theorem num_signs {d : Int} (h0 : 0 ≤ d) : ∀ c ∈ (PySem.Str.ofString (toString d)).cps.toList, 48 ≤ c ∧ c ≤ 57 := fun c hc => by
  obtain ⟨n, rfl⟩ := Int.eq_ofNat_of_zero_le h0
  rw [num_cps] at hc
  exact numL_signs n c hc
theorem head_parts {d s : Int} {n : Str} (d0 : 0 ≤ d) (s0 : 0 ≤ s) (hn : isNameS n = true) : ∀ y ∈ [PySem.Str.ofString "accept", PySem.Str.ofString (toString d), PySem.Str.ofString (toString s), n], ∀ c ∈ y.cps.toList, c ≠ 10 ∧ c ≠ 32 := fun y hy c hc => by
  simp only [List.mem_cons, List.not_mem_nil, or_false] at hy
  rcases hy with rfl | rfl | rfl | rfl
  · exact acc_signs.1 c hc
  · have := num_signs d0 c hc; omega
  · have := num_signs s0 c hc; omega
  · exact ⟨(name_signs hn c hc).1, (name_signs hn c hc).2.1⟩
theorem head_nl {d s : Int} {n : Str} (d0 : 0 ≤ d) (s0 : 0 ≤ s) (hn : isNameS n = true) : 10 ∉ (headT d s n).cps.toList := fun hc => by
  unfold headT at hc
  rw [tjoin] at hc
  rcases mem_join hc with hc | ⟨z, hz, hc⟩
  · rw [sp_cps] at hc; simp at hc
  · exact (head_parts d0 s0 hn z hz 10 hc).1 rfl
theorem head_ne {d s : Int} {n : Str} : headT d s n ≠ PySem.Str.ofString "epoch" ∧ headT d s n ≠ PySem.Str.ofString "first" := by
  have e : ∃ r, (headT d s n).cps.toList = 97 :: r := by
    unfold headT
    rw [(join4 _).2.2, cps_app, cps_app, show (PySem.Str.ofString "accept").cps.toList = 97 :: [99, 99, 101, 112, 116] by decide +kernel]
    exact ⟨_, rfl⟩
  obtain ⟨r, e⟩ := e
  constructor
  · intro h
    rw [h, show (PySem.Str.ofString "epoch").cps.toList = 101 :: [112, 111, 99, 104] by decide +kernel] at e
    injection e with e
    omega
  · intro h
    rw [h, show (PySem.Str.ofString "first").cps.toList = 102 :: [105, 114, 115, 116] by decide +kernel] at e
    injection e with e
    omega
theorem acceptF_head {d s : Int} {n : Str} (d0 : 0 ≤ d) (d1 : d ≤ 2) (s0 : 0 ≤ s) (s1 : s ≤ 9999) (hn : isNameS n = true) : acceptF (Txt.split (headT d s n) (PySem.Str.ofString " ")) = some (d, s, n) := by
  unfold headT
  rw [split_sp (by simp) fun y hy hc => (head_parts d0 s0 hn y hy 32 hc).2 rfl]
  show (if _ then _ else _) = _
  rw [if_pos ⟨rfl, hn⟩, numF_str d0 d1 (by omega), numF_str s0 s1 (by omega)]
theorem lead_writesN : ∀ (n : Nat) {gs : List File}, gs.length = n → GoodP gs → leadF [] (writesOf gs) = sortF gs := by
  intro n
  induction n with
  | zero => intro gs e _; rw [List.length_eq_zero_iff.mp e]; rfl
  | succ n ihn =>
    intro gs0 e G
    obtain ⟨gs, f, rfl⟩ : ∃ gs f, gs0 = gs ++ [f] := by
      rcases List.eq_nil_or_concat gs0 with h | ⟨gs, f, h⟩
      · rw [h] at e; simp at e
      · exact ⟨gs, f, by rw [h, List.concat_eq_append]⟩
    have ih : GoodP gs → leadF [] (writesOf gs) = sortF gs := ihn (by rw [List.length_append, List.length_singleton] at e; omega)
    have hl := G.len
    rw [List.length_append, List.length_singleton] at hl
    have Gg : GoodP gs := ⟨by omega, (List.nodup_append.mp (by have := G.once; unfold Once at this; rw [List.map_append] at this; exact this)).1, fun g hg => G.path g (List.mem_append_left _ hg), fun g hg => G.lines g (List.mem_append_left _ hg), fun a ha b hb => G.apart a (List.mem_append_left _ ha) b (List.mem_append_left _ hb)⟩
    have hf : f ∈ gs ++ [f] := List.mem_append_right _ (List.mem_singleton.mpr rfl)
    have new : f.1 ∉ pathsOf (sortF gs) := fun h => by
      obtain ⟨g, hg, e⟩ := List.mem_map.mp h
      have o := G.once
      unfold Once at o
      rw [List.map_append, List.nodup_append] at o
      exact o.2.2 g.1 (List.mem_map_of_mem ((sortF_perm gs).subset hg)) f.1 (by simp) e
    have nb : blockedF (sortF gs) f.1 = false := by
      unfold blockedF
      rw [Bool.or_eq_false_iff]
      constructor
      · rw [decide_eq_false_iff_not, Nat.not_lt, Nat.le_zero, List.length_eq_zero_iff]
        unfold insideF
        rw [List.filter_eq_nil_iff]
        intro y hy
        obtain ⟨g, hg, rfl⟩ := List.mem_map.mp hy
        rw [G.apart g (List.mem_append_left _ ((sortF_perm gs).subset hg)) f hf]
        exact Bool.false_ne_true
      · rw [decide_eq_false_iff_not, Nat.not_lt, Nat.le_zero, List.length_eq_zero_iff]
        unfold aboveF
        rw [List.filter_eq_nil_iff]
        intro y hy
        obtain ⟨g, hg, rfl⟩ := List.mem_map.mp hy
        rw [G.apart f hf g (List.mem_append_left _ ((sortF_perm gs).subset hg))]
        exact Bool.false_ne_true
    have e1 : writesOf (gs ++ [f]) = writesOf gs ++ [.write f.1 f.2] := by unfold writesOf; rw [List.map_append]; rfl
    rw [e1, lead_snoc, ih Gg]
    show (deedF (sortF gs) (.write f.1 f.2)).2 = _
    simp only [deedF]
    rw [if_neg (by rw [nb]; exact Bool.false_ne_true), if_neg (by rw [sortF_len, decide_eq_false (show ¬ gs.length = 20 by omega), Bool.and_false]; exact Bool.false_ne_true)]
    show sortF (withF (sortF gs) f.1 f.2) = _
    unfold withF
    rw [without_new new]
    have p : (sortF gs ++ [(f.1, f.2)]).Perm (gs ++ [f]) := (sortF_perm gs).append_right _
    exact asc_perm_eq ((sortF_perm _).trans (p.trans (sortF_perm _).symm)) (sortF_once (G.perm p.symm).once) (sortF_asc _) (sortF_asc _)
theorem lead_writes {gs : List File} (G : GoodP gs) : leadF [] (writesOf gs) = sortF gs := lead_writesN _ rfl G
def RecGd : Rec → Prop
  | .epoch => True
  | .first fs => GoodP fs ∧ sortF fs = fs ∧ fs.length ≤ 8
  | .accept d s n acts => 0 ≤ d ∧ d ≤ 2 ∧ 0 ≤ s ∧ s ≤ 9999 ∧ isNameS n = true ∧ (∀ x ∈ acts, x.bad = none) ∧ acts.length ≤ 8
theorem RecGd.ok {r : Rec} (h : RecGd r) : RecOk r := by
  cases r with
  | epoch => exact ⟨fun _ h => (by cases h), fun _ _ _ _ h => (by cases h)⟩
  | first fs => exact ⟨fun gs e => (by injection e with e; rw [← e]; exact h.1), fun _ _ _ _ h => (by cases h)⟩
  | accept d s n acts =>
    obtain ⟨d0, d1, s0, s1, hn, hb, hl⟩ := h
    have := name_len hn
    exact ⟨fun _ h => (by cases h), fun d' s' n' acts' e => (by injection e with e1 e2 e3 e4; subst e1; subst e2; subst e3; subst e4; exact ⟨d0, by omega, s0, by omega, by omega, hb, by omega⟩)⟩
theorem opt_written {acts : List Action} (hb : ∀ x ∈ acts, x.bad = none) (hl : acts.length ≤ 8) : optActs (wrAs acts) = some acts := by
  have := wrAs_len hb
  unfold optActs
  rw [if_neg (by omega), read_written hb]
theorem readRec_written {r : Rec} (h : RecGd r) : readRec (recT r) = some r := by
  cases r with
  | epoch =>
    have e0 : recT .epoch = PySem.Str.ofString "epoch" ++ nlS ++ wrAs [] := by decide +kernel
    have ep : Txt.partition (recT .epoch) nlS = (PySem.Str.ofString "epoch", nlS, wrAs []) := by rw [e0]; exact part_nl fun hc => acc_signs.2.1 10 hc rfl
    unfold readRec
    rw [ep]
    dsimp only
    rw [opt_written (acts := []) (fun _ h => (by cases h)) (by simp)]
    dsimp only
    have ec : candF (recT .epoch) [] = some .epoch := by
      unfold candF
      rw [ep]
      exact if_pos rfl
    rw [ec]
    exact if_pos rfl
  | first fs =>
    obtain ⟨G, hs, hl⟩ := h
    have hb := writes_bad G
    have wl : (writesOf fs).length = fs.length := by unfold writesOf; rw [List.length_map]
    have ep : Txt.partition (recT (.first fs)) nlS = (PySem.Str.ofString "first", nlS, wrAs (writesOf fs)) := part_nl fun hc => acc_signs.2.2 10 hc rfl
    unfold readRec
    rw [ep]
    dsimp only
    rw [opt_written hb (by omega)]
    dsimp only
    have ec : candF (recT (.first fs)) (writesOf fs) = some (.first fs) := by
      unfold candF
      rw [ep]
      dsimp only
      rw [if_neg (by decide +kernel), if_pos rfl, run_lead, lead_writes G, hs]
    rw [ec]
    exact if_pos rfl
  | accept d s n acts =>
    obtain ⟨d0, d1, s0, s1, hn, hb, hl⟩ := h
    have ep : Txt.partition (recT (.accept d s n acts)) nlS = (headT d s n, nlS, wrAs acts) := by
      show Txt.partition (recHead d s n ++ wrAs acts) nlS = _
      rw [recHead_eq]
      exact part_nl (head_nl d0 s0 hn)
    unfold readRec
    rw [ep]
    dsimp only
    rw [opt_written hb (by omega)]
    dsimp only
    have ec : candF (recT (.accept d s n acts)) acts = some (.accept d s n acts) := by
      unfold candF
      rw [ep]
      dsimp only
      rw [if_neg head_ne.1, if_neg head_ne.2, acceptF_head d0 d1 s0 s1 hn]
    rw [ec]
    exact if_pos rfl
theorem wr_last (x : Action) : ∃ c, (wrA x).cps.toList = c ++ [10] := by
  unfold wrA
  rw [cps_app, show (PySem.Str.ofString ")\n").cps.toList = [41] ++ [10] by decide +kernel, ← List.append_assoc]
  exact ⟨_, rfl⟩
theorem recT_last (r : Rec) : ∃ c, (recT r).cps.toList = c ++ [10] := by
  have two : ∀ (a : Str) (acts : List Action), ∃ c, (a ++ nlS ++ wrAs acts).cps.toList = c ++ [10] := fun a acts => by
    rw [cps_app, cps_app, nl_cps, acts_cps]
    rcases List.eq_nil_or_concat acts with rfl | ⟨xs, x, h⟩
    · exact ⟨a.cps.toList, by simp⟩
    · rw [h, List.concat_eq_append]
      obtain ⟨c, e⟩ := wr_last x
      refine ⟨a.cps.toList ++ [10] ++ (xs.flatMap fun x => (wrA x).cps.toList) ++ c, ?_⟩
      rw [List.flatMap_append, List.flatMap_cons, List.flatMap_nil, e, List.append_nil]
      simp only [List.append_assoc]
  cases r with
  | epoch => exact ⟨(PySem.Str.ofString "epoch").cps.toList, by decide +kernel⟩
  | first fs => exact two _ _
  | accept d s n acts =>
    show ∃ c, (recHead d s n ++ wrAs acts).cps.toList = _
    rw [recHead_eq]
    exact two _ _
theorem readRec_text {z : Str} {r : Rec} (h : readRec z = some r) : recT r = z := by
  unfold readRec at h
  split at h
  · cases h
  · split at h
    · cases h
    · split at h
      · injection h with h; subst h; assumption
      · cases h
theorem readRec_sp (z : Str) : readRec (z ++ PySem.Str.ofString " ") = none := by
  cases e : readRec (z ++ PySem.Str.ofString " ") with
  | none => rfl
  | some r =>
    have h := readRec_text e
    obtain ⟨c, hc⟩ := recT_last r
    rw [h, cps_app, sp_cps] at hc
    have := congrArg List.getLast? hc
    simp at this
theorem recT_plain {r : Rec} (h : RecGd r) : plainZ (recT r) := by
  cases r with
  | epoch => exact plainZ_of (by decide +kernel)
  | first fs => exact plain_app (plainZ_of (by decide +kernel)) (wrAs_plain (writes_bad h.1))
  | accept d s n acts =>
    obtain ⟨d0, d1, s0, s1, hn, hb, hl⟩ := h
    have nm : ∀ {k : Int}, 0 ≤ k → plainZ (PySem.Str.ofString (toString k)) := fun hk c hc => .inr (by have := num_signs hk c hc; omega)
    have sp : plainZ (PySem.Str.ofString " ") := plainZ_of (by decide +kernel)
    exact plain_app (plain_app (plain_app (plain_app (plain_app (plain_app (plain_app (plainZ_of (by decide +kernel)) sp) (nm d0)) sp) (nm s0)) sp) (name_plain hn) |> fun g => plain_app g (plainZ_of (by decide +kernel))) (wrAs_plain hb)
theorem recT_len {r : Rec} (h : RecGd r) : 1 ≤ (recT r).length ∧ (recT r).length ≤ 7000 := by
  obtain ⟨al, fl, sl, nl0, zl⟩ := acc_len
  cases r with
  | epoch => decide +kernel
  | first fs =>
    have hb := writes_bad h.1
    have wl : (writesOf fs).length = fs.length := by unfold writesOf; rw [List.length_map]
    have := wrAs_len hb
    have hl := h.2.2
    show 1 ≤ (PySem.Str.ofString "first" ++ PySem.Str.ofString "\n" ++ wrAs (writesOf fs)).length ∧ (PySem.Str.ofString "first" ++ PySem.Str.ofString "\n" ++ wrAs (writesOf fs)).length ≤ 7000
    simp only [app_len, fl, nl0]
    omega
  | accept d s n acts =>
    obtain ⟨d0, d1, s0, s1, hn, hb, hl⟩ := h
    have := wrAs_len hb
    have := name_len hn
    have := num_len d0 (by omega)
    have := num_len s0 (by omega)
    show 1 ≤ (recHead d s n ++ wrAs acts).length ∧ (recHead d s n ++ wrAs acts).length ≤ 7000
    unfold recHead
    simp only [app_len, al, sl, nl0]
    omega
end K45



namespace K45
open PySem L2 Sa
local macro_rules | `(tactic| walk_at "s1") => `(tactic| first | (with_reducible apply c_dgetK))
local macro_rules | `(tactic| walk_at "s1") => `(tactic| (with_reducible apply c_raiseO))
local macro_rules | `(tactic| walk_at "s1") => `(tactic| first | (with_reducible apply c_dgetK))
local macro_rules | `(tactic| walk_at "s1") => `(tactic| (with_reducible apply c_raiseO))
local macro_rules | `(tactic| walk_at "s1") => `(tactic| first | (with_reducible apply c_un) | (with_reducible apply c_negI))
set_option pp.maxSteps 1500
section
variable {P : Program} {w : World} {K : PySem.W.Frag} {mg : Str → Option Value} {base : Heap}
theorem c_pl {p : Str} {H : Hp} {l0 : Addr} {Q : VK} (h : H l0 = some (.lst [.str p, .str (PySem.Str.ofString ".")])) (q : Q (.str (placeS p)) H) : rIntU [.bl (decide (p = PySem.Str.ofString ""))] H fun y H2 => rIx K (.ref l0) y H2 Q := by
  refine .inr ⟨_, rfl, ?_⟩
  by_cases hp : p = PySem.Str.ofString ""
  · rw [decide_eq_true hp]
    unfold placeS at q
    rw [if_pos hp] at q
    exact c_ixL (SqL.of h) (atI_nat (j := 1) rfl) q
  · rw [decide_eq_false hp]
    unfold placeS at q
    rw [if_neg hp] at q
    exact c_ixL (SqL.of h) (atI_nat (j := 0) rfl) q
def Action.lparts (x : Action) : List Str := match x.parts with
  | [] => []
  | w :: r => (PySem.Str.ofString "(" ++ w) :: r
theorem parts_cons (x : Action) : ∃ w z r, x.parts = w :: z :: r := by cases x <;> exact ⟨_, _, _, rfl⟩
theorem lparts_eq (x : Action) : Txt.join (PySem.Str.ofString " ") x.lparts ++ PySem.Str.ofString ")\n" = wrA x := by
  obtain ⟨w, z, r, e⟩ := parts_cons x
  unfold Action.lparts wrA
  rw [e]
  dsimp only
  congr 1
  rw [tjoin, tjoin]
  show PySem.Str.ofString "(" ++ w ++ PySem.Str.ofString " " ++ _ = PySem.Str.ofString "(" ++ (w ++ PySem.Str.ofString " " ++ _)
  rw [str_assoc, str_assoc, str_assoc]
theorem lparts_len {x : Action} (h : x.tx) : (x.lparts.map (·.length)).sum ≤ 33000 ∧ x.lparts.length ≤ 4 ∧ (Txt.join (PySem.Str.ofString " ") x.lparts).length ≤ 40000 := by
  obtain ⟨pl, pm⟩ := parts_len h
  obtain ⟨w, z, r, e⟩ := parts_cons x
  obtain ⟨s1, s2, s3, s4⟩ := sep1
  have em : ∀ y ∈ x.lparts, y.length ≤ 8003 := fun y hy => by
    unfold Action.lparts at hy
    rw [e] at hy pm
    rcases List.mem_cons.mp hy with rfl | hy
    · rw [app_len, s2]
      have := pm w (List.mem_cons_self ..)
      omega
    · have := pm y (List.mem_cons_of_mem _ hy)
      omega
  have el : x.lparts.length = x.parts.length := by unfold Action.lparts; rw [e]; rfl
  have a1 := sum_le em
  have a2 := join_most (s := PySem.Str.ofString " ") em
  have a3 : x.lparts.length * 8003 ≤ 4 * 8003 := Nat.mul_le_mul_right _ (by omega)
  rw [s1] at a2
  exact ⟨by omega, by omega, by omega⟩
theorem c_joinL {x : Action} {H : Hp} {l : Addr} {Q : VK} (h : x.tx) (hl : SqL K H l (x.lparts.map V.str)) (q : Q (.str (Txt.join (PySem.Str.ofString " ") x.lparts)) H) : rJoin K (.str (PySem.Str.ofString " ")) [.ref l] H Q := by
  obtain ⟨l1, l2, l3⟩ := lparts_len h
  obtain ⟨s1, s2, s3, s4⟩ := sep1
  refine c_join hl ?_ q
  rw [s1]
  omega
theorem c_joinI {ls : List Str} {H : Hp} {Dl : Addr} {Q : VK} (hacc : SqL K H Dl ((ls.map quoS).map V.str)) (hl : LsTx ls) (q : Q (.str (Txt.join (PySem.Str.ofString " ") (ls.map quoS))) H) : rJoin K (.str (PySem.Str.ofString " ")) [.ref Dl] H Q := by
  refine c_join hacc ?_ q
  have lu := hl.len
  have := sum_le (m := 22) (ns := ls.map quoS) fun y hy => by
    obtain ⟨z, hz, rfl⟩ := List.mem_map.mp hy
    rw [quoS_len]
    have := (hl.tx z hz).len
    omega
  rw [List.length_map] at this ⊢
  rw [sep1.1]
  omega
def spSaid (K : PySem.W.Frag) : Sp := fun vs H Q _ => ∃ (a : Addr) (x : Action), vs = [.ref a] ∧ ActAt K H a x ∧ x.bad = none ∧ ∀ H', Kp [] H H' → Q (.str (wrA x)) H'
theorem sc__law_said : FnScope ["_law_action_here", "_law_words", "_law_lines_here", "_law_line"] ["_law_action_here"] (defScope s__law_said) := ⟨rfl, rfl, rfl, by decide +kernel, rfl, by decide +kernel, by decide +kernel⟩
theorem bn__law_said : BindN "_law_said" s__law_said ["_law_action_here"] := fun _ _ _ _ _ _ us hl => match us, hl with | [_], _ => rfl
theorem b__law_said (T : TX K mg) : Body P w K mg base "_law_said" s__law_said ["_law_action_here", "_law_words", "_law_lines_here", "_law_line"] 1 (spSaid K) := by
  intro cdv A outer s H vs Q E h X hr
  obtain ⟨a, x, rfl, ha, hb, q⟩ := h
  refine ⟨_, (pss_cons (ps_set (i := 1) sc__law_said.nd rfl (Or.inl rfl) (pe_lst (pa_cons (pe_op (op_addU (K := K)) pe_str (pe_ix (ix_U (K := K)) (pv 0) pe_int (fun _ _ => rfl))) (pa_cons (pe_ix (ix_U (K := K)) (pe_lst (pa_cons (pe_ix (ix_U (K := K)) (pv 0) pe_int (fun _ _ => rfl)) (pa_cons pe_str pa_nil))) (pe_callTy cr_int rfl (T.free 61) (by decide +kernel) (pa_cons (pe_cmpR (op_eqU (K := K) hr.units) (pe_ix (ix_U (K := K)) (pv 0) pe_int (fun _ _ => rfl)) pe_str (nomark _)) pa_nil)) (fun _ _ => rfl)) pa_nil)))) (pss_cons (ps_if (pt_cmpR (op_eqU (K := K) hr.units) (pe_ix (ix_U (K := K)) (pv 0) pe_int (fun _ _ => rfl)) pe_str (nomark _)) (pss_one (ps_expr (pe_appendU (K := K) (pv 1) (pe_op (op_addU (K := K)) (pe_op (op_addU (K := K)) pe_str (pe_ix (ix_U (K := K)) (pv 0) pe_int (fun _ _ => rfl))) pe_str)))) pss_nil) (pss_cons (ps_if (pt_cmpR (op_eqU (K := K) hr.units) (pe_ix (ix_U (K := K)) (pv 0) pe_int (fun _ _ => rfl)) pe_str (nomark _)) (pss_one (ps_expr (pe_appendU (K := K) (pv 1) (pe_ix (ix_U (K := K)) (pv 0) pe_int (fun _ _ => rfl))))) pss_nil) (pss_cons (ps_if (pt_cmpR (op_inU (K := K)) (pe_ix (ix_U (K := K)) (pv 0) pe_int (fun _ _ => rfl)) (pe_tup (pa_cons pe_str (pa_cons pe_str pa_nil))) rfl) (pss_one (ps_for PassesOwn.never rfl (pi_tupU (K := K) (pe_slice (sl_U (K := K)) (pv 0) (po_some pe_int) po_none)) (pg_name (i := 2) sc__law_said.nd rfl (Or.inl rfl)) (pss_one (ps_expr (pe_appendU (K := K) (pv 1) (pe_op (op_addU (K := K)) (pe_op (op_addU (K := K)) pe_str (pe_joinU (K := K) pe_str (pe_lc (own := [("_law_line", 3)]) rfl sc__law_said.nd (pi_tupU (K := K) (pv 2)) (blkOk_by (N := ["_law_action_here", "_law_words", "_law_lines_here", "_law_line"]) (sc := defScope s__law_said) (by decide +kernel)) (fun _ _ _ _ _ => (pg_name (i := 3) sc__law_said.nd rfl (Or.inl rfl))) (fun _ _ _ _ _ => pts_nil) (fun _ _ _ _ _ => (pe_op (op_addU (K := K)) (pe_op (op_addU (K := K)) pe_str (pv 3)) pe_str))))) pe_str)))))) pss_nil) (pss_one (ps_ret (pe_op (op_addU (K := K)) (pe_joinU (K := K) pe_str (pv 1)) pe_str))))))), ?_⟩
  have hx := bad_tx hb
  obtain ⟨s1, s2, s3, s4⟩ := sep1
  have fin : ∀ {H1 : Hp} {l : Addr} {Q1 : VK}, Kp [] H H1 → H1 l = some (.lst (x.lparts.map V.str)) → (∀ z : Str, z.length ≤ 40000 → z ++ PySem.Str.ofString ")\n" = wrA x → Q1 (.str z) H1) → rJoin K (.str (PySem.Str.ofString " ")) [.ref l] H1 Q1 := fun {H1 l Q1} e1 hl h => c_joinL hx (SqL.of hl) (h _ (lparts_len hx).2.2 (lparts_eq x))
  cases x with
  | read p =>
    have ha : SqT K H a _ := ha
    walk_at "dc"
    refine c_addS (by rw [sizeLine_eq]; decide +kernel) ?_
    walk_at "st"
    walk_at "nw"
    intro l0 H0 N0
    have ha0 := SqT.kp N0.kp ha
    have a0 := N0.at_
    walk_at "st"
    refine c_pl a0 ?_
    walk_at "st"
    walk_at "nw"
    intro l H1 N1
    have h1 := N1.at_
    have ha1 := SqT.kp N1.kp ha0
    have k1 : Kp [] H H1 := N0.kp.trans N1.kp
    have fr : H l = none := free0 N0.kp N1.fr
    walk_at "dc"
    walk_at "nw"
    intro pt Ht Nt
    have ht := SqT.of (K := K) Nt.at_
    walk_at "st"
    refine c_inSs (ys := ["write", "splice"]) (.inr ht) ?_
    walk_at "st"
    refine c_iteF (by decide +kernel) ?_
    walk_at "st"
    refine fin (k1.trans Nt.kp) (Nt.keep h1) fun z hz ez => ?_
    walk_at "st"
    refine c_addS (by rw [sizeLine_eq, s3]; omega) ?_
    rw [ez]
    exact q _ (k1.trans Nt.kp)
  | kind p =>
    have ha : SqT K H a _ := ha
    walk_at "dc"
    refine c_addS (by rw [sizeLine_eq]; decide +kernel) ?_
    walk_at "st"
    walk_at "nw"
    intro l0 H0 N0
    have ha0 := SqT.kp N0.kp ha
    have a0 := N0.at_
    walk_at "st"
    refine c_pl a0 ?_
    walk_at "st"
    walk_at "nw"
    intro l H1 N1
    have h1 := N1.at_
    have ha1 := SqT.kp N1.kp ha0
    have k1 : Kp [] H H1 := N0.kp.trans N1.kp
    have fr : H l = none := free0 N0.kp N1.fr
    walk_at "dc"
    walk_at "nw"
    intro pt Ht Nt
    have ht := SqT.of (K := K) Nt.at_
    walk_at "st"
    refine c_inSs (ys := ["write", "splice"]) (.inr ht) ?_
    walk_at "st"
    refine c_iteF (by decide +kernel) ?_
    walk_at "st"
    refine fin (k1.trans Nt.kp) (Nt.keep h1) fun z hz ez => ?_
    walk_at "st"
    refine c_addS (by rw [sizeLine_eq, s3]; omega) ?_
    rw [ez]
    exact q _ (k1.trans Nt.kp)
  | list p =>
    have ha : SqT K H a _ := ha
    walk_at "dc"
    refine c_addS (by rw [sizeLine_eq]; decide +kernel) ?_
    walk_at "st"
    walk_at "nw"
    intro l0 H0 N0
    have ha0 := SqT.kp N0.kp ha
    have a0 := N0.at_
    walk_at "st"
    refine c_pl a0 ?_
    walk_at "st"
    walk_at "nw"
    intro l H1 N1
    have h1 := N1.at_
    have ha1 := SqT.kp N1.kp ha0
    have k1 : Kp [] H H1 := N0.kp.trans N1.kp
    have fr : H l = none := free0 N0.kp N1.fr
    walk_at "dc"
    walk_at "nw"
    intro pt Ht Nt
    have ht := SqT.of (K := K) Nt.at_
    walk_at "st"
    refine c_inSs (ys := ["write", "splice"]) (.inr ht) ?_
    walk_at "st"
    refine c_iteF (by decide +kernel) ?_
    walk_at "st"
    refine fin (k1.trans Nt.kp) (Nt.keep h1) fun z hz ez => ?_
    walk_at "st"
    refine c_addS (by rw [sizeLine_eq, s3]; omega) ?_
    rw [ez]
    exact q _ (k1.trans Nt.kp)
  | find p u =>
    have ha : SqT K H a _ := ha
    walk_at "dc"
    refine c_addS (by rw [sizeLine_eq]; decide +kernel) ?_
    walk_at "st"
    walk_at "nw"
    intro l0 H0 N0
    have ha0 := SqT.kp N0.kp ha
    have a0 := N0.at_
    walk_at "st"
    refine c_pl a0 ?_
    walk_at "st"
    walk_at "nw"
    intro l H1 N1
    have h1 := N1.at_
    have ha1 := SqT.kp N1.kp ha0
    have k1 : Kp [] H H1 := N0.kp.trans N1.kp
    have fr : H l = none := free0 N0.kp N1.fr
    have ul := hx.2.len
    walk_at "dc"
    refine c_addS (by rw [sizeLine_eq, show (PySem.Str.ofString "\"").length = 1 from by decide +kernel]; omega) ?_
    walk_at "st"
    refine c_addS (by rw [sizeLine_eq, app_len, show (PySem.Str.ofString "\"").length = 1 from by decide +kernel]; omega) ?_
    walk_at "st"
    have h2 : upd H1 l (.lst ([.str (PySem.Str.ofString "(" ++ PySem.Str.ofString "find"), .str (placeS p)] ++ [.str (quoS u)])) l = some (.lst ([.str (PySem.Str.ofString "(" ++ PySem.Str.ofString "find"), .str (placeS p)] ++ [.str (quoS u)])) := upd_same
    have k2 : Kp [] H (upd H1 l (.lst ([.str (PySem.Str.ofString "(" ++ PySem.Str.ofString "find"), .str (placeS p)] ++ [.str (quoS u)]))) := k1.fresh_mut fr
    have ha2 : SqT K (upd H1 l (.lst ([.str (PySem.Str.ofString "(" ++ PySem.Str.ofString "find"), .str (placeS p)] ++ [.str (quoS u)]))) a _ := SqT.kp k2 ha
    walk_at "dc"
    walk_at "nw"
    intro pt Ht Nt
    have ht := SqT.of (K := K) Nt.at_
    walk_at "st"
    refine c_inSs (ys := ["write", "splice"]) (.inr ht) ?_
    walk_at "st"
    refine c_iteF (by decide +kernel) ?_
    walk_at "st"
    refine fin (k2.trans Nt.kp) (Nt.keep h2) fun z hz ez => ?_
    walk_at "st"
    refine c_addS (by rw [sizeLine_eq, s3]; omega) ?_
    rw [ez]
    exact q _ (k2.trans Nt.kp)
  | count p =>
    have ha : SqT K H a _ := ha
    walk_at "dc"
    refine c_addS (by rw [sizeLine_eq]; decide +kernel) ?_
    walk_at "st"
    walk_at "nw"
    intro l0 H0 N0
    have ha0 := SqT.kp N0.kp ha
    have a0 := N0.at_
    walk_at "st"
    refine c_pl a0 ?_
    walk_at "st"
    walk_at "nw"
    intro l H1 N1
    have h1 := N1.at_
    have ha1 := SqT.kp N1.kp ha0
    have k1 : Kp [] H H1 := N0.kp.trans N1.kp
    have fr : H l = none := free0 N0.kp N1.fr
    walk_at "dc"
    walk_at "nw"
    intro pt Ht Nt
    have ht := SqT.of (K := K) Nt.at_
    walk_at "st"
    refine c_inSs (ys := ["write", "splice"]) (.inr ht) ?_
    walk_at "st"
    refine c_iteF (by decide +kernel) ?_
    walk_at "st"
    refine fin (k1.trans Nt.kp) (Nt.keep h1) fun z hz ez => ?_
    walk_at "st"
    refine c_addS (by rw [sizeLine_eq, s3]; omega) ?_
    rw [ez]
    exact q _ (k1.trans Nt.kp)
  | write p ls =>
    obtain ⟨la, ha, hla⟩ := ha
    walk_at "dc"
    refine c_addS (by rw [sizeLine_eq]; decide +kernel) ?_
    walk_at "st"
    walk_at "nw"
    intro l0 H0 N0
    have ha0 := SqT.kp N0.kp ha
    have a0 := N0.at_
    walk_at "st"
    refine c_pl a0 ?_
    walk_at "st"
    walk_at "nw"
    intro l H1 N1
    have h1 := N1.at_
    have ha1 := SqT.kp N1.kp ha0
    have k1 : Kp [] H H1 := N0.kp.trans N1.kp
    have fr : H l = none := free0 N0.kp N1.fr
    walk_at "dc"
    walk_at "nw"
    intro pt Ht Nt
    have ht := SqT.of (K := K) Nt.at_
    walk_at "st"
    refine c_inSs (ys := ["write", "splice"]) (.inr ht) ?_
    walk_at "st"
    refine c_iteT (by decide +kernel) ?_
    walk_at "st"
    have hat := SqT.kp Nt.kp ha1
    refine c_slT hat fun pe H2 e2 he => ?_
    have he : SqT K H2 pe ((([(la, ls)]) : List (Addr × List Str)).map fun z => V.ref z.1) := he
    have h2 := e2.at0 (Nt.keep h1)
    have k2 : Kp [] H H2 := (k1.trans Nt.kp).trans e2
    have its : ∀ z ∈ (([(la, ls)]) : List (Addr × List Str)), SqT K H2 z.1 (z.2.map V.str) ∧ LsTx z.2 := fun z hz => by
      simp only [List.mem_cons, List.not_mem_nil, or_false] at hz
      subst hz; exact ⟨SqT.kp k2 hla, hx.2⟩
    walk_at "st"
    refine forQ (itn_t (ys := ([(la, ls)] : List (Addr × List Str))) (u := fun z => V.ref z.1)) (fun i σ H' => ∃ v2 v3, σ = [some (.ref a), some (.ref l), v2, v3] ∧ Kp [l] H2 H' ∧ Kt H2 H' ∧ H' l = some (.lst ([.str (PySem.Str.ofString "(" ++ PySem.Str.ofString "write"), .str (placeS p)] ++ ((([(la, ls)] : List (Addr × List Str)).take i).map fun z => V.str (itemS z.2))))) ⟨_, _, rfl, Kp.refl, Kt.refl, (by simpa using h2)⟩ (by rintro i σ H' ⟨_, _, _, _, e, _⟩; exact SqT.kt e he) ?_ ?_
    · rintro i y σ _ H3 hi ⟨v2, v3, rfl, e3, t3, hl3⟩ ⟨rfl, z, hzi, rfl⟩
      obtain ⟨hz, lt⟩ := its z (List.mem_of_getElem? hzi)
      have hz3 := SqT.kt t3 hz
      have tk : ((([(la, ls)] : List (Addr × List Str)).take (i + 1)).map fun z => V.str (itemS z.2)) = (([(la, ls)] : List (Addr × List Str)).take i).map (fun z => V.str (itemS z.2)) ++ [.str (itemS z.2)] := by rw [take_succ' hzi, List.map_append]; rfl
      walk_at "st"
      refine lcT_map (fun y => .str (quoS y)) (fun _ => true) hz3 (by have := lt.len; omega) (fun y H' R S hy e j1 j2 => ?_) (fun Dl H4 hD k4 hacc => ?_)
      · have yl := (lt.tx y hy).len
        walk_at "st"
        refine ⟨rfl, ?_⟩
        walk_at "st"
        refine c_addS (by rw [sizeLine_eq, show (PySem.Str.ofString "\"").length = 1 from by decide +kernel]; omega) ?_
        walk_at "st"
        refine c_addS (by rw [sizeLine_eq, app_len, show (PySem.Str.ofString "\"").length = 1 from by decide +kernel]; omega) ?_
        exact j1 rfl _ Kp.refl
      rw [List.filter_eq_self.mpr (fun _ _ => rfl)] at hacc
      walk_at "st"
      refine c_joinI (SqL.of (by rw [List.map_map]; exact hacc)) lt ?_
      walk_at "st"
      have il := itemS_len lt
      unfold itemS at il
      rw [app_len, app_len] at il
      refine c_addS (by rw [sizeLine_eq]; omega) ?_
      walk_at "st"
      refine c_addS (by rw [sizeLine_eq, app_len]; omega) ?_
      have hl4 := k4.at0 hl3
      refine ⟨l, _, _, rfl, rfl, hl4, by rw [sizeLine_eq, List.length_append, List.length_map, List.length_take]; simp only [List.length_cons, List.length_nil]; omega, ?_⟩
      walk_at "st"
      refine ⟨_, _, rfl, (e3.trans k4.mono).trans (Kp.mut (by simp)), (t3.trans k4.kt).trans (Kt.upd1 (NoT.lst hl4)), ?_⟩
      rw [tk, ← List.append_assoc]
      exact upd_same
    · rintro σ H3 ⟨v2, v3, rfl, e3, t3, hl3⟩
      have k3 : Kp [] H H3 := Kp.drop_fresh (k2.mono.trans e3) fr
      walk_at "st"
      refine fin k3 hl3 fun z hz ez => ?_
      walk_at "st"
      refine c_addS (by rw [sizeLine_eq, s3]; omega) ?_
      rw [ez]
      exact q _ k3
  | remove p =>
    have ha : SqT K H a _ := ha
    walk_at "dc"
    refine c_addS (by rw [sizeLine_eq]; decide +kernel) ?_
    walk_at "st"
    walk_at "nw"
    intro l0 H0 N0
    have ha0 := SqT.kp N0.kp ha
    have a0 := N0.at_
    walk_at "st"
    refine c_pl a0 ?_
    walk_at "st"
    walk_at "nw"
    intro l H1 N1
    have h1 := N1.at_
    have ha1 := SqT.kp N1.kp ha0
    have k1 : Kp [] H H1 := N0.kp.trans N1.kp
    have fr : H l = none := free0 N0.kp N1.fr
    walk_at "dc"
    walk_at "nw"
    intro pt Ht Nt
    have ht := SqT.of (K := K) Nt.at_
    walk_at "st"
    refine c_inSs (ys := ["write", "splice"]) (.inr ht) ?_
    walk_at "st"
    refine c_iteF (by decide +kernel) ?_
    walk_at "st"
    refine fin (k1.trans Nt.kp) (Nt.keep h1) fun z hz ez => ?_
    walk_at "st"
    refine c_addS (by rw [sizeLine_eq, s3]; omega) ?_
    rw [ez]
    exact q _ (k1.trans Nt.kp)
  | move p u =>
    have ha : SqT K H a _ := ha
    walk_at "dc"
    refine c_addS (by rw [sizeLine_eq]; decide +kernel) ?_
    walk_at "st"
    walk_at "nw"
    intro l0 H0 N0
    have ha0 := SqT.kp N0.kp ha
    have a0 := N0.at_
    walk_at "st"
    refine c_pl a0 ?_
    walk_at "st"
    walk_at "nw"
    intro l H1 N1
    have h1 := N1.at_
    have ha1 := SqT.kp N1.kp ha0
    have k1 : Kp [] H H1 := N0.kp.trans N1.kp
    have fr : H l = none := free0 N0.kp N1.fr
    walk_at "dc"
    have h2 : upd H1 l (.lst ([.str (PySem.Str.ofString "(" ++ PySem.Str.ofString "move"), .str (placeS p)] ++ [.str u])) l = some (.lst ([.str (PySem.Str.ofString "(" ++ PySem.Str.ofString "move"), .str (placeS p)] ++ [.str u])) := upd_same
    have k2 : Kp [] H (upd H1 l (.lst ([.str (PySem.Str.ofString "(" ++ PySem.Str.ofString "move"), .str (placeS p)] ++ [.str u]))) := k1.fresh_mut fr
    have ha2 : SqT K (upd H1 l (.lst ([.str (PySem.Str.ofString "(" ++ PySem.Str.ofString "move"), .str (placeS p)] ++ [.str u]))) a _ := SqT.kp k2 ha
    walk_at "dc"
    walk_at "nw"
    intro pt Ht Nt
    have ht := SqT.of (K := K) Nt.at_
    walk_at "st"
    refine c_inSs (ys := ["write", "splice"]) (.inr ht) ?_
    walk_at "st"
    refine c_iteF (by decide +kernel) ?_
    walk_at "st"
    refine fin (k2.trans Nt.kp) (Nt.keep h2) fun z hz ez => ?_
    walk_at "st"
    refine c_addS (by rw [sizeLine_eq, s3]; omega) ?_
    rw [ez]
    exact q _ (k2.trans Nt.kp)
  | splice p o n =>
    obtain ⟨la, lb, ha, hla, hlb⟩ := ha
    walk_at "dc"
    refine c_addS (by rw [sizeLine_eq]; decide +kernel) ?_
    walk_at "st"
    walk_at "nw"
    intro l0 H0 N0
    have ha0 := SqT.kp N0.kp ha
    have a0 := N0.at_
    walk_at "st"
    refine c_pl a0 ?_
    walk_at "st"
    walk_at "nw"
    intro l H1 N1
    have h1 := N1.at_
    have ha1 := SqT.kp N1.kp ha0
    have k1 : Kp [] H H1 := N0.kp.trans N1.kp
    have fr : H l = none := free0 N0.kp N1.fr
    walk_at "dc"
    walk_at "nw"
    intro pt Ht Nt
    have ht := SqT.of (K := K) Nt.at_
    walk_at "st"
    refine c_inSs (ys := ["write", "splice"]) (.inr ht) ?_
    walk_at "st"
    refine c_iteT (by decide +kernel) ?_
    walk_at "st"
    have hat := SqT.kp Nt.kp ha1
    refine c_slT hat fun pe H2 e2 he => ?_
    have he : SqT K H2 pe ((([(la, o), (lb, n)]) : List (Addr × List Str)).map fun z => V.ref z.1) := he
    have h2 := e2.at0 (Nt.keep h1)
    have k2 : Kp [] H H2 := (k1.trans Nt.kp).trans e2
    have its : ∀ z ∈ (([(la, o), (lb, n)]) : List (Addr × List Str)), SqT K H2 z.1 (z.2.map V.str) ∧ LsTx z.2 := fun z hz => by
      simp only [List.mem_cons, List.not_mem_nil, or_false] at hz
      rcases hz with rfl | rfl
      · exact ⟨SqT.kp k2 hla, hx.2.1⟩
      · exact ⟨SqT.kp k2 hlb, hx.2.2⟩
    walk_at "st"
    refine forQ (itn_t (ys := ([(la, o), (lb, n)] : List (Addr × List Str))) (u := fun z => V.ref z.1)) (fun i σ H' => ∃ v2 v3, σ = [some (.ref a), some (.ref l), v2, v3] ∧ Kp [l] H2 H' ∧ Kt H2 H' ∧ H' l = some (.lst ([.str (PySem.Str.ofString "(" ++ PySem.Str.ofString "splice"), .str (placeS p)] ++ ((([(la, o), (lb, n)] : List (Addr × List Str)).take i).map fun z => V.str (itemS z.2))))) ⟨_, _, rfl, Kp.refl, Kt.refl, (by simpa using h2)⟩ (by rintro i σ H' ⟨_, _, _, _, e, _⟩; exact SqT.kt e he) ?_ ?_
    · rintro i y σ _ H3 hi ⟨v2, v3, rfl, e3, t3, hl3⟩ ⟨rfl, z, hzi, rfl⟩
      obtain ⟨hz, lt⟩ := its z (List.mem_of_getElem? hzi)
      have hz3 := SqT.kt t3 hz
      have tk : ((([(la, o), (lb, n)] : List (Addr × List Str)).take (i + 1)).map fun z => V.str (itemS z.2)) = (([(la, o), (lb, n)] : List (Addr × List Str)).take i).map (fun z => V.str (itemS z.2)) ++ [.str (itemS z.2)] := by rw [take_succ' hzi, List.map_append]; rfl
      walk_at "st"
      refine lcT_map (fun y => .str (quoS y)) (fun _ => true) hz3 (by have := lt.len; omega) (fun y H' R S hy e j1 j2 => ?_) (fun Dl H4 hD k4 hacc => ?_)
      · have yl := (lt.tx y hy).len
        walk_at "st"
        refine ⟨rfl, ?_⟩
        walk_at "st"
        refine c_addS (by rw [sizeLine_eq, show (PySem.Str.ofString "\"").length = 1 from by decide +kernel]; omega) ?_
        walk_at "st"
        refine c_addS (by rw [sizeLine_eq, app_len, show (PySem.Str.ofString "\"").length = 1 from by decide +kernel]; omega) ?_
        exact j1 rfl _ Kp.refl
      rw [List.filter_eq_self.mpr (fun _ _ => rfl)] at hacc
      walk_at "st"
      refine c_joinI (SqL.of (by rw [List.map_map]; exact hacc)) lt ?_
      walk_at "st"
      have il := itemS_len lt
      unfold itemS at il
      rw [app_len, app_len] at il
      refine c_addS (by rw [sizeLine_eq]; omega) ?_
      walk_at "st"
      refine c_addS (by rw [sizeLine_eq, app_len]; omega) ?_
      have hl4 := k4.at0 hl3
      refine ⟨l, _, _, rfl, rfl, hl4, by rw [sizeLine_eq, List.length_append, List.length_map, List.length_take]; simp only [List.length_cons, List.length_nil]; omega, ?_⟩
      walk_at "st"
      refine ⟨_, _, rfl, (e3.trans k4.mono).trans (Kp.mut (by simp)), (t3.trans k4.kt).trans (Kt.upd1 (NoT.lst hl4)), ?_⟩
      rw [tk, ← List.append_assoc]
      exact upd_same
    · rintro σ H3 ⟨v2, v3, rfl, e3, t3, hl3⟩
      have k3 : Kp [] H H3 := Kp.drop_fresh (k2.mono.trans e3) fr
      walk_at "st"
      refine fin k3 hl3 fun z hz ez => ?_
      walk_at "st"
      refine c_addS (by rw [sizeLine_eq, s3]; omega) ?_
      rw [ez]
      exact q _ k3
theorem D__law_said (T : TX K mg) : DefAt P w K mg base CX0 "_law_said" 2 ["_law_action_here"] (spSaid K) :=
  def_of T 53 90 sc__law_said bn__law_said (by walk_at "len") (b__law_said T)
end
end K45



namespace K45
open PySem L2 Sa
local macro_rules | `(tactic| walk_at "s1") => `(tactic| first | (with_reducible apply c_dgetK))
local macro_rules | `(tactic| walk_at "s1") => `(tactic| (with_reducible apply c_raiseO))
local macro_rules | `(tactic| walk_at "s1") => `(tactic| first | (with_reducible apply c_dgetK))
local macro_rules | `(tactic| walk_at "s1") => `(tactic| (with_reducible apply c_raiseO))
local macro_rules | `(tactic| walk_at "s1") => `(tactic| first | (with_reducible apply c_un) | (with_reducible apply c_negI))
set_option pp.maxSteps 1500
def LRecAt (K : PySem.W.Frag) (H : Hp) (a : Addr) : Rec → Prop
  | .epoch => SqT K H a [.str "epoch"]
  | .first fs => ∃ (t : Addr) (rs : List RowA), SqT K H a [.str "first", .ref t] ∧ SqT K H t (rs.map fun r : RowA => V.ref r.1) ∧ rs.map (fun r => r.2.2) = fs ∧ ∀ r ∈ rs, RowOk K H r
  | .accept d s n acts => ∃ p xs, SqT K H a [.str "accept", .int d, .int s, .str n, .ref p] ∧ SqT K H p xs ∧ DtAll K H xs (acts.map Action.d)
theorem LRecAt.kt {K : PySem.W.Frag} {H H' : Hp} {a : Addr} : ∀ {r : Rec}, Kt H H' → LRecAt K H a r → LRecAt K H' a r
  | .epoch, k, h => SqT.kt k h
  | .first _, k, ⟨t, rs, h1, h2, h3, h4⟩ => ⟨t, rs, SqT.kt k h1, SqT.kt k h2, h3, fun r hr => ⟨SqT.kt k (h4 r hr).1, SqT.kt k (h4 r hr).2⟩⟩
  | .accept _ _ _ _, k, ⟨p, xs, h1, h2, h3⟩ => ⟨p, xs, SqT.kt k h1, SqT.kt k h2, DtAll.kt k h3⟩
theorem LRecAt.kp {K : PySem.W.Frag} {H H' : Hp} {a : Addr} {r : Rec} (k : Kp [] H H') (h : LRecAt K H a r) : LRecAt K H' a r := h.kt k.kt
section
variable {P : Program} {w : World} {K : PySem.W.Frag} {mg : Str → Option Value} {base : Heap}
def spRecText (K : PySem.W.Frag) : Sp := fun vs H Q _ => ∃ (a : Addr) (r : Rec), vs = [.ref a] ∧ LRecAt K H a r ∧ RecOk r ∧ ∀ H', Kp [] H H' → Q (.str (recT r)) H'
theorem sc__law_record_text : FnScope ["_law_record_here", "_law_head", "_law_action_here", "_law_path_here", "_law_lines_here"] ["_law_record_here"] (defScope s__law_record_text) := ⟨rfl, rfl, rfl, by decide +kernel, rfl, by decide +kernel, by decide +kernel⟩
theorem bn__law_record_text : BindN "_law_record_text" s__law_record_text ["_law_record_here"] := fun _ _ _ _ _ _ us hl => match us, hl with | [_], _ => rfl
theorem b__law_record_text (T : TX K mg) : Body P w K mg base "_law_record_text" s__law_record_text ["_law_record_here", "_law_head", "_law_action_here", "_law_path_here", "_law_lines_here"] 2 (spRecText K) := by
  intro cdv A outer s H vs Q E h X hr
  obtain ⟨a, r, rfl, ha, ho, q⟩ := h
  have D__law_said := D__law_said (P := P) (w := w) (base := base) T
  refine ⟨_, (pss_cons (ps_if (pt_cmpR (op_eqU (K := K) hr.units) (pe_ix (ix_U (K := K)) (pv 0) pe_int (fun _ _ => rfl)) pe_str (nomark _)) (pss_one (ps_ret pe_str)) pss_nil) (pss_cons (ps_if (pt_cmpR (op_eqU (K := K) hr.units) (pe_ix (ix_U (K := K)) (pv 0) pe_int (fun _ _ => rfl)) pe_str (nomark _)) (pss_one (ps_ret (pe_op (op_addU (K := K)) pe_str (pe_joinU (K := K) pe_str (pe_lc (own := [("_law_path_here", 3), ("_law_lines_here", 4)]) rfl sc__law_record_text.nd (pi_tupU (K := K) (pe_ix (ix_U (K := K)) (pv 0) pe_int (fun _ _ => rfl))) (blkOk_by (N := ["_law_record_here", "_law_head", "_law_action_here", "_law_path_here", "_law_lines_here"]) (sc := defScope s__law_record_text) (by decide +kernel)) (fun _ _ _ _ _ => (pg_tupU (K := K) (n := 2) rfl (pgs_cons (pg_name (i := 3) sc__law_record_text.nd rfl (Or.inl rfl)) (pgs_cons (pg_name (i := 4) sc__law_record_text.nd rfl (Or.inl rfl)) pgs_nil)))) (fun _ _ _ _ _ => pts_nil) (fun _ _ _ _ _ => (pe_callA D__law_said hr pass0 (pa_cons (pe_tup (pa_cons pe_str (pa_cons (pv 3) (pa_cons (pv 4) pa_nil)))) pa_nil)))))))) pss_nil) (pss_cons (ps_set (i := 1) sc__law_record_text.nd rfl (Or.inl rfl) (pe_op (op_addU (K := K)) (pe_op (op_addU (K := K)) (pe_op (op_addU (K := K)) (pe_op (op_addU (K := K)) (pe_op (op_addU (K := K)) (pe_op (op_addU (K := K)) pe_str (pe_callTy call_str_int rfl (T.free 91) (by decide +kernel) (pa_cons (pe_ix (ix_U (K := K)) (pv 0) pe_int (fun _ _ => rfl)) pa_nil))) pe_str) (pe_callTy call_str_int rfl (T.free 91) (by decide +kernel) (pa_cons (pe_ix (ix_U (K := K)) (pv 0) pe_int (fun _ _ => rfl)) pa_nil))) pe_str) (pe_ix (ix_U (K := K)) (pv 0) pe_int (fun _ _ => rfl))) pe_str)) (pss_one (ps_ret (pe_op (op_addU (K := K)) (pv 1) (pe_joinU (K := K) pe_str (pe_lc (own := [("_law_action_here", 2)]) rfl sc__law_record_text.nd (pi_tupU (K := K) (pe_ix (ix_U (K := K)) (pv 0) pe_int (fun _ _ => rfl))) (blkOk_by (N := ["_law_record_here", "_law_head", "_law_action_here", "_law_path_here", "_law_lines_here"]) (sc := defScope s__law_record_text) (by decide +kernel)) (fun _ _ _ _ _ => (pg_name (i := 2) sc__law_record_text.nd rfl (Or.inl rfl))) (fun _ _ _ _ _ => pts_nil) (fun _ _ _ _ _ => (pe_callA D__law_said hr pass0 (pa_cons (pv 2) pa_nil))))))))))), ?_⟩
  obtain ⟨al, fl, sl, nl0, zl⟩ := acc_len
  cases r with
  | epoch =>
    have ha : SqT K H a _ := ha
    walk_at "dc"
    exact q H Kp.refl
  | first fs =>
    obtain ⟨t, rs, ha, ht, ers, hrs⟩ := ha
    have G := ho.fs fs rfl
    have gl := G.len
    have rl : rs.length = fs.length := by rw [← ers, List.length_map]
    walk_at "dc"
    refine lcT_map (u := fun r : RowA => V.ref r.1) (fun r => .str (wrA (.write r.2.2.1 r.2.2.2))) (fun _ => true) ht (by omega) (fun r H' R S hr e j1 j2 => ?_) (fun Dl H1 hD k1 hacc => ?_)
    · have g1 := SqT.kp e (hrs r hr).1
      have g2 := SqT.kp e (hrs r hr).2
      have hf : r.2.2 ∈ fs := by rw [← ers]; exact List.mem_map_of_mem hr
      walk_at "st"
      refine ⟨rfl, ?_⟩
      walk_at "st"
      walk_at "nw"
      intro q4 H4 N4
      walk_at "st"
      exact ⟨q4, .write r.2.2.1 r.2.2.2, rfl, ⟨_, SqT.of N4.at_, SqT.kp N4.kp g2⟩, by simp [Action.bad, G.path _ hf, G.lines _ hf], fun H5 k5 => j1 rfl _ (N4.kp.trans k5)⟩
    rw [List.filter_eq_self.mpr (fun _ _ => rfl)] at hacc
    have hb := writes_bad G
    have wl : (writesOf fs).length = fs.length := by unfold writesOf; rw [List.length_map]
    have sm := acts_small hb
    have e2 : (rs.map fun r => V.str (wrA (.write r.2.2.1 r.2.2.2))) = ((writesOf fs).map wrA).map V.str := by
      rw [← ers]
      unfold writesOf
      simp only [List.map_map]
      rfl
    rw [e2] at hacc
    walk_at "st"
    refine c_join (ys := (writesOf fs).map wrA) (SqL.of hacc) (by rw [show (PySem.Str.ofString "").length = 0 from by decide +kernel]; omega) ?_
    have wn := wrAs_len hb
    refine c_addS (by show _ + (wrAs (writesOf fs)).length ≤ _; rw [sizeLine_eq, show (PySem.Str.ofString "first\n").length = 6 from by decide +kernel]; omega) ?_
    have e3 : recT (.first fs) = PySem.Str.ofString "first\n" ++ wrAs (writesOf fs) := by
      show PySem.Str.ofString "first" ++ PySem.Str.ofString "\n" ++ wrAs (writesOf fs) = _
      rw [show PySem.Str.ofString "first" ++ PySem.Str.ofString "\n" = PySem.Str.ofString "first\n" by decide +kernel]
    have := q H1 k1
    rw [e3] at this
    exact this
  | accept d s n acts =>
    obtain ⟨p, xs, ha, hp, hd⟩ := ha
    obtain ⟨d0, d1, s0, s1, nl, hb, hn⟩ := ho.ac d s n acts rfl
    have hdl := num_len d0 d1
    have hsl := num_len s0 s1
    have hal : (PySem.Str.ofString "accept ").length = 7 := by decide +kernel
    have hn : (PySem.Str.ofString "accept ") = PySem.Str.ofString "accept" ++ PySem.Str.ofString " " := by decide +kernel
    walk_at "dc"
    refine ⟨d, rfl, num_small d0 d1, ?_⟩
    refine c_addS (by rw [hal, sizeLine_eq]; omega) ?_
    walk_at "st"
    refine c_addS (by simp only [app_len, hal, sl, sizeLine_eq]; omega) ?_
    walk_at "st"
    refine ⟨s, rfl, num_small s0 s1, ?_⟩
    refine c_addS (by simp only [app_len, hal, sl, sizeLine_eq]; omega) ?_
    walk_at "st"
    refine c_addS (by simp only [app_len, hal, sl, sizeLine_eq]; omega) ?_
    walk_at "st"
    refine c_addS (by simp only [app_len, hal, sl, sizeLine_eq]; omega) ?_
    walk_at "st"
    refine c_addS (by simp only [app_len, hal, sl, nl0, sizeLine_eq]; omega) ?_
    have em : (xs.zip acts).map Prod.fst = xs := List.map_fst_zip (by rw [dta_len hd, List.length_map]; omega)
    have em2 : (xs.zip acts).map Prod.snd = acts := List.map_snd_zip (by rw [dta_len hd, List.length_map]; omega)
    have hp' : SqT K H p ((xs.zip acts).map fun z => z.1) := by rw [show ((xs.zip acts).map fun z => z.1) = xs from em]; exact hp
    walk_at "st"
    refine lcT_map (u := fun z : V × Action => z.1) (fun z => .str (wrA z.2)) (fun _ => true) hp' (by rw [List.length_zip]; omega) (fun z H' R S hz e j1 j2 => ?_) (fun Dl H1 hD k1 hacc => ?_)
    · obtain ⟨c, ec, hc⟩ := ActAt.of (zip_dt hd z hz)
      walk_at "st"
      refine ⟨rfl, ?_⟩
      rw [ec]
      walk_at "st"
      exact ⟨c, z.2, rfl, hc.kp e, hb _ (by rw [← em2]; exact List.mem_map_of_mem hz), fun H4 e4 => j1 rfl _ e4⟩
    rw [List.filter_eq_self.mpr (fun _ _ => rfl)] at hacc
    have e3 : ((xs.zip acts).map fun z => V.str (wrA z.2)) = (acts.map wrA).map V.str := by
      rw [show ((xs.zip acts).map fun z => V.str (wrA z.2)) = (((xs.zip acts).map Prod.snd).map wrA).map V.str from by rw [List.map_map, List.map_map]; rfl, em2]
    rw [e3] at hacc
    have sm := acts_small hb
    have wn := wrAs_len hb
    walk_at "st"
    refine c_join (ys := acts.map wrA) (SqL.of hacc) (by rw [show (PySem.Str.ofString "").length = 0 from by decide +kernel]; omega) ?_
    refine c_addS (by show _ + (wrAs acts).length ≤ _; simp only [app_len, hal, sl, nl0, sizeLine_eq]; omega) ?_
    have := q H1 k1
    have e4 : recT (.accept d s n acts) = PySem.Str.ofString "accept " ++ PySem.Str.ofString (toString d) ++ PySem.Str.ofString " " ++ PySem.Str.ofString (toString s) ++ PySem.Str.ofString " " ++ n ++ PySem.Str.ofString "\n" ++ wrAs acts := by
      show recHead d s n ++ wrAs acts = _
      unfold recHead
      rw [hn]
    rw [e4] at this
    exact this
theorem D__law_record_text (T : TX K mg) : DefAt P w K mg base CX0 "_law_record_text" 3 ["_law_record_here"] (spRecText K) :=
  def_of T 54 92 sc__law_record_text bn__law_record_text (by walk_at "len") (b__law_record_text T)
end
end K45



namespace K45
open PySem L2 Sa
local macro_rules | `(tactic| walk_at "s1") => `(tactic| first | (with_reducible apply c_dgetK))
local macro_rules | `(tactic| walk_at "s1") => `(tactic| (with_reducible apply c_raiseO))
local macro_rules | `(tactic| walk_at "s1") => `(tactic| first | (with_reducible apply c_dgetK))
local macro_rules | `(tactic| walk_at "s1") => `(tactic| (with_reducible apply c_raiseO))
local macro_rules | `(tactic| walk_at "s1") => `(tactic| first | (with_reducible apply c_un) | (with_reducible apply c_negI))
set_option pp.maxSteps 1500
section
variable {α : Type} {g : TG} {tt : TT} {te : TE} {vs : List Nat} {σ : St} {Q : VK} {H : Hp} {b d : Addr} {lo : Int} {n : Nat}
theorem lcR_drawK (f : α → V) (Pa : α → Hp → Prop) (hK : ∀ x H H', Kt H H' → Pa x H → Pa x H') (B : Bx H b d) (hz : n ≤ 16777216)
    (hs : ∀ i H' R S, i < n → Kp [b] H H' → Bx H' b d → (∀ x H4, Pa x H4 → Kp [b] H' H4 → Bx H4 b d → R (f x) H4) → LcM g tt te vs σ R S (.int (lo + (i : Nat))) H')
    (hd : ∀ Dl H' (as : List α), H Dl = none → as.length = n → (∀ x ∈ as, Pa x H') → Kp [b] H H' → Bx H' b d → H' Dl = some (.lst (as.map f)) → Q (.ref Dl) H') : LcJ (Itr lo n) g tt te vs σ H Q := by
  refine lcR (fun Dl i acc H' => Kp [b] H H' ∧ Bx H' b d ∧ ∃ as : List α, acc = as.map f ∧ as.length = i ∧ ∀ x ∈ as, Pa x H') (fun Dl hD => ⟨Kp.new hD, B.new hD, [], rfl, rfl, by simp⟩) ?_ ?_
  · rintro Dl i acc H' hD hi hacc hl ⟨e, B1, as, rfl, hlen, hP⟩
    have nD := B.ne_new hD
    refine hs i H' _ _ hi e B1 (fun x H4 hx e4 B4 => ?_)
    have hacc4 := e4.at1 nD.1 hacc
    have kt : Kt H4 (upd H4 Dl (.lst (as.map f ++ [f x]))) := Kt.upd1 (NoT.lst hacc4)
    refine lc_push hacc4 hl (by omega) ⟨(e.trans e4).fresh_mut hD, B4.other nD.1 nD.2, as ++ [x], by rw [List.map_append]; rfl, by rw [List.length_append, hlen]; rfl, fun y hy => ?_⟩
    rcases List.mem_append.mp hy with h | h
    · exact hK y _ _ ((B1.kt e4).trans kt) (hP y h)
    · rw [List.mem_singleton.mp h]; exact hK x _ _ kt hx
  · rintro Dl acc H' hD hacc hl ⟨e, B1, as, rfl, hlen, hP⟩
    exact hd Dl H' as hD hlen hP e B1 hacc
end
theorem acts_dt {K : PySem.W.Frag} {H : Hp} : ∀ {as : List (Addr × Action)}, (∀ x ∈ as, ActAt K H x.1 x.2) → DtAll K H (as.map fun x => V.ref x.1) ((as.map Prod.snd).map Action.d)
  | [], _ => .nil
  | x :: r, h => .cons (h x (List.mem_cons_self ..)).dt (acts_dt fun y hy => h y (List.mem_cons_of_mem _ hy))
section
variable {P : Program} {w : World} {K : PySem.W.Frag} {mg : Str → Option Value} {base : Heap}
def spLRec (K : PySem.W.Frag) : Sp := fun vs H Q _ => ∃ (b d : Addr), vs = [.ref b] ∧ Bx H b d ∧ ∀ a r H', RecGd r → LRecAt K H' a r → Kp [b] H H' → Bx H' b d → Q (.ref a) H'
theorem sc__law_accept : FnScope ["_law_box", "_law_serial", "_law_actions", "_law_k"] ["_law_box"] (defScope s__law_accept) := ⟨rfl, rfl, rfl, by decide +kernel, rfl, by decide +kernel, by decide +kernel⟩
theorem bn__law_accept : BindN "_law_accept" s__law_accept ["_law_box"] := fun _ _ _ _ _ _ us hl => match us, hl with | [_], _ => rfl
theorem b__law_accept (T : TX K mg) : Body P w K mg base "_law_accept" s__law_accept ["_law_box", "_law_serial", "_law_actions", "_law_k"] 5 (spLRec K) := by
  intro cdv A outer s H vs Q E h X hr
  obtain ⟨b, d, rfl, B, q⟩ := h
  have D__law_action := D__law_action (P := P) (w := w) (base := base) T; have D__law_draw := D__law_draw (P := P) (w := w) (base := base) T
  refine ⟨_, (pss_cons (ps_set (i := 1) sc__law_accept.nd rfl (Or.inl rfl) (pe_ix (ix_U (K := K)) (pe_lst (pa_cons pe_int (pa_cons pe_int (pa_cons (pe_callA D__law_draw hr pass0 (pa_cons (pv 0) (pa_cons pe_int pa_nil))) pa_nil)))) (pe_callA D__law_draw hr pass0 (pa_cons (pv 0) (pa_cons pe_int pa_nil))) (fun _ _ => rfl))) (pss_cons (ps_set (i := 2) sc__law_accept.nd rfl (Or.inl rfl) (pe_callTy (cr_tuple (K := K)) rfl (T.free 28) (by decide +kernel) (pa_cons (pe_lc (own := [("_law_k", 3)]) rfl sc__law_accept.nd (pi_range1 rfl (T.free 27) (pa_cons (pe_callA D__law_draw hr pass0 (pa_cons (pv 0) (pa_cons pe_int pa_nil))) pa_nil)) (blkOk_by (N := ["_law_box", "_law_serial", "_law_actions", "_law_k"]) (sc := defScope s__law_accept) (by decide +kernel)) (fun _ _ _ _ _ => (pg_name (i := 3) sc__law_accept.nd rfl (Or.inl rfl))) (fun _ _ _ _ _ => pts_nil) (fun _ _ _ _ _ => (pe_callA D__law_action hr pass0 (pa_cons (pv 0) pa_nil)))) pa_nil))) (pss_one (ps_ret (pe_tup (pa_cons pe_str (pa_cons (pe_callA D__law_draw hr pass0 (pa_cons (pv 0) (pa_cons pe_int pa_nil))) (pa_cons (pv 1) (pa_cons (pe_ix (ix_U (K := K)) (pe_lst (pa_cons pe_str (pa_cons pe_str (pa_cons pe_str pa_nil)))) (pe_callA D__law_draw hr pass0 (pa_cons (pv 0) (pa_cons pe_int pa_nil))) (fun _ _ => rfl)) (pa_cons (pv 2) pa_nil)))))))))), ?_⟩
  walk_at "st"
  refine ⟨b, d, 1000, rfl, B, by decide, fun m H1 m0 m1 e1 B1 => ?_⟩
  walk_at "st"
  walk_at "nw"
  intro l1 H2 N2
  have B2 := B1.nw N2
  walk_at "st"
  refine ⟨b, d, 3, rfl, B2, by decide, fun i H3 i0 i1 e3 B3 => ?_⟩
  walk_at "st"
  refine c_pickM [(0 : Int), 9999, m] (B1.pick N2 e3) i0 i1 fun s hs => ?_
  have hs2 : 0 ≤ s ∧ s ≤ 9999 := by
    simp only [List.mem_cons, List.not_mem_nil, or_false] at hs
    rcases hs with rfl | rfl | rfl <;> omega
  walk_at "st"
  refine ⟨b, d, 5, rfl, B3, by decide, fun n H4 n0 n1 e4 B4 => ?_⟩
  walk_at "st"
  refine lcR_drawK (fun x : Addr × Action => V.ref x.1) (fun x H => ActAt K H x.1 x.2 ∧ x.2.bad = none) (fun x H H' k h => ⟨actAt_kt k h.1, h.2⟩) B4 (by omega) (fun i H' R S hi e B3 k => ?_) (fun D H5 as hD hlen hP e5 B5 hacc => ?_)
  · walk_at "st"
    refine ⟨rfl, ?_⟩
    walk_at "st"
    exact ⟨b, d, rfl, B3, fun c x H4 hb _ e4 B4 ha => k (c, x) H4 ⟨ha, hb⟩ e4 B4⟩
  walk_at "st"
  refine c_tupleL (SqL.of hacc) fun p6 H6 N6 => ?_
  have B6 := B5.nw N6
  walk_at "st"
  refine ⟨b, d, 3, rfl, B6, by decide, fun dk H7 dk0 dk1 e7 B7 => ?_⟩
  walk_at "st"
  walk_at "nw"
  intro l8 H8 N8
  have B8 := B7.nw N8
  walk_at "st"
  refine ⟨b, d, 3, rfl, B8, by decide, fun j H9 j0 j1 e9 B9 => ?_⟩
  walk_at "st"
  refine c_pickM (u := V.str) ["a", "job1", "12345678"] (B7.pick N8 e9) j0 j1 fun nm hnm => ?_
  have hn : isNameS nm = true := (by decide +kernel : ∀ z ∈ ([PySem.Str.ofString "a", "job1", "12345678"] : List Str), isNameS z = true) nm hnm
  walk_at "st"
  walk_at "nw"
  intro p10 H10 N10
  have t69 : Kt H6 H10 := ((B6.kt e7).trans N8.kp.kt).trans ((B8.kt e9).trans N10.kp.kt)
  refine q p10 (.accept dk s nm (as.map Prod.snd)) H10 ⟨dk0, by omega, hs2.1, hs2.2, hn, fun x hx => by obtain ⟨y, hy, rfl⟩ := List.mem_map.mp hx; exact (hP y hy).2, by rw [List.length_map]; omega⟩ ⟨p6, as.map fun x => V.ref x.1, SqT.of N10.at_, SqT.kt t69 (SqT.of N6.at_), DtAll.kt (N6.kp.kt.trans t69) (acts_dt fun x hx => (hP x hx).1)⟩ ?_ (B9.nw N10)
  exact ((((((e1.trans N2.kp).trans e3).trans e4).trans e5).trans N6.kp).trans e7).trans ((N8.kp.trans e9).trans N10.kp)
theorem D__law_accept (T : TX K mg) : DefAt P w K mg base CX0 "_law_accept" 6 ["_law_box"] (spLRec K) :=
  def_of T 55 93 sc__law_accept bn__law_accept (by walk_at "len") (b__law_accept T)
theorem sc__law_record : FnScope ["_law_box", "_law_kind"] ["_law_box"] (defScope s__law_record) := ⟨rfl, rfl, rfl, by decide +kernel, rfl, by decide +kernel, by decide +kernel⟩
theorem bn__law_record : BindN "_law_record" s__law_record ["_law_box"] := fun _ _ _ _ _ _ us hl => match us, hl with | [_], _ => rfl
theorem b__law_record (T : TX K mg) : Body P w K mg base "_law_record" s__law_record ["_law_box", "_law_kind"] 6 (spLRec K) := by
  intro cdv A outer s H vs Q E h X hr
  obtain ⟨b, d, rfl, B, q⟩ := h
  have D__law_accept := D__law_accept (P := P) (w := w) (base := base) T; have D__law_draw := D__law_draw (P := P) (w := w) (base := base) T; have D__law_files := D__law_files (P := P) (w := w) (base := base) T; have D__law_table := D__law_table (P := P) (w := w) (base := base) T
  refine ⟨_, (pss_cons (ps_set (i := 1) sc__law_record.nd rfl (Or.inl rfl) (pe_callA D__law_draw hr pass0 (pa_cons (pv 0) (pa_cons pe_int pa_nil)))) (pss_cons (ps_if (pt_cmpR (op_eqU (K := K) hr.units) (pv 1) pe_int (nomark _)) (pss_one (ps_ret (pe_tup (pa_cons pe_str pa_nil)))) pss_nil) (pss_cons (ps_if (pt_cmpR (op_eqU (K := K) hr.units) (pv 1) pe_int (nomark _)) (pss_one (ps_ret (pe_tup (pa_cons pe_str (pa_cons (pe_callA D__law_files hr pass0 (pa_cons (pe_callA D__law_table hr pass0 (pa_cons (pv 0) (pa_cons pe_int pa_nil))) pa_nil)) pa_nil))))) pss_nil) (pss_one (ps_ret (pe_callA D__law_accept hr pass0 (pa_cons (pv 0) pa_nil))))))), ?_⟩
  walk_at "st"
  refine ⟨b, d, 5, rfl, B, by decide, fun m H1 m0 m1 e1 B1 => ?_⟩
  walk_at "st"
  refine c_ite (fun h1 => ?_) (fun h1 => ?_)
  · walk_at "st"
    walk_at "nw"
    intro p2 H2 N2
    exact q p2 .epoch H2 trivial (SqT.of N2.at_) (e1.trans N2.kp) (B1.nw N2)
  walk_at "st"
  refine c_ite (fun h2 => ?_) (fun h2 => ?_)
  · walk_at "st"
    refine ⟨b, d, 8, rfl, B1, by decide, by decide, fun f fs H2 G hl F e2 B2 => ?_⟩
    walk_at "st"
    refine ⟨f, fs, rfl, F, G.once, by omega, fun p3 H3 rs e3 hp hrs hok => ?_⟩
    walk_at "st"
    walk_at "nw"
    intro p4 H4 N4
    refine q p4 (.first (sortF fs)) H4 ⟨G.sort, sortF_of_asc G.sort.once (sortF_asc fs), by rw [sortF_len]; omega⟩ ⟨p3, rs, SqT.of N4.at_, SqT.kp N4.kp hp, hrs, fun r hr => ⟨SqT.kp N4.kp (hok r hr).1, SqT.kp N4.kp (hok r hr).2⟩⟩ ((e1.trans e2).trans ((e3.trans N4.kp).mono)) ((B2.kp0 e3).nw N4)
  · walk_at "st"
    exact ⟨b, d, rfl, B1, fun a r H2 hr ha e2 B2 => q a r H2 hr ha (e1.trans e2) B2⟩
theorem D__law_record (T : TX K mg) : DefAt P w K mg base CX0 "_law_record" 7 ["_law_box"] (spLRec K) :=
  def_of T 56 94 sc__law_record bn__law_record (by walk_at "len") (b__law_record T)
end
end K45



namespace K45
open PySem L2 Sa
local macro_rules | `(tactic| walk_at "s1") => `(tactic| first | (with_reducible apply c_dgetK))
local macro_rules | `(tactic| walk_at "s1") => `(tactic| (with_reducible apply c_raiseO))
local macro_rules | `(tactic| walk_at "s1") => `(tactic| first | (with_reducible apply c_dgetK))
local macro_rules | `(tactic| walk_at "s1") => `(tactic| (with_reducible apply c_raiseO))
local macro_rules | `(tactic| walk_at "s1") => `(tactic| first | (with_reducible apply c_un) | (with_reducible apply c_negI))
set_option pp.maxSteps 1500
section
variable {P : Program} {w : World} {K : PySem.W.Frag} {mg : Str → Option Value} {base : Heap}
def spLPlain (K : PySem.W.Frag) : Sp := fun vs H Q _ => ∃ v : V, vs = [v] ∧ ((v = .non ∧ ∀ H', Kp [] H H' → Q .non H') ∨ ∃ (a : Addr) (r : Rec), v = .ref a ∧ RecAt K H a r ∧ RecOk r ∧ ∀ p H', Kp [] H H' → LRecAt K H' p r → Q (.ref p) H')
theorem sc__law_plain : FnScope ["_law_told_here"] ["_law_told_here"] (defScope s__law_plain) := ⟨rfl, rfl, rfl, by decide +kernel, rfl, by decide +kernel, by decide +kernel⟩
theorem bn__law_plain : BindN "_law_plain" s__law_plain ["_law_told_here"] := fun _ _ _ _ _ _ us hl => match us, hl with | [_], _ => rfl
theorem b__law_plain (T : TX K mg) : Body P w K mg base "_law_plain" s__law_plain ["_law_told_here"] 2 (spLPlain K) := by
  intro cdv A outer s H vs Q E h X hr
  obtain ⟨v, rfl, h⟩ := h
  have C_Tree := C_Tree T; have M_Tree_files := M_Tree_files (P := P) (w := w) (base := base) T
  refine ⟨_, (pss_cons (ps_if (PW.pt (pw_or (pt_cmpR op_isU (pv 0) pe_non (nomark _)) (pw_or1 (pt_cmpR (op_neU (K := K) hr.units) (pe_ix (ix_U (K := K)) (pv 0) pe_int (fun _ _ => rfl)) pe_str (nomark _))))) (pss_one (ps_ret (pv 0))) pss_nil) (pss_one (ps_ret (pe_tup (pa_cons pe_str (pa_cons (pe_methS0 M_Tree_files C_Tree hr at0 (pe_ix (ix_U (K := K)) (pv 0) pe_int (fun _ _ => rfl))) pa_nil)))))), ?_⟩
  rcases h with ⟨rfl, q⟩ | ⟨a, r, rfl, ha, ho, q⟩
  · walk_at "dc"
    exact q H Kp.refl
  · walk_at "st"
    refine c_iteF (decide_eq_false (by intro z; cases z)) ?_
    cases r with
    | epoch =>
      have ha : SqT K H a _ := ha
      walk_at "dc"
      exact q a H Kp.refl ha
    | first fs =>
      obtain ⟨t, ha, ht⟩ := ha
      have gl := (ho.fs fs rfl).len
      walk_at "dc"
      refine c_recvT ht rfl ?_
      walk_at "st"
      refine ⟨t, fs, rfl, ht.at_, by omega, fun p H1 rs k1 hp ers hrs => ?_⟩
      walk_at "st"
      walk_at "nw"
      intro p4 H4 N4
      exact q p4 H4 (k1.trans N4.kp) ⟨p, rs, SqT.of N4.at_, SqT.kp N4.kp hp, ers, fun r hr => ⟨SqT.kp N4.kp (hrs r hr).1, SqT.kp N4.kp (hrs r hr).2⟩⟩
    | accept d s n acts =>
      obtain ⟨p, xs, ha, hp, hd⟩ := ha
      walk_at "dc"
      exact q a H Kp.refl ⟨p, xs, ha, hp, hd⟩
theorem D__law_plain (T : TX K mg) : DefAt P w K mg base CX0 "_law_plain" 3 ["_law_told_here"] (spLPlain K) :=
  def_of T 57 95 sc__law_plain bn__law_plain (by walk_at "len") (b__law_plain T)
def spLWritten (K : PySem.W.Frag) : Sp := fun vs H Q _ => ∃ (a : Addr) (r : Rec), vs = [.ref a] ∧ LRecAt K H a r ∧ RecGd r ∧ ∀ H', Kp [] H H' → Q (.str (recT r)) H'
theorem sc__law_written : FnScope ["_law_record_here"] ["_law_record_here"] (defScope s__law_written) := ⟨rfl, rfl, rfl, by decide +kernel, rfl, by decide +kernel, by decide +kernel⟩
theorem bn__law_written : BindN "_law_written" s__law_written ["_law_record_here"] := fun _ _ _ _ _ _ us hl => match us, hl with | [_], _ => rfl
theorem b__law_written (T : TX K mg) : Body P w K mg base "_law_written" s__law_written ["_law_record_here"] 7 (spLWritten K) := by
  intro cdv A outer s H vs Q E h X hr
  obtain ⟨a, r, rfl, ha, hg, q⟩ := h
  have C_Tree := C_Tree T; have D_write_record := D_write_record (P := P) (w := w) (base := base) T; have M_Tree___init__ := M_Tree___init__ (P := P) (w := w) (base := base) T; have Mk_Tree := Mk_Tree T
  refine ⟨_, (pss_cons (ps_if (pt_cmpR (op_eqU (K := K) hr.units) (pe_ix (ix_U (K := K)) (pv 0) pe_int (fun _ _ => rfl)) pe_str (nomark _)) (pss_one (ps_ret (pe_callA D_write_record hr pass0 (pa_cons (pe_tup (pa_cons pe_str (pa_cons (pe_newS M_Tree___init__ Mk_Tree C_Tree hr atE (pa_cons (pe_ix (ix_U (K := K)) (pv 0) pe_int (fun _ _ => rfl)) pa_nil)) pa_nil))) pa_nil)))) pss_nil) (pss_one (ps_ret (pe_callA D_write_record hr pass0 (pa_cons (pv 0) pa_nil))))), ?_⟩
  have ho := hg.ok
  cases r with
  | epoch =>
    have ha : SqT K H a _ := ha
    walk_at "dc"
    exact ⟨a, .epoch, rfl, ha, ho, fun H1 k1 => q H1 k1⟩
  | first fs =>
    obtain ⟨t, rs, ha, ht, ers, hrs⟩ := ha
    obtain ⟨G, hs, hl⟩ := hg
    walk_at "dc"
    refine c_newTree ⟨rs, .inr ht, ers, hrs⟩ (good_sane (goodF_iff.mpr G)) (fun _ x H1 k1 hx => ?_) (fun g => noE (K := K) G g)
    have hx := newT hx G
    rw [hs] at hx
    walk_at "st"
    walk_at "nw"
    intro p2 H2 N2
    walk_at "st"
    exact ⟨p2, .first fs, rfl, ⟨x, SqT.of N2.at_, hx.kp N2.kp⟩, ho, fun H3 k3 => q H3 ((k1.trans N2.kp).trans k3)⟩
  | accept d s n acts =>
    obtain ⟨p, xs, ha, hp, hd⟩ := ha
    walk_at "dc"
    exact ⟨a, .accept d s n acts, rfl, ⟨p, xs, ha, hp, hd⟩, ho, fun H1 k1 => q H1 k1⟩
theorem D__law_written (T : TX K mg) : DefAt P w K mg base CX0 "_law_written" 8 ["_law_record_here"] (spLWritten K) :=
  def_of T 58 96 sc__law_written bn__law_written (by walk_at "len") (b__law_written T)
end
end K45



namespace K45
open PySem L2 Sa
local macro_rules | `(tactic| walk_at "s1") => `(tactic| first | (with_reducible apply c_dgetK))
local macro_rules | `(tactic| walk_at "s1") => `(tactic| (with_reducible apply c_raiseO))
local macro_rules | `(tactic| walk_at "s1") => `(tactic| first | (with_reducible apply c_dgetK))
local macro_rules | `(tactic| walk_at "s1") => `(tactic| (with_reducible apply c_raiseO))
local macro_rules | `(tactic| walk_at "s1") => `(tactic| first | (with_reducible apply c_un) | (with_reducible apply c_negI))
set_option pp.maxSteps 1500
def letS : Str := PySem.Str.ofString "abcdefghijklmnopqrstuvwxyz0123456789"
theorem let_eq : (PySem.Str.ofString "abcdefghijklmnopqrstuvwxyz0123456789").cps.toList = letS.cps.toList := by decide +kernel
theorem name_let {n : Str} (h : isNameS n = true) : ∀ c ∈ n.cps.toList, c ∈ letS.cps.toList := fun c hc => by
  unfold isNameS at h
  simp only [Bool.and_eq_true, List.all_eq_true, decide_eq_true_eq] at h
  have := h.2 c hc
  rwa [let_eq] at this
theorem name_len1 {n : Str} (h : isNameS n = true) : 1 ≤ n.length := by
  unfold isNameS at h
  simp only [Bool.and_eq_true, decide_eq_true_eq] at h
  exact h.1.1
section
variable {P : Program} {w : World} {K : PySem.W.Frag} {mg : Str → Option Value} {base : Heap}
def spLFair (K : PySem.W.Frag) : Sp := fun vs H Q _ => ∃ (a : Addr) (r : Rec), vs = [.ref a] ∧ LRecAt K H a r ∧ (∀ d s n acts, r = .accept d s n acts → 0 ≤ d ∧ d ≤ 2 ∧ 0 ≤ s ∧ s ≤ 9999 ∧ isNameS n = true) ∧ ∀ H', Kp [] H H' → Q (.bl true) H'
theorem sc__law_fair : FnScope ["_law_record_here", "_law_signs", "_law_sign"] ["_law_record_here"] (defScope s__law_fair) := ⟨rfl, rfl, rfl, by decide +kernel, rfl, by decide +kernel, by decide +kernel⟩
theorem bn__law_fair : BindN "_law_fair" s__law_fair ["_law_record_here"] := fun _ _ _ _ _ _ us hl => match us, hl with | [_], _ => rfl
theorem b__law_fair (T : TX K mg) : Body P w K mg base "_law_fair" s__law_fair ["_law_record_here", "_law_signs", "_law_sign"] 1 (spLFair K) := by
  intro cdv A outer s H vs Q E h X hr
  obtain ⟨a, r, rfl, ha, hf, q⟩ := h
  refine ⟨_, (pss_cons (ps_if (pt_cmpR (op_neU (K := K) hr.units) (pe_ix (ix_U (K := K)) (pv 0) pe_int (fun _ _ => rfl)) pe_str (nomark _)) (pss_one (ps_ret pe_bl)) pss_nil) (pss_cons (ps_setLc (i := 1) (own := [("_law_sign", 2)]) rfl sc__law_fair.nd rfl rfl (sw_true rfl rfl rfl (by decide +kernel)) (pi_str (pe_ix (ix_U (K := K)) (pv 0) pe_int (fun _ _ => rfl))) (blkOk_by (N := ["_law_record_here", "_law_signs", "_law_sign"]) (sc := defScope s__law_fair) (by decide +kernel)) (fun _ _ _ _ _ => (pg_name (i := 2) sc__law_fair.nd rfl (Or.inl rfl))) (fun _ _ _ _ _ => (pts_one (pt_cmpR (op_notInU (K := K)) (pv 2) pe_str rfl))) (fun _ _ _ _ _ => (pv 2))) (pss_one (ps_ret (pe_and (pe_chain op_leU op_leU pe_int (pe_ix (ix_U (K := K)) (pv 0) pe_int (fun _ _ => rfl)) pe_int) (pe_and (pe_chain op_leU op_leU pe_int (pe_ix (ix_U (K := K)) (pv 0) pe_int (fun _ _ => rfl)) pe_int) (pe_and (pe_cmpR (op_eqU (K := K) hr.units) (pv 1) (pe_lst pa_nil) (nomark _)) (pe_one (pe_chain op_leU op_leU pe_int (pe_callB (cr_len (K := K)) rfl (T.free 2) PySem.boot_len (pa_cons (pe_ix (ix_U (K := K)) (pv 0) pe_int (fun _ _ => rfl)) pa_nil)) pe_int))))))))), ?_⟩
  cases r with
  | epoch =>
    have ha : SqT K H a _ := ha
    walk_at "dc"
    exact q H Kp.refl
  | first fs =>
    obtain ⟨t, rs, ha, ht, ers, hrs⟩ := ha
    walk_at "dc"
    exact q H Kp.refl
  | accept d s n acts =>
    obtain ⟨p, xs, ha, hp, hd⟩ := ha
    obtain ⟨d0, d1, s0, s1, hn⟩ := hf d s n acts rfl
    have nl := name_len hn
    have nl1 := name_len1 hn
    walk_at "dc"
    refine lcS_map (fun c => V.str ⟨#[c]⟩) (fun _ => false) (by omega) (fun c H' R S hc e k1 k2 => ?_) (fun Dl H1 hD k1 hacc => ?_)
    · walk_at "st"
      refine ⟨rfl, ?_⟩
      walk_at "st"
      refine c_iteN (fun h => absurd (name_let hn c hc) h) (fun _ => ?_)
      exact k2 rfl _ Kp.refl
    rw [List.filter_eq_nil_iff.mpr (fun _ _ => Bool.false_ne_true)] at hacc
    have ha1 := SqT.kp k1 ha
    walk_at "st"
    refine c_iteT (decide_eq_true d0) ?_
    walk_at "st"
    refine c_iteT (decide_eq_true d1) ?_
    walk_at "st"
    refine c_iteT (decide_eq_true s0) ?_
    walk_at "st"
    refine c_iteT (decide_eq_true s1) ?_
    walk_at "st"
    walk_at "nw"
    intro p2 H2 N2
    refine c_eqLS (ys := []) (zs := []) (SqL.of (N2.keep hacc)) (SqL.of N2.at_) (by simp) (by simp) ?_
    have ha2 := SqT.kp N2.kp ha1
    walk_at "dc"
    refine c_iteT (decide_eq_true (show (1 : Int) ≤ _ by omega)) ?_
    walk_at "dc"
    rw [decide_eq_true (show ((n.length : Nat) : Int) ≤ 8 by omega)]
    exact q H2 (k1.trans N2.kp)
theorem D__law_fair (T : TX K mg) : DefAt P w K mg base CX0 "_law_fair" 2 ["_law_record_here"] (spLFair K) :=
  def_of T 60 98 sc__law_fair bn__law_fair (by walk_at "len") (b__law_fair T)
theorem cutS_plain {z : Str} (h : plainZ z) (lo hi : Option Int) : plainZ (cutS z lo hi) := fun c hc => by
  refine h c ?_
  rw [txt_of z, cutS_txt, txt_cps] at hc
  exact List.mem_of_mem_drop (List.mem_of_mem_take hc)
theorem sign_plain : ∀ c ∈ (PySem.Str.ofString " 0()[]\"a./\n").cps.toList, plainZ ⟨#[c]⟩ := by
  have : ∀ c ∈ (PySem.Str.ofString " 0()[]\"a./\n").cps.toList, plainB ⟨#[c]⟩ = true := by decide +kernel
  exact fun c hc => plainZ_of (this c hc)
def menuS : List Str := ["", "epoch", "epoch\n\n", "first", "accept 3 0 a\n", "accept 0 10000 a\n", "accept 01 2 a\n", "accept 0 2 A\n", "accept 0 2\n", "first\n(remove a)\n", "first\n(write b [])\n(write a [])\n", "epoch\n(read a)\n"]
theorem menu_plain : ∀ z ∈ menuS, plainB z = true ∧ z.length ≤ 100 := by decide +kernel
def spLSpoilt : Sp := fun vs H Q _ => ∃ (b d : Addr) (z : Str), vs = [.ref b, .str z] ∧ Bx H b d ∧ plainZ z ∧ 1 ≤ z.length ∧ z.length ≤ 7000 ∧ ∀ y H', plainZ y → y.length ≤ 100000 → Kp [b] H H' → Bx H' b d → Q (.str y) H'
theorem sc__law_spoilt : FnScope ["_law_box", "_law_text", "_law_at", "_law_sign", "_law_kind", "_law_menu"] ["_law_box", "_law_text"] (defScope s__law_spoilt) := ⟨rfl, rfl, rfl, by decide +kernel, rfl, by decide +kernel, by decide +kernel⟩
theorem bn__law_spoilt : BindN "_law_spoilt" s__law_spoilt ["_law_box", "_law_text"] := fun _ _ _ _ _ _ us hl => match us, hl with | [_, _], _ => rfl
theorem b__law_spoilt (T : TX K mg) : Body P w K mg base "_law_spoilt" s__law_spoilt ["_law_box", "_law_text", "_law_at", "_law_sign", "_law_kind", "_law_menu"] 2 (spLSpoilt) := by
  intro cdv A outer s H vs Q E h X hr
  obtain ⟨b, d, z, rfl, B, hz, z1, z2, q⟩ := h
  have D__law_draw := D__law_draw (P := P) (w := w) (base := base) T
  refine ⟨_, (pss_cons (ps_set (i := 2) sc__law_spoilt.nd rfl (Or.inl rfl) (pe_callA D__law_draw hr pass0 (pa_cons (pv 0) (pa_cons (pe_callB (cr_len (K := K)) rfl (T.free 2) PySem.boot_len (pa_cons (pv 1) pa_nil)) pa_nil)))) (pss_cons (ps_set (i := 3) sc__law_spoilt.nd rfl (Or.inl rfl) (pe_ix (ix_U (K := K)) pe_str (pe_callA D__law_draw hr pass0 (pa_cons (pv 0) (pa_cons pe_int pa_nil))) (fun _ _ => rfl))) (pss_cons (ps_set (i := 4) sc__law_spoilt.nd rfl (Or.inl rfl) (pe_callA D__law_draw hr pass0 (pa_cons (pv 0) (pa_cons pe_int pa_nil)))) (pss_cons (ps_if (pt_cmpR (op_eqU (K := K) hr.units) (pv 4) pe_int (nomark _)) (pss_one (ps_ret (pe_op (op_addU (K := K)) (pe_slice (sl_U (K := K)) (pv 1) po_none (po_some (pv 2))) (pe_slice (sl_U (K := K)) (pv 1) (po_some (pe_op (op_addU (K := K)) (pv 2) pe_int)) po_none)))) pss_nil) (pss_cons (ps_if (pt_cmpR (op_eqU (K := K) hr.units) (pv 4) pe_int (nomark _)) (pss_one (ps_ret (pe_op (op_addU (K := K)) (pe_op (op_addU (K := K)) (pe_slice (sl_U (K := K)) (pv 1) po_none (po_some (pv 2))) (pv 3)) (pe_slice (sl_U (K := K)) (pv 1) (po_some (pv 2)) po_none)))) pss_nil) (pss_cons (ps_if (pt_cmpR (op_eqU (K := K) hr.units) (pv 4) pe_int (nomark _)) (pss_one (ps_ret (pe_op (op_addU (K := K)) (pe_op (op_addU (K := K)) (pe_slice (sl_U (K := K)) (pv 1) po_none (po_some (pv 2))) (pv 3)) (pe_slice (sl_U (K := K)) (pv 1) (po_some (pe_op (op_addU (K := K)) (pv 2) pe_int)) po_none)))) pss_nil) (pss_cons (ps_set (i := 5) sc__law_spoilt.nd rfl (Or.inl rfl) (pe_lst (pa_cons pe_str (pa_cons pe_str (pa_cons pe_str (pa_cons pe_str (pa_cons pe_str (pa_cons pe_str (pa_cons pe_str (pa_cons pe_str pa_nil)))))))))) (pss_cons (ps_set (i := 5) sc__law_spoilt.nd rfl (Or.inl rfl) (pe_op (op_addU (K := K)) (pv 5) (pe_lst (pa_cons pe_str (pa_cons pe_str (pa_cons pe_str (pa_cons pe_str pa_nil))))))) (pss_one (ps_ret (pe_ix (ix_U (K := K)) (pv 5) (pe_callA D__law_draw hr pass0 (pa_cons (pv 0) (pa_cons pe_int pa_nil))) (fun _ _ => rfl)))))))))))), ?_⟩
  have zs : z.length ≤ sizeLine := by rw [sizeLine_eq]; omega
  have cp := fun lo hi => cutS_plain hz lo hi
  have cl := fun lo hi => cutS_len z lo hi
  walk_at "st"
  refine ⟨b, d, _, rfl, B, by omega, fun i H1 i0 i1 e1 B1 => ?_⟩
  walk_at "st"
  refine ⟨b, d, 11, rfl, B1, by decide, fun j H2 j0 j1 e2 B2 => ?_⟩
  obtain ⟨c, hc, hcm⟩ : ∃ c, atI (PySem.Str.ofString " 0()[]\"a./\n").cps.toList j = some c ∧ c ∈ (PySem.Str.ofString " 0()[]\"a./\n").cps.toList := by
    obtain ⟨m, rfl⟩ := Int.eq_ofNat_of_zero_le j0
    have hm : m < (PySem.Str.ofString " 0()[]\"a./\n").cps.toList.length := by rw [show (PySem.Str.ofString " 0()[]\"a./\n").cps.toList.length = 11 by decide +kernel]; omega
    exact ⟨_, atI_nat (List.getElem?_eq_getElem hm), List.getElem_mem hm⟩
  refine c_ixS (by decide +kernel) hc ?_
  have sp := sign_plain c hcm
  have s1 : (⟨#[c]⟩ : Str).length = 1 := rfl
  walk_at "st"
  refine ⟨b, d, 4, rfl, B2, by decide, fun k H3 k0 k1 e3 B3 => ?_⟩
  have kb := (e1.trans e2).trans e3
  walk_at "st"
  refine c_ite (fun h1 => ?_) (fun h1 => ?_)
  · walk_at "st"
    refine c_slS zs ?_
    walk_at "st"
    refine c_slS zs ?_
    refine c_addS (by have := cl none (some i); have := cl (some (i + 1)) none; rw [sizeLine_eq]; omega) ?_
    exact q _ H3 (plain_app (cp _ _) (cp _ _)) (by rw [app_len]; have := cl none (some i); have := cl (some (i + 1)) none; omega) kb B3
  walk_at "st"
  refine c_ite (fun h2 => ?_) (fun h2 => ?_)
  · walk_at "st"
    refine c_slS zs ?_
    walk_at "st"
    refine c_addS (by have := cl none (some i); rw [sizeLine_eq, s1]; omega) ?_
    walk_at "st"
    refine c_slS zs ?_
    refine c_addS (by have := cl none (some i); have := cl (some i) none; rw [sizeLine_eq, app_len, s1]; omega) ?_
    exact q _ H3 (plain_app (plain_app (cp _ _) sp) (cp _ _)) (by rw [app_len, app_len, s1]; have := cl none (some i); have := cl (some i) none; omega) kb B3
  walk_at "st"
  refine c_ite (fun h3 => ?_) (fun h3 => ?_)
  · walk_at "st"
    refine c_slS zs ?_
    walk_at "st"
    refine c_addS (by have := cl none (some i); rw [sizeLine_eq, s1]; omega) ?_
    walk_at "st"
    refine c_slS zs ?_
    refine c_addS (by have := cl none (some i); have := cl (some (i + 1)) none; rw [sizeLine_eq, app_len, s1]; omega) ?_
    exact q _ H3 (plain_app (plain_app (cp _ _) sp) (cp _ _)) (by rw [app_len, app_len, s1]; have := cl none (some i); have := cl (some (i + 1)) none; omega) kb B3
  walk_at "st"
  walk_at "nw"
  intro p4 H4 N4
  walk_at "st"
  walk_at "nw"
  intro p5 H5 N5
  walk_at "st"
  refine c_addL (N5.keep N4.at_) N5.at_ (by rw [sizeLine_eq]; decide) fun p6 H6 N6 => ?_
  have B6 := ((B3.nw N4).nw N5).nw N6
  walk_at "st"
  refine ⟨b, d, 12, rfl, B6, by decide, fun m H7 m0 m1 e7 B7 => ?_⟩
  refine c_pickM (u := V.str) menuS (SqL.of (e7.at1 (((B3.nw N4).nw N5).ne_new N6.fr).1 N6.at_)) m0 m1 fun y hy => ?_
  have my := menu_plain y hy
  exact q y H7 (plainZ_of my.1) (by omega) ((((kb.trans N4.kp).trans N5.kp).trans N6.kp).trans e7) B7
theorem D__law_spoilt (T : TX K mg) : DefAt P w K mg base CX0 "_law_spoilt" 3 ["_law_box", "_law_text"] (spLSpoilt) :=
  def_of T 59 97 sc__law_spoilt bn__law_spoilt (by walk_at "len") (b__law_spoilt T)
theorem readRec_fair {z : Str} {r : Rec} (h : readRec z = some r) : ∀ d s n acts, r = .accept d s n acts → 0 ≤ d ∧ d ≤ 2 ∧ 0 ≤ s ∧ s ≤ 9999 ∧ isNameS n = true := fun d s n acts e => by
  subst e
  unfold readRec at h
  split at h
  · cases h
  · split at h
    · cases h
    · rename_i acts' _ r' hr
      split at h
      · injection h with h
        subst h
        unfold candF at hr
        split at hr
        · cases hr
        · split at hr
          · cases hr
          · split at hr
            · rename_i d' s' n' ha
              injection hr with hr
              injection hr with h1 h2 h3 h4
              subst h1; subst h2; subst h3
              exact acceptF_fair ha
            · cases hr
      · cases h
def recD : Rec → PyData
  | .epoch => .tuple [.str "epoch"]
  | .first fs => .tuple [.str "first", rowsOfD fs]
  | .accept d s n acts => .tuple [.str "accept", .int d, .int s, .str n, .tuple (acts.map Action.d)]
theorem rows_dtR {K : PySem.W.Frag} {H : Hp} {rs : List RowA} {fs : List File} (e : rs.map (fun r => r.2.2) = fs) (hr : ∀ r ∈ rs, RowOk K H r) : DtAll K H (rs.map fun r => V.ref r.1) (fs.map fileD) := by
  subst e
  induction rs with
  | nil => exact .nil
  | cons r rs ih =>
    have ok := hr r (List.mem_cons_self ..)
    exact .cons (.tup ok.row (.cons (.str _) (.cons (dt_strs ok.lines) .nil))) (ih fun r hr' => hr r (List.mem_cons_of_mem _ hr'))
theorem LRecAt.dt {K : PySem.W.Frag} {H : Hp} {a : Addr} : ∀ {r : Rec}, LRecAt K H a r → Dt K H (.ref a) (recD r)
  | .epoch, h => .tup h (.cons (.str _) .nil)
  | .first _, ⟨_, _, h1, h2, h3, h4⟩ => .tup h1 (.cons (.str _) (.cons (.tup h2 (rows_dtR h3 h4)) .nil))
  | .accept _ _ _ _, ⟨_, _, h1, h2, h3⟩ => .tup h1 (.cons (.str _) (.cons (.int _) (.cons (.int _) (.cons (.str _) (.cons (.tup h2 h3) .nil)))))
theorem int_short {n : Int} (h0 : 0 ≤ n) (h1 : n < 10000) : (PyData.shown (.int n)).length ≤ 13 ∧ n.natAbs.log2 < 1920 ∧ PyData.weight (.int n) ≤ 20 := by
  refine ⟨?_, num_small h0 (by omega), ?_⟩
  · show (PySem.Str.ofString (toString n)).length ≤ 13
    have := num_len h0 (by omega)
    omega
  · simp only [PyData.weight]
    split
    · omega
    · rename_i hn
      have hn : n ≠ 0 := fun e => hn (by rw [e]; rfl)
      have : n.natAbs.log2 < 14 := (Nat.log2_lt (by omega)).mpr (by omega)
      omega
theorem Fit.int4 {n : Int} (h0 : 0 ≤ n) (h1 : n < 10000) : Fit 0 20 (.int n) := by
  obtain ⟨h1, h2, h3⟩ := int_short h0 h1
  exact ⟨by simp only [PyData.canLay0], Nat.le_refl _, h3, by simp only [PyData.intsShort, decide_eq_true_eq]; exact h1, by simp only [PyData.showable, decide_eq_true_eq]; exact h2⟩
theorem sp_len : (PySem.Str.ofString " ").length = 1 := by decide +kernel
theorem words_ok : okS "epoch" = true ∧ okS "first" = true ∧ okS "accept" = true ∧ Str.length "epoch" ≤ 10 ∧ Str.length "first" ≤ 10 ∧ Str.length "accept" ≤ 10 := by decide +kernel
theorem RecGd.fit {r : Rec} (h : RecGd r) : Fit 5 200000 (recD r) := by
  obtain ⟨o1, o2, o3, l1, l2, l3⟩ := words_ok
  cases r with
  | epoch => exact (Fit.tup (n := 0) (w := 10) (m := 1) (fun d hd => by rw [List.mem_singleton.mp hd]; exact Fit.str o1 l1) (by simp)).mono (by omega) (by omega)
  | first fs =>
    exact (Fit.tup (n := 3) (w := 20000) (m := 2) (fun d hd => by
      simp only [List.mem_cons, List.not_mem_nil, or_false] at hd
      rcases hd with rfl | rfl
      · exact (Fit.str o2 l2).mono (by omega) (by omega)
      · exact fit_files h.1) (by simp)).mono (by omega) (by omega)
  | accept d s n acts =>
    obtain ⟨d0, d1, s0, s1, hn, hb, hl⟩ := h
    have nl := name_len hn
    have fa : Fit 3 (1013 * 8) (.tuple (acts.map Action.d)) := Fit.tup (fun d hd => by obtain ⟨x, hx, rfl⟩ := List.mem_map.mp hd; exact fit_action (hb x hx)) (by rw [List.length_map]; exact hl)
    exact (Fit.tup (n := 3) (w := 1013 * 8) (m := 5) (fun e he => by
      simp only [List.mem_cons, List.not_mem_nil, or_false] at he
      rcases he with rfl | rfl | rfl | rfl | rfl
      · exact (Fit.str o3 l3).mono (by omega) (by omega)
      · exact (Fit.int4 d0 (by omega)).mono (by omega) (by omega)
      · exact (Fit.int4 s0 (by omega)).mono (by omega) (by omega)
      · exact (Fit.str (plainZ_ok (name_plain hn)) nl).mono (by omega) (by omega)
      · exact fa) (by simp)).mono (by omega) (by omega)
theorem RecGd.nice {r : Rec} (h : RecGd r) : Nice (recD r) := h.fit.nice (by omega) (by omega)
end
end K45



namespace K45
open PySem L2 Sa
local macro_rules | `(tactic| walk_at "s1") => `(tactic| first | (with_reducible apply c_dgetK))
local macro_rules | `(tactic| walk_at "s1") => `(tactic| (with_reducible apply c_raiseO))
local macro_rules | `(tactic| walk_at "s1") => `(tactic| first | (with_reducible apply c_dgetK))
local macro_rules | `(tactic| walk_at "s1") => `(tactic| (with_reducible apply c_raiseO))
local macro_rules | `(tactic| walk_at "s1") => `(tactic| first | (with_reducible apply c_un) | (with_reducible apply c_negI))
set_option pp.maxSteps 1500
section
variable {P : Program} {w : World} {K : PySem.W.Frag} {mg : Str → Option Value} {base : Heap}
def spLaw (K : PySem.W.Frag) : Sp := fun vs H Q _ => ∃ (a : Addr) (ns : List Int), vs = [.ref a] ∧ SqL K H a (ns.map V.int) ∧ ∀ H', Q (.bl true) H'
theorem sc_law : FnScope ["_law_script", "_law_box", "_law_turn", "_law_record_here", "_law_text", "_law_other", "_law_told_here"] ["_law_script"] (defScope s_law) := ⟨rfl, rfl, rfl, by decide +kernel, rfl, by decide +kernel, by decide +kernel⟩
theorem bn_law : BindN "law" s_law ["_law_script"] := fun _ _ _ _ _ _ us hl => match us, hl with | [_], _ => rfl
theorem b_law (T : TX K mg) : BodyG P w K mg base "law" s_law ["_law_script", "_law_box", "_law_turn", "_law_record_here", "_law_text", "_law_other", "_law_told_here"] 12 (spLaw K) := by
  intro cdv A outer s H vs Q E h X hr hg
  obtain ⟨a, ns, rfl, hs, q⟩ := h
  have D__law_alike := D__law_alike (P := P) (w := w) (base := base) T; have D__law_digits := D__law_digits (P := P) (w := w) (base := base) T; have D__law_draw := D__law_draw (P := P) (w := w) (base := base) T; have D__law_fair := D__law_fair (P := P) (w := w) (base := base) T; have D__law_plain := D__law_plain (P := P) (w := w) (base := base) T; have D__law_record := D__law_record (P := P) (w := w) (base := base) T; have D__law_record_text := D__law_record_text (P := P) (w := w) (base := base) T; have D__law_spoilt := D__law_spoilt (P := P) (w := w) (base := base) T; have D__law_written := D__law_written (P := P) (w := w) (base := base) T; have D_read_record := D_read_record (P := P) (w := w) (base := base) T
  refine ⟨_, (pss_cons (ps_set (i := 1) sc_law.nd rfl (Or.inl rfl) (pe_lst (pa_cons (pe_callA D__law_digits hr pass0 (pa_cons (pv 0) (pa_cons pe_int (pa_cons pe_int pa_nil)))) (pa_cons pe_int pa_nil)))) (pss_cons (ps_for PassesOwn.never rfl (pi_range1 rfl (T.free 27) (pa_cons pe_int pa_nil)) (pg_name (i := 2) sc_law.nd rfl (Or.inl rfl)) (pss_cons (ps_set (i := 3) sc_law.nd rfl (Or.inl rfl) (pe_callA D__law_record hr pass0 (pa_cons (pv 1) pa_nil))) (pss_cons (ps_set (i := 4) sc_law.nd rfl (Or.inl rfl) (pe_callA D__law_record_text hr pass0 (pa_cons (pv 3) pa_nil))) (pss_cons (ps_if (PW.pt (pw_or (pt_cmpR (op_neU (K := K) hr.units) (pe_callA D__law_written hr pass0 (pa_cons (pv 3) pa_nil)) (pv 4) (nomark _)) (pw_or1 (pt_not (pt_tru (K := K) (pe_callG D__law_alike hr hg (pa_cons (pe_callA D__law_plain hr pass0 (pa_cons (pe_callA D_read_record hr pass0 (pa_cons (pv 4) pa_nil)) pa_nil)) (pa_cons (pv 3) pa_nil)))))))) (pss_one (ps_ret pe_bl)) pss_nil) (pss_cons (ps_set (i := 5) sc_law.nd rfl (Or.inl rfl) (pe_callA D__law_spoilt hr pass0 (pa_cons (pv 1) (pa_cons (pv 4) pa_nil)))) (pss_cons (ps_set (i := 6) sc_law.nd rfl (Or.inl rfl) (pe_callA D__law_plain hr pass0 (pa_cons (pe_callA D_read_record hr pass0 (pa_cons (pv 5) pa_nil)) pa_nil))) (pss_cons (ps_if (PW.pt (pw_and (pt_cmpR op_isNotU (pv 6) pe_non (nomark _)) (pw_and1 (PW.pt (pw_or (pt_cmpR (op_neU (K := K) hr.units) (pe_callA D__law_record_text hr pass0 (pa_cons (pv 6) pa_nil)) (pv 5) (nomark _)) (pw_or1 (pt_not (pt_tru (K := K) (pe_callA D__law_fair hr pass0 (pa_cons (pv 6) pa_nil)))))))))) (pss_one (ps_ret pe_bl)) pss_nil) (pss_one (ps_if (PW.pt (pw_and (pt_cmpR (op_eqU (K := K) hr.units) (pe_callA D__law_draw hr pass0 (pa_cons (pv 1) (pa_cons pe_int pa_nil))) pe_int (nomark _)) (pw_and1 (pt_cmpR op_isNotU (pe_callA D_read_record hr pass0 (pa_cons (pe_op (op_addU (K := K)) (pv 4) pe_str) pa_nil)) pe_non (nomark _))))) (pss_one (ps_ret pe_bl)) pss_nil))))))))) (pss_one (ps_ret (pe_cmpR (op_eqU (K := K) hr.units) (pe_tup (pa_cons (pe_gInt (T.int 65)) (pa_cons (pe_gInt (T.int 64)) pa_nil))) (pe_tup (pa_cons pe_int (pa_cons pe_int pa_nil))) (nomark _)))))), ?_⟩
  walk_at "st"
  refine ⟨a, ns, rfl, hs, fun d ds hd => ?_⟩
  walk_at "st"
  walk_at "nw"
  intro b H1 N1
  have B1 : Bx H1 b d := ⟨0, ds, N1.at_, N1.keep upd_same, by decide⟩
  walk_at "st"
  refine forR (fun i σ H' => ∃ v2 v3 v4 v5 v6, σ = [some (.ref a), some (.ref b), v2, v3, v4, v5, v6] ∧ Bx H' b d) ⟨_, _, _, _, _, rfl, B1⟩ ?_ ?_
  · rintro i σ H3 hi ⟨v2, v3, v4, v5, v6, rfl, B3⟩
    walk_at "st"
    refine ⟨b, d, rfl, B3, fun ra r H4 hg hra e4 B4 => ?_⟩
    have rp := recT_plain hg
    obtain ⟨rl1, rl2⟩ := recT_len hg
    have rw_ := readRec_written hg
    walk_at "st"
    refine ⟨ra, r, rfl, hra, hg.ok, fun H5 k5 => ?_⟩
    walk_at "st"
    refine ⟨ra, r, rfl, hra.kp k5, hg, fun H6 k6 => ?_⟩
    walk_at "st"
    refine c_iteN (fun g => absurd rfl g) (fun _ => ?_)
    walk_at "st"
    refine ⟨recT r, rfl, by omega, rp, fun e => (by rw [rw_] at e; cases e), fun r' er _ a' H7 k7 ha' ok' => ?_⟩
    rw [rw_] at er
    injection er with er
    subst er
    walk_at "st"
    refine ⟨_, rfl, .inr ⟨a', r, rfl, ha', ok', fun p H8 k8 hp => ?_⟩⟩
    walk_at "st"
    have k48 := ((k5.trans k6).trans k7).trans k8
    refine ⟨_, _, _, rfl, hp.dt.dp, (hra.kp k48).dt.dp, hg.nice, ?_⟩
    walk_at "dc"
    have B8 := B4.kp0 k48
    refine ⟨b, d, recT r, rfl, B8, rp, rl1, rl2, fun y H9 hy yl e9 B9 => ?_⟩
    walk_at "st"
    refine ⟨y, rfl, yl, hy, fun en H10 k10 => ?_, fun r2 er ht a2 H10 k10 ha2 ok2 => ?_⟩
    · walk_at "st"
      refine ⟨_, rfl, .inl ⟨rfl, fun H11 k11 => ?_⟩⟩
      walk_at "dc"
      refine ⟨b, d, 3, rfl, (B9.kp0 k10).kp0 k11, by decide, fun m H12 m0 m1 e12 B12 => ?_⟩
      walk_at "st"
      refine c_ite (fun _ => ?_) (fun _ => ?_)
      · walk_at "st"
        refine c_addS (by rw [sizeLine_eq, sp_len]; omega) ?_
        walk_at "st"
        refine ⟨_, rfl, by rw [app_len, sp_len]; omega, plain_app rp (plainZ_of (by decide +kernel)), fun _ H13 k13 => ?_, fun r3 er3 => by rw [readRec_sp] at er3; cases er3⟩
        walk_at "dc"
        exact ⟨_, _, _, _, _, rfl, B12.kp0 k13⟩
      · walk_at "dc"
        exact ⟨_, _, _, _, _, rfl, B12⟩
    · walk_at "st"
      refine ⟨_, rfl, .inr ⟨a2, r2, rfl, ha2, ok2, fun p2 H11 k11 hp2 => ?_⟩⟩
      walk_at "st"
      refine c_iteT (by rw [decide_eq_false (fun z : V.ref p2 = V.non => by cases z)]; rfl) ?_
      walk_at "st"
      refine ⟨p2, r2, rfl, hp2, ok2, fun H12 k12 => ?_⟩
      walk_at "st"
      refine c_iteN (fun g => absurd ht g) (fun _ => ?_)
      walk_at "st"
      refine ⟨p2, r2, rfl, hp2.kp k12, readRec_fair er, fun H13 k13 => ?_⟩
      walk_at "dc"
      refine ⟨b, d, 3, rfl, (((B9.kp0 k10).kp0 k11).kp0 k12).kp0 k13, by decide, fun m H14 m0 m1 e14 B14 => ?_⟩
      walk_at "st"
      refine c_ite (fun _ => ?_) (fun _ => ?_)
      · walk_at "st"
        refine c_addS (by rw [sizeLine_eq, sp_len]; omega) ?_
        walk_at "st"
        refine ⟨_, rfl, by rw [app_len, sp_len]; omega, plain_app rp (plainZ_of (by decide +kernel)), fun _ H15 k15 => ?_, fun r3 er3 => by rw [readRec_sp] at er3; cases er3⟩
        walk_at "dc"
        exact ⟨_, _, _, _, _, rfl, B14.kp0 k15⟩
      · walk_at "dc"
        exact ⟨_, _, _, _, _, rfl, B14⟩
  · rintro σ H7 ⟨v2, v3, v4, v5, v6, rfl, B7⟩
    walk_at "st"
    walk_at "nw"
    intro p1 H8 N8
    walk_at "st"
    walk_at "nw"
    intro p2 H9 N9
    refine c_eqD (d := .tuple [.int 3, .int 9999]) (e := .tuple [.int 3, .int 9999]) (Dt.tup (SqT.of (N9.keep N8.at_)) (.cons (.int _) (.cons (.int _) .nil))).dp (Dt.tup (SqT.of N9.at_) (.cons (.int _) (.cons (.int _) .nil))).dp (by decide +kernel) (by decide +kernel) ?_
    have e : PyData.eqv (.tuple [.int 3, .int 9999]) (.tuple [.int 3, .int 9999]) = true := by decide +kernel
    rw [e]
    exact q _
end
end K45



namespace K45
open PySem L2 Sa
theorem atEnd {P : Program} {w : World} {K : PySem.W.Frag} {h : Heap} {mg : Str → Option Value} {f : Addr} (KX : K.In h) (G : h.Ns mainGlobals mg) (hf : mg "law" = some (.ref f)) (c : He.SaysD fa fn K) (cx : exs fx K = true) :
    ∃ fd : FuncData, (∀ (s : Shared) (v : Value), BindsTo s fd ⟨[v], []⟩ [("_law_script", v)]) ∧ ∀ base : Heap, K.In base → base.Ns mainGlobals mg → FnG P w K mg base CX0 13 f fd ["_law_script"] (spLawE K) :=
  lawG_of KX G c hf 61 99 sc_law bn_law (fun vs H Q E z => by obtain ⟨a, ns, rfl, _⟩ := z; rfl) fun base => b_law ⟨h, KX, G, c, cx⟩
end K45
theorem PySem.Challenge.cw_sameanswers_k45_records_written_and_read_holds : PySem.Challenge.rw_sameanswers_k45_records_written_and_read.Holds :=
  K45.fin fun KX G hf c cx => K45.atEnd KX G hf c cx
#print axioms PySem.Challenge.cw_sameanswers_k45_records_written_and_read_holds



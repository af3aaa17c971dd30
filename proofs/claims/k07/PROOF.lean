import PyProof.Rows.All
import Wide.All
import OpenK.AllK
import Wide.FinOn
import HandS.ForMost
import HandS.ForExc
import HandS.Evl
import HandS.TupAny
import HandS.TupMul
import HandS.TryMany
import HandS.ExcField
import HandS.ExcInit
import HandS.Zip
import HandS.DictComp
import HandS.Defaults
import HandS.More
import HandS.SetKeys
import HandS.Deep
import HandS.Codes
import HandS.HeadHook2
import HandS.HeadHook4
import HandS.HeadEnd
import HandS.Head2
import KE.KIsAll
import KE.KEqSeq
import PyProof.StrLawsChain
import PyProof.StrLawsTight
import PyProof.StrLawsAffix
import HandS.IsInst
import KE.BitLaws
import HandS.ExcIs
import HandS.Strs
import PyProof.Rows.StrMeet
import KE.GoesEnum
import KE.GoesMore
import HandS.Walk
import HandS.Style
import HandS.ExcOwn
import PyProof.P3Eq
import HandS.SetFor
import PySem.Challenge.RW_sameanswers_k07_first_fault_of_actions
set_option Elab.async false
set_option linter.all false
set_option maxRecDepth 100000
set_option maxHeartbeats 4000000
namespace Sa
open PySem PySem.Spec PyProof.Rows L2

section
variable {X : Cx}
def orR (r r' : R2) : R2 := fun x y H Q => r x y H Q ∨ r' x y H Q
def rAddS : R2 := fun x y H Q => ∃ i j, x = .str i ∧ y = .str j ∧ i.length + j.length ≤ sizeLine ∧ Q (.str (i ++ j)) H
def rAddU (K : PySem.W.Frag) : R2 := orR (rI0 fun i j => .int (i + j)) (orR rAddS (orR rCat (rCatA K)))
theorem op_addU {K : PySem.W.Frag} (hK : X.K = K := by rfl) : OpR X (binaryOp .Add) (rAddU K) := hK ▸ op_add.or (op_add_str.or (op_cat.or op_catA))
def rptS (z : Str) (n : Int) : Str := ⟨(List.replicate n.toNat z.cps.toList).flatten.toArray⟩
theorem foldl_cps (a : Array Nat) : ∀ (m : Nat) (b : Array Nat), (List.replicate m a).foldl (fun x y => x ++ y) b = (b.toList ++ (List.replicate m a.toList).flatten).toArray
  | 0, b => by simp
  | m + 1, b => by
    rw [List.replicate_succ, List.foldl_cons, foldl_cps a m (b ++ a), List.replicate_succ, List.flatten_cons, Array.toList_append, List.append_assoc]
def rMulS : R2 := fun x y H Q => ∃ (z : Str) (n : Int), x = .str z ∧ y = .int n ∧ -(2 ^ 63) ≤ n ∧ n < 2 ^ 63 ∧ z.length * n.toNat ≤ sizeLine ∧ Q (.str (rptS z n)) H
theorem rptS_len (z : Str) (n : Int) : (rptS z n).length = z.length * n.toNat := by
  show ((List.replicate n.toNat z.cps.toList).flatten.toArray).size = z.cps.size * n.toNat
  rw [List.size_toArray, List.length_flatten, List.map_replicate, List.sum_replicate_nat, Array.length_toList, Nat.mul_comm]
theorem rptS_one {z : Str} : rptS z 1 = z := by
  show Str.mk _ = z
  cases z
  simp [rptS]
theorem op_mulS : OpR X (binaryOp .Mult) rMulS := by
  intro pins s σ H x y v u Q I rx ry h
  obtain ⟨z, n, rfl, rfl, h1, h2, hl, q⟩ := h
  obtain ⟨t, rfl⟩ := rx
  obtain ⟨t', rfl⟩ := ry
  have fin : ∀ t tk, EP X pins σ Q (.str (rptS z n) t) { s with toks := tk } := fun t tk => ⟨.str (rptS z n), H, I.tok _, ⟨_, rfl⟩, q⟩
  have e63 : (2 : Int) ^ 63 = 9223372036854775808 := by decide
  rw [e63] at h1 h2
  refine PySem.P.mul_str (by rw [e63, decide_eq_false (by omega), decide_eq_false (by omega)]; rfl) (fun hn hz hgt => ?_) (fun _ _ => decide_eq_false (by omega)) ?_
  · rw [sizeLine_eq] at hl
    have hz1 : n ≠ 1 ∧ z.length ≠ 0 := by simpa using hz
    have e : ((z.length * n.toNat : Nat) : Int) = (z.length : Int) * n := by rw [Int.natCast_mul]; congr 1; omega
    have g : (z.length : Int) ≤ 9223372036854775807 / n := (Int.le_ediv_iff_mul_le (by omega)).mpr (by omega)
    rw [e63] at hgt
    have g2 : (9223372036854775808 - 1 : Int) / n = 9223372036854775807 / n := rfl
    omega
  · by_cases hn : n < 1
    · rw [if_pos hn]
      refine ⟨by decide, ?_⟩
      have e : rptS z n = Str.empty := by
        have : n.toNat = 0 := by omega
        unfold rptS
        rw [this]
        rfl
      rw [← e]
      exact fin _ _
    · rw [if_neg hn]
      by_cases h : (n == 1 || z.length == 0) = true
      · rw [if_pos h]
        have e : rptS z n = z := by
          rcases Bool.or_eq_true _ _ |>.mp h with h | h
          · rw [eq_of_beq h, rptS_one]
          · have hl0 : z.cps = #[] := Array.size_eq_zero_iff.mp (eq_of_beq h)
            have hz : z = ⟨#[]⟩ := by cases z; simp_all
            subst hz
            simp [rptS]
        have f := fin t s.toks
        rw [e] at f
        exact f
      · rw [if_neg h]
        have e : (⟨(List.replicate n.toNat z.cps).foldl (· ++ ·) #[]⟩ : Str) = rptS z n := by
          rw [foldl_cps]
          simp [rptS]
        rw [e]
        exact ⟨by rw [rptS_len]; exact hl, fin _ _⟩
def rMulU (K : PySem.W.Frag) : R2 := orR (rI CMul fun i j => .int (i * j)) (orR rRep (orR (rRepT K) rMulS))
theorem op_mulU {K : PySem.W.Frag} (hK : X.K = K := by rfl) : OpR X (binaryOp .Mult) (rMulU K) := hK ▸ op_mul.or (op_rep.or (op_repT.or op_mulS))
def rSubU : R2 := rI0 fun i j => .int (i - j)
theorem op_subU : OpR X (binaryOp .Sub) rSubU := op_sub
def rDivU : R2 := rI CDiv fun i j => .int (i / j)
theorem op_divU : OpR X (binaryOp .FloorDiv) rDivU := op_fdiv
def rModU : R2 := rI (fun _ j => 0 < j) fun i j => .int (i % j)
theorem op_modU : OpR X (binaryOp .Mod) rModU := op_mod
def rBandU : R2 := rI0 fun i j => .int (Builtin.bitAnd i j)
def rOrdS (p : List Nat → List Nat → Bool) : R2 := fun x y H Q => ∃ i j, x = .str i ∧ y = .str j ∧ Q (.bl (p i.cps.toList j.cps.toList)) H
def rLtU : R2 := orR (rI0 fun i j => .bl (decide (i < j))) (rOrdS fun a b => decide (a < b))
def rLeU : R2 := orR (rI0 fun i j => .bl (decide (i ≤ j))) (rOrdS fun a b => !decide (b < a))
def rGtU : R2 := orR (rI0 fun i j => .bl (decide (j < i))) (rOrdS fun a b => decide (b < a))
def rGeU : R2 := orR (rI0 fun i j => .bl (decide (j ≤ i))) (rOrdS fun a b => !decide (a < b))
theorem op_ltU : OpR X (compareOp .Lt) rLtU := op_lt.or op_lt_str
theorem op_leU : OpR X (compareOp .LtE) rLeU := op_le.or op_le_str
theorem op_gtU : OpR X (compareOp .Gt) rGtU := op_gt.or op_gt_str
theorem op_geU : OpR X (compareOp .GtE) rGeU := op_ge.or op_ge_str
def rEqU (K : PySem.W.Frag) : R2 := orR rEq (rEqD K)
def rNeU (K : PySem.W.Frag) : R2 := orR rNe (rNeD K)
theorem op_eqU {K : PySem.W.Frag} {A : Around} (hu : A.units + 64 < cLine) (hA : X.A = A := by rfl) (hK : X.K = K := by rfl) : OpR X (compareOp .Eq) (rEqU K) := hK ▸ op_eq.or (op_eqD (by rw [hA]; exact hu))
theorem op_neU {K : PySem.W.Frag} {A : Around} (hu : A.units + 64 < cLine) (hA : X.A = A := by rfl) (hK : X.K = K := by rfl) : OpR X (compareOp .NotEq) (rNeU K) := hK ▸ op_ne.or (op_neD (by rw [hA]; exact hu))
def rIsU : R2 := fun x y H Q => y = .non ∧ Q (.bl (decide (x = .non))) H
def rIsNotU : R2 := fun x y H Q => y = .non ∧ Q (.bl (!decide (x = .non))) H
def rInC : R2 := fun x y H Q => ∃ (c : Nat) (z : Str), x = .str ⟨#[c]⟩ ∧ y = .str z ∧ Q (.bl (decide (c ∈ z.cps.toList))) H
def rInT : R2 := fun x y H Q => ∃ i j, x = .str i ∧ y = .str j ∧ Q (.bl (!(Builtin.Str.occurrences j i 0 j.length 1).isEmpty)) H
def rNotInC : R2 := fun x y H Q => ∃ (c : Nat) (z : Str), x = .str ⟨#[c]⟩ ∧ y = .str z ∧ Q (.bl (!decide (c ∈ z.cps.toList))) H
def rNotInT : R2 := fun x y H Q => ∃ i j, x = .str i ∧ y = .str j ∧ Q (.bl (!(!(Builtin.Str.occurrences j i 0 j.length 1).isEmpty))) H
def rInU (K : PySem.W.Frag) : R2 := orR rInC (orR rInT (rIn K false))
def rNotInU (K : PySem.W.Frag) : R2 := orR rNotInC (orR rNotInT (rIn K true))
theorem op_inU {K : PySem.W.Frag} (hK : X.K = K := by rfl) : OpR X (compareOp .In) (rInU K) := hK ▸ op_in_sign.or (op_in_str.or op_in_seq)
theorem op_notInU {K : PySem.W.Frag} (hK : X.K = K := by rfl) : OpR X (compareOp .NotIn) (rNotInU K) := hK ▸ op_notIn_sign.or (op_notin_str.or op_notIn_seq)
def rSlU (K : PySem.W.Frag) : V → Option Int → Option Int → Hp → VK → Prop := fun x lo hi H Q => rSlL K x lo hi H Q ∨ rSlS x lo hi H Q ∨ rSlA K x lo hi H Q
theorem ix_U {K : PySem.W.Frag} (hK : X.K = K := by rfl) : IxR X (rIx K) := hK ▸ ix_seq
theorem sl_U {K : PySem.W.Frag} (hK : X.K = K := by rfl) : SlR X (rSlU K) := hK ▸ L2.SlR.or sl_list (L2.SlR.or sl_str sl_tupA)
end
end Sa

namespace Sa
open PySem L2

def dOf (x : Str) (st : Stmt) : He.DefD := ⟨(x, none), x, x, defArgs st, defBody st, defScope st, [], []⟩
inductive Fx where
  | oex (x : Str)
  | xf (x : Str)
  | cst (x : Str) (d : PyData)
  | cstA (p : PySem.W.Frag → Addr) (d : PyData)
  | exi (x : Str)
  | kit (x y : Str) (b : Bool)
  | gaeq (x y : Str)
mutual
def cstB (K : PySem.W.Frag) : PyData → Value → Bool
  | .none, v => decide (v = .none)
  | .bool b, v => decide (v = .bool b)
  | .int i, v => (match v with
    | .int j _ => decide (i = j)
    | _ => false)
  | .str x, v => (match v with
    | .str y _ => decide (x = y)
    | _ => false)
  | .list _, _ => false
  | .tuple ds, v => (match v with
    | .ref a => (match K.lookup a with
      | some ⟨.type t, _, .seq its _, _⟩ => decide (t = "tuple") && (decide (its.size ≤ sizeLine) && cstAll K ds its.toList)
      | _ => false)
    | _ => false)
  | .dict _, _ => false
def cstAll (K : PySem.W.Frag) : List PyData → List Value → Bool
  | [], [] => true
  | d :: ds, v :: vs => cstB K d v && cstAll K ds vs
  | [], _ :: _ => false
  | _ :: _, [] => false
end
mutual
theorem cstB_ok {K : PySem.W.Frag} : ∀ (d : PyData) (v : Value), cstB K d v = true → ∃ x, RelV x v ∧ ∀ H, Dp K H x d
  | .none, v, h => by
    unfold cstB at h
    cases of_decide_eq_true h
    exact ⟨.non, rfl, fun H => .non⟩
  | .bool b, v, h => by
    unfold cstB at h
    cases of_decide_eq_true h
    exact ⟨.bl b, rfl, fun H => .bl b⟩
  | .int i, v, h => by
    unfold cstB at h
    split at h
    · rename_i j t
      cases of_decide_eq_true h
      exact ⟨.int i, ⟨t, rfl⟩, fun H => .int i⟩
    · cases h
  | .str x, v, h => by
    unfold cstB at h
    split at h
    · rename_i y t
      cases of_decide_eq_true h
      exact ⟨.str x, ⟨t, rfl⟩, fun H => .str x⟩
    · cases h
  | .list _, v, h => by unfold cstB at h; cases h
  | .dict _, v, h => by unfold cstB at h; cases h
  | .tuple ds, v, h => by
    unfold cstB at h
    split at h
    · rename_i a
      split at h
      · rename_i t dd its n sl hk
        simp only [Bool.and_eq_true, decide_eq_true_eq] at h
        obtain ⟨rfl, hz, ha⟩ := h
        obtain ⟨xs, r, hx⟩ := cstAll_ok ds its.toList ha
        exact ⟨.ref a, rfl, fun H => .tup (.inr ⟨_, its, n, hk, rfl, rfl, hz, r⟩) (hx H)⟩
      · cases h
    · cases h
theorem cstAll_ok {K : PySem.W.Frag} : ∀ (ds : List PyData) (vs : List Value), cstAll K ds vs = true → ∃ xs, Vals xs vs ∧ ∀ H, DpAll K H xs ds
  | [], [], _ => ⟨[], .nil, fun H => .nil⟩
  | d :: ds, v :: vs, h => by
    unfold cstAll at h
    rw [Bool.and_eq_true] at h
    obtain ⟨x, r1, h1⟩ := cstB_ok d v h.1
    obtain ⟨xs, r2, h2⟩ := cstAll_ok ds vs h.2
    exact ⟨x :: xs, .cons r1 r2, fun H => .cons (h1 H) (h2 H)⟩
  | [], _ :: _, h => by unfold cstAll at h; cases h
  | _ :: _, [], h => by unfold cstAll at h; cases h
end
theorem cst_ref {K : PySem.W.Frag} {d : PyData} {a : Addr} (h : cstB K d (.ref a) = true) (H : Hp) : Dp K H (.ref a) d := by
  obtain ⟨x, r, hx⟩ := cstB_ok d _ h
  cases x <;> first | (cases r; done) | (obtain ⟨_, r⟩ := r; cases r; done) | (injection r with r; subst r; exact hx H)
def oexB (K : PySem.W.Frag) (C : Addr) : Bool :=
  (match K.lookup C with
  | some ⟨.type t, _, .cls cd, sl⟩ => (match cd.mro, sl.toList with
    | .ref D :: bm, [_, _, _, _, some (.builtin n), _] => decide (t = "type") && (decide (D = C) && (decide (n = "ValueError.__new__") && (!cd.hasDel && (cd.hasDict && PySem.HandSPX.refsVE bm))))
    | _, _ => false)
  | _ => false) && (decide (PySem.W.findIn K (.ref C) "__setattr__" = some (some (.builtin "object.__setattr__"))) && (decide (PySem.W.subIn K (.ref C) (.type "BaseException") = some true) &&
    (decide (PySem.W.typeIn K (.ref C) = some (.type "type")) && PySem.W.keepIn K (.ref C))))
theorem oexB_ok {K : PySem.W.Frag} {C : Addr} (h : oexB K C = true) : OexC K C := by
  unfold oexB at h
  rw [Bool.and_eq_true] at h
  obtain ⟨h1, h2⟩ := h
  simp only [Bool.and_eq_true, decide_eq_true_eq] at h2
  obtain ⟨h3, h4, h5, h6⟩ := h2
  refine ⟨?_, h3, h4, h5, h6⟩
  cases q : K.lookup C with
  | none => rw [q] at h1; cases h1
  | some o =>
    rw [q] at h1
    obtain ⟨oc, dd, dt, sl⟩ := o
    cases oc <;> try (cases h1; done)
    cases dt <;> try (cases h1; done)
    rename_i t cd
    obtain ⟨nm, bs, mro, ns, qn, hd, sn, sub, ab, col, dl⟩ := cd
    obtain ⟨l⟩ := sl
    dsimp only at h1
    split at h1
    · rename_i m1 l1 D bm k0 k1 k2 k3 n k5
      simp only [Bool.and_eq_true, decide_eq_true_eq, Bool.not_eq_true'] at h1
      obtain ⟨rfl, rfl, rfl, hdel, rfl, hr⟩ := h1
      subst hdel
      exact ⟨nm, qn, ns, bs, bm, sn, sub, ab, col, dd, k0, k1, k2, k3, k5, rfl, hr⟩
    · cases h1
def exiB (K : PySem.W.Frag) (D : Addr) : Bool :=
  decide (PySem.W.findIn K (.ref D) "__getattribute__" = some (some (.builtin "BaseException.__getattribute__"))) && (decide (PySem.W.findIn K (.ref D) "__getattr__" = some none) &&
  (decide (PySem.W.subIn K (.ref D) (.type "BaseException") = some true) && (PySem.W.hasDictIn K D && (decide (PySem.W.findIn K (.ref D) "__class__" = some (some (.builtin "object.__class__"))) &&
  (decide (PySem.W.specialIn K (.builtin "object.__class__") "__get__" = some (some (.builtin "getset_descriptor.__get__"))) && (decide (PySem.W.takesIn K (.builtin "object.__class__") = some true) && decide (PySem.W.mroIn K D (.type "object") = some true)))))))
def Fx.ok (K : PySem.W.Frag) : Fx → Bool
  | .oex x => oexB K (He.ga K x)
  | .xf x => xfB K (He.ga K x)
  | .cst x d => cstB K d (.ref (He.ga K x))
  | .cstA p d => cstB K d (.ref (p K))
  | .exi x => exiB K (He.ga K x)
  | .kit x y b => decide (PySem.W.kitOne K (.ref (He.ga K x)) (.ref (He.ga K y)) = some b)
  | .gaeq x y => decide (He.ga K x = He.ga K y)
def exs (fx : List Fx) (K : PySem.W.Frag) : Bool := fx.all fun f => f.ok K
def Tx (fa : List He.Fa) (fn : List He.DefD) (fx : List Fx) (K : PySem.W.Frag) (mg : Str → Option Value) : Prop := ∃ h : Heap, K.In h ∧ h.Ns mainGlobals mg ∧ He.SaysD fa fn K ∧ exs fx K = true
section
variable {fa : List He.Fa} {fn : List He.DefD} {fx : List Fx} {K : PySem.W.Frag} {mg : Str → Option Value}
theorem Tx.free (T : Tx fa fn fx K mg) (i : Nat) {x : Str} (h : fa[i]? = some (.free x) := by rfl) : mg x = none := by
  obtain ⟨hp, X, G, c, _⟩ := T
  exact He.free_ok X G (c.fact i h)
theorem Tx.glo (T : Tx fa fn fx K mg) (i : Nat) {x : Str} (h : fa[i]? = some (.glo x) := by rfl) : mg x = some (.ref (He.ga K x)) := by
  obtain ⟨hp, X, G, c, _⟩ := T
  exact He.glo_ok X G (c.fact i h)
theorem Tx.int (T : Tx fa fn fx K mg) (i : Nat) {x : Str} {n : Int} (h : fa[i]? = some (.int x n) := by rfl) : ∃ t, mg x = some (.int n t) := by
  obtain ⟨hp, X, G, c, _⟩ := T
  exact He.int_ok X G (c.fact i h)
theorem Tx.str (T : Tx fa fn fx K mg) (i : Nat) {x z : Str} (h : fa[i]? = some (.str x z) := by rfl) : ∃ t, mg x = some (.str z t) := by
  obtain ⟨hp, X, G, c, _⟩ := T
  exact He.str_ok X G (c.fact i h)
end
theorem Tx.fact {fa : List He.Fa} {fn : List He.DefD} {fx : List Fx} {K : PySem.W.Frag} {mg : Str → Option Value} (T : Tx fa fn fx K mg) (i : Nat) {f : He.Fa} (h : fa[i]? = some f := by rfl) : f.ok K = true := by
  obtain ⟨hp, X, G, c, _⟩ := T
  exact c.fact i h
theorem Tx.fx {fa : List He.Fa} {fn : List He.DefD} {fx : List Fx} {K : PySem.W.Frag} {mg : Str → Option Value} (T : Tx fa fn fx K mg) (i : Nat) {f : Fx} (h : fx[i]? = some f := by rfl) : f.ok K = true := by
  obtain ⟨hp, X, G, c, e⟩ := T
  exact List.all_eq_true.mp e f (List.mem_of_getElem? h)
structure DefAt (P : Program) (w : World) (K : PySem.W.Frag) (mg : Str → Option Value) (base : Heap) (CX : CXT) (x : Str) (k : Nat) (ps : List Str) (sp : Sp) : Prop where
  gl : mg x = some (.ref (He.ga K x))
  kp : PySem.W.keepIn K (.ref (He.ga K x)) = true
  ok : ∃ fd, FnOk P w K mg base CX k (He.ga K x) fd ps sp ∧ Binds K fd ps []
def BindN (x : Str) (st : Stmt) (ps : List Str) : Prop := ∀ (kV doc pm : Value) (an : Option Addr) (cdv ct : Value) (us : List Value), us.length = ps.length →
  bindArgs (PySem.W.fnOf x x (defArgs st) (defBody st) (defScope st) .none kV doc pm an cdv ct) ⟨us, []⟩ = pure (ps.zip us)
section
variable {fa : List He.Fa} {fn : List He.DefD} {fx : List Fx} {P : Program} {w : World} {K : PySem.W.Frag} {mg : Str → Option Value} {base : Heap}
def Body (P : Program) (w : World) (K : PySem.W.Frag) (mg : Str → Option Value) (base : Heap) (x : Str) (st : Stmt) (N : List Str) (k : Nat) (sp : Sp) : Prop :=
  ∀ (cdv : Value) (A : Around) (outer : List Env) (s : Shared) (H : Hp) (vs : List V) (Q : VK) (E : XK), sp vs H Q E → let X : Cx := (cxOf CX0 P w K mg base N x (defScope st) (He.ga K x) cdv A outer s H E).nox
    Room k X.A → ∃ t, PSs X (defBody st) t ∧ t { nx := fun _ H' => Q .non H', rt := Q } (start N vs) H
theorem def_of (T : Tx fa fn fx K mg) (i j : Nat) {x : Str} {st : Stmt} {N ps : List Str} {k : Nat} {sp : Sp} (S : FnScope N ps (defScope st)) (B : BindN x st ps) (len : ∀ vs H Q E, sp vs H Q E → vs.length = ps.length)
    (body : Body P w K mg base x st N k sp) (hd : fn[i]? = some (dOf x st) := by rfl) (hg : fa[j]? = some (.glo x) := by rfl) : DefAt P w K mg base CX0 x (k + 1) ps sp := by
  have gl := T.glo j hg
  obtain ⟨hp, X, G, c, _⟩ := T
  obtain ⟨fd, F⟩ := c.def_ i hd
  refine ⟨gl, F.kp, fd, F.ok S len fun cdv A outer s H vs Q E hr h => ?_, F.bindsN B⟩
  obtain ⟨t, h1, h2⟩ := body cdv A outer s H vs Q E h hr
  exact ⟨t, h1.nox, h2⟩
end
theorem law_of {fa : List He.Fa} {fn : List He.DefD} {P : Program} {w : World} {K : PySem.W.Frag} {mg : Str → Option Value} {h : Heap} {f : Addr} {N : List Str} {x : Str} {st : Stmt} {k : Nat} {sp : Sp} (KX : K.In h) (G : h.Ns mainGlobals mg) (c : He.SaysD fa fn K)
    (hf : mg "law" = some (.ref f)) (i j : Nat) (S : FnScope N [x] (defScope st)) (B : BindN "law" st [x]) (len : ∀ vs H Q E, sp vs H Q E → vs.length = 1) (body : ∀ base, Body P w K mg base "law" st N k sp)
    (hd : fn[i]? = some (dOf "law" st) := by rfl) (hg : fa[j]? = some (.glo "law") := by rfl) :
    ∃ fd : FuncData, (∀ (s : Shared) (v : Value), BindsTo s fd ⟨[v], []⟩ [(x, v)]) ∧ ∀ base : Heap, K.In base → base.Ns mainGlobals mg → FnOk P w K mg base CX0 (k + 1) f fd [x] sp := by
  obtain ⟨fd, F⟩ := c.def_ i hd
  have gl := He.glo_ok KX G (c.fact j hg)
  cases hf.symm.trans gl
  have b := F.bindsA (ps := [x]) B
  refine ⟨fd, fun s v => b s [v] rfl, fun base _ _ => F.ok S len fun cdv A outer s H vs Q E hr h => ?_⟩
  obtain ⟨t, h1, h2⟩ := body base cdv A outer s H vs Q E h hr
  exact ⟨t, h1.nox, h2⟩
theorem DefAt.up {P : Program} {w : World} {K : PySem.W.Frag} {mg : Str → Option Value} {base : Heap} {CX : CXT} {x : Str} {j k : Nat} {ps : List Str} {sp : Sp} (D : DefAt P w K mg base CX x j ps sp) (h : j ≤ k) : DefAt P w K mg base CX x k ps sp :=
  ⟨D.gl, D.kp, let ⟨fd, F, B⟩ := D.ok; ⟨fd, F.mono h, B⟩⟩
section
variable {X : Cx} {CX : CXT} {x : Str} {k j : Nat} {ps : List Str} {sp : Sp} {E : XK} {p pos : Pos} {e : Expr} {es : List Expr} {t : TA}
def tCallA (sp : Sp) (E : XK) (t : TA) : TE := fun σ H Q => t σ H fun vs H1 => sp vs H1 Q E
theorem pe_callA (D : DefAt X.prog X.w X.K X.mg X.base CX x j ps sp) (hr : Room k X.A) (hx : Passes CX X E) (ha : PA X (e :: es) t) (hjk : j ≤ k := by decide) (hg : Gl X x := by rfl)
    (hdb : (x == ("__debug__" : Str)) = false := by decide) (he : starEach (e :: es) X.env = (false, eval e X.env) :: starEach es X.env := by rfl) (hpl : (backTo pos (starEach es X.env)).any (·.1) = false := by rfl) :
    PE X (.Call (.Name x p) (e :: es) [] pos) (tCallA sp E t) := by
  obtain ⟨fd, F, B⟩ := D.ok
  have h := pe_call (F.mono hjk) hr hg D.gl D.kp B .nil hx ha hdb he hpl (p := p)
  have e : tCall sp [] E t = tCallA sp E t := by
    funext σ H Q
    unfold tCall tCallA
    simp only [List.append_nil]
  rw [← e]
  exact h
theorem pe_gInt {i : Int} (hm : ∃ t, X.mg x = some (.int i t)) (hg : Gl X x := by rfl) (hd : (x == ("__debug__" : Str)) = false := by decide) : PE X (.Name x pos) (tC (.int i)) :=
  let ⟨t, h⟩ := hm; pe_glob hg h ⟨t, rfl⟩ hd
theorem pe_gStr {z : Str} (hm : ∃ t, X.mg x = some (.str z t)) (hg : Gl X x := by rfl) (hd : (x == ("__debug__" : Str)) = false := by decide) : PE X (.Name x pos) (tC (.str z)) :=
  let ⟨t, h⟩ := hm; pe_glob hg h ⟨t, rfl⟩ hd
end

theorem pe_gCon {X : Cx} {x : Str} {pos : Pos} {a : Addr} (hm : X.mg x = some (.ref a)) (hg : Gl X x := by rfl) (hd : (x == ("__debug__" : Str)) = false := by decide) : PE X (.Name x pos) (tC (.ref a)) := pe_glob hg hm rfl hd
structure New (H : Hp) (p : Addr) (o : HO) (H' : Hp) : Prop where
  fr : H p = none
  eq : H' = upd H p o
section
variable {K : PySem.W.Frag} {σ : St} {H : Hp} {D : Ends} {Q : VK} {i j : Int} {n : Nat} {v x y : V} {te ta tb tc : TE} {t u : TS} {g : TG} {tt tA tB1 : TT} {r r' : R2} {a b p : Addr} {xs ys : List V} {s z : Str}
theorem c_seq (h : t { D with nx := u D } σ H) : tSeq t u D σ H := h
theorem c_next (h : D.nx σ H) : tNext D σ H := h
theorem c_ret (h : te σ H D.rt) : tRet te D σ H := h
theorem c_retN (h : D.rt .non H) : tRetN D σ H := h
theorem c_asg (h : te σ H fun x H1 => g x σ H1 D.nx) : tAsg te g D σ H := h
theorem c_gName {R : St → Hp → Prop} (h : R (σ.set n (some v)) H) : gName n v σ H R := h
theorem c_drop (h : te σ H fun _ H1 => D.nx σ H1) : tDrop te D σ H := h
theorem c_ifs (h : tt σ H fun b H1 => if b = true then t D σ H1 else u D σ H1) : tIfS tt t u D σ H := h
theorem c_var (e : σ[n]? = some (some v)) (q : Q v H) : tVar n σ H Q := ⟨v, e, q⟩
theorem c_c (q : Q v H) : tC v σ H Q := q
theorem c_op (h : ta σ H fun x H1 => tb σ H1 fun y H2 => r x y H2 Q) : tOp r ta tb σ H Q := h
theorem c_chain (h : ta σ H fun x H1 => tb σ H1 fun y H2 => r x y H2 fun z H3 => ∃ k, z = .bl k ∧ (if k = true then tc σ H3 fun w' H4 => r' y w' H4 Q else Q (.bl false) H3)) : tChain r r' ta tb tc σ H Q := h
theorem c_test {R : Bool → Hp → Prop} (h : te σ H fun x H1 => ∃ k, x = .bl k ∧ R k H1) : tTest te σ H R := h
theorem c_tB {R : Bool → Hp → Prop} (h : te σ H fun x H1 => ∃ k, x = .bl k ∧ R k H1) : tB te σ H R := h
theorem c_not {R : Bool → Hp → Prop} (h : tt σ H fun c H1 => R (!c) H1) : tNot tt σ H R := h
theorem c_and {R : Bool → Hp → Prop} (h : tA σ H fun c H1 => if c = true then tB1 σ H1 R else R false H1) : tAnd tA tB1 σ H R := h
theorem c_or {R : Bool → Hp → Prop} (h : tA σ H fun c H1 => if c = true then R true H1 else tB1 σ H1 R) : tOr tA tB1 σ H R := h
theorem c_andV (h : ta σ H fun x H1 => ∃ c, x = .bl c ∧ if c = true then tb σ H1 Q else Q (.bl false) H1) : tAndV ta tb σ H Q := h
theorem c_orV (h : ta σ H fun x H1 => ∃ c, x = .bl c ∧ if c = true then Q (.bl true) H1 else tb σ H1 Q) : tOrV ta tb σ H Q := h
theorem c_notV (h : ta σ H fun x H1 => ∃ c, x = .bl c ∧ Q (.bl (!c)) H1) : tNotV ta σ H Q := h
theorem c_if (h : tt σ H fun c H1 => if c = true then ta σ H1 Q else tb σ H1 Q) : tIf tt ta tb σ H Q := h
theorem c_nil {R : List V → Hp → Prop} (h : R [] H) : tNil σ H R := h
theorem c_cons {tr : TA} {R : List V → Hp → Prop} (h : te σ H fun x H1 => tr σ H1 fun xs H2 => R (x :: xs) H2) : tCons te tr σ H R := h
theorem c_call {sp : Sp} {E : XK} {tr : TA} (h : tr σ H fun vs H1 => sp vs H1 Q E) : tCallA sp E tr σ H Q := h
theorem c_cb {rr : List V → Hp → VK → Prop} {tr : TA} (h : tr σ H fun vs H1 => rr vs H1 Q) : tCB rr tr σ H Q := h
def Ret (Q : VK) (v : V) (H : Hp) : Prop := Q v H
theorem c_nw {A : Prop} {o : HO} (hl : A) (h : ∀ p H', New H p o H' → Q (.ref p) H') : A ∧ ∀ p, H p = none → Ret Q (.ref p) (upd H p o) := ⟨hl, fun p hp => h p _ ⟨hp, rfl⟩⟩
theorem c_tup {tr : TA} (h : tr σ H fun xs H1 => xs.length ≤ sizeLine ∧ ∀ p, H1 p = none → Ret Q (.ref p) (upd H1 p (.tup xs))) : tTup tr σ H Q := h
theorem c_lst {tr : TA} (h : tr σ H fun xs H1 => xs.length ≤ sizeLine ∧ ∀ p, H1 p = none → Ret Q (.ref p) (upd H1 p (.lst xs))) : tLst tr σ H Q := h
theorem c_sl {rr : V → Option Int → Option Int → Hp → VK → Prop} {tl th : TO} (h : te σ H fun x H1 => tl σ H1 fun l H2 => th σ H2 fun u H3 => rr x l u H3 Q) : tSl rr te tl th σ H Q := h
theorem c_noPart {R : Option Int → Hp → Prop} (h : R none H) : tNoPart σ H R := h
theorem c_part {R : Option Int → Hp → Prop} (h : te σ H fun x H1 => ∃ i, x = .int i ∧ R (some i) H1) : tPart te σ H R := h
theorem c_bm {T : String} {rr : V → List V → Hp → VK → Prop} {tr : TA} (h : te σ H fun x H1 => tyV K T x H1 ∧ tr σ H1 fun xs H2 => rr x xs H2 Q) : tBM K T rr te tr σ H Q := h
theorem c_bm0 {T : String} {rr : V → List V → Hp → VK → Prop} (h : te σ H fun x H1 => tyV K T x H1 ∧ rr x [] H1 Q) : tBM0 K T rr te σ H Q := h
theorem c_bl {b : Bool} {R : Bool → Prop} (h : R b) : ∃ k, V.bl b = V.bl k ∧ R k := ⟨b, rfl, h⟩
theorem c_int {R : Int → Prop} (h : R i) : ∃ k, V.int i = V.int k ∧ R k := ⟨i, rfl, h⟩
theorem c_addI (q : Q (.int (i + j)) H) : rAddU K (.int i) (.int j) H Q := .inl ⟨i, j, rfl, rfl, q⟩
theorem c_addS (hl : s.length + z.length ≤ sizeLine) (q : Q (.str (s ++ z)) H) : rAddU K (.str s) (.str z) H Q := .inr (.inl ⟨s, z, rfl, rfl, hl, q⟩)
theorem c_addL (ha : H a = some (.lst xs)) (hb : H b = some (.lst ys)) (hl : xs.length + ys.length ≤ sizeLine) (q : ∀ p H', New H p (.lst (xs ++ ys)) H' → Q (.ref p) H') : rAddU K (.ref a) (.ref b) H Q :=
  .inr (.inr (.inl ⟨a, b, xs, ys, rfl, rfl, ha, hb, hl, fun p hp => q p _ ⟨hp, rfl⟩⟩))
theorem c_subI (q : Q (.int (i - j)) H) : rSubU (.int i) (.int j) H Q := ⟨i, j, rfl, rfl, q⟩
theorem c_mulI (hc : (-(2 ^ 64) < i ∧ i < 2 ^ 64) ∨ (-(2 ^ 64) < j ∧ j < 2 ^ 64)) (q : Q (.int (i * j)) H) : rMulU K (.int i) (.int j) H Q := .inl ⟨i, j, rfl, rfl, hc, q⟩
theorem c_mulT (ha : SqT K H a xs) (hne : xs ≠ []) (h0 : 2 ≤ j) (h1 : j ≤ 1000) (hl : xs.length ≤ 1000) (q : ∀ p H', New H p (.tup (List.replicate j.toNat xs).flatten) H' → Q (.ref p) H') : rMulU K (.ref a) (.int j) H Q :=
  .inr (.inr (.inl ⟨a, j, xs, rfl, rfl, ha, hne, h0, h1, hl, fun p hp => q p _ ⟨hp, rfl⟩⟩))
theorem c_mulS (h0 : -9223372036854775808 ≤ j) (h1 : j < 9223372036854775808) (hl : z.length * j.toNat ≤ sizeLine) (q : Q (.str (rptS z j)) H) : rMulU K (.str z) (.int j) H Q :=
  .inr (.inr (.inr ⟨z, j, rfl, rfl, by simpa using h0, by simpa using h1, hl, q⟩))
theorem c_divI (hc : 0 < j ∧ j < 1073741824) (q : Q (.int (i / j)) H) : rDivU (.int i) (.int j) H Q := ⟨i, j, rfl, rfl, hc, q⟩
theorem c_modI (hc : 0 < j) (q : Q (.int (i % j)) H) : rModU (.int i) (.int j) H Q := ⟨i, j, rfl, rfl, hc, q⟩
theorem c_bandI (q : Q (.int (Builtin.bitAnd i j)) H) : rBandU (.int i) (.int j) H Q := ⟨i, j, rfl, rfl, q⟩
theorem c_ltI (q : Q (.bl (decide (i < j))) H) : rLtU (.int i) (.int j) H Q := .inl ⟨i, j, rfl, rfl, q⟩
theorem c_leI (q : Q (.bl (decide (i ≤ j))) H) : rLeU (.int i) (.int j) H Q := .inl ⟨i, j, rfl, rfl, q⟩
theorem c_gtI (q : Q (.bl (decide (j < i))) H) : rGtU (.int i) (.int j) H Q := .inl ⟨i, j, rfl, rfl, q⟩
theorem c_geI (q : Q (.bl (decide (j ≤ i))) H) : rGeU (.int i) (.int j) H Q := .inl ⟨i, j, rfl, rfl, q⟩
theorem dI : decide (V.int i = V.int j) = decide (i = j) := by rw [dec_int]; exact Bool.beq_eq_decide_eq _ _
theorem dS : decide (V.str s = V.str z) = decide (s = z) := by rw [dec_str]; exact Bool.beq_eq_decide_eq _ _
theorem c_eqI (q : Q (.bl (decide (i = j))) H) : rEqU K (.int i) (.int j) H Q := .inl ⟨rfl, by rw [dI]; exact q⟩
theorem c_neI (q : Q (.bl (!decide (i = j))) H) : rNeU K (.int i) (.int j) H Q := .inl ⟨rfl, by rw [dI]; exact q⟩
theorem c_eqS (q : Q (.bl (decide (s = z))) H) : rEqU K (.str s) (.str z) H Q := .inl ⟨rfl, by rw [dS]; exact q⟩
theorem c_neS (q : Q (.bl (!decide (s = z))) H) : rNeU K (.str s) (.str z) H Q := .inl ⟨rfl, by rw [dS]; exact q⟩
theorem c_eqB {b c : Bool} (q : Q (.bl (b == c)) H) : rEqU K (.bl b) (.bl c) H Q := .inl ⟨rfl, by rw [dec_bl]; exact q⟩
theorem c_neB {b c : Bool} (q : Q (.bl (b != c)) H) : rNeU K (.bl b) (.bl c) H Q := .inl ⟨rfl, by rw [dec_bl]; exact q⟩
theorem c_eqD {d e : PyData} (hx : Dp K H x d) (hy : Dp K H y e) (sd : SeqAt.shaped d = true) (se : SeqAt.shaped e = true) (q : Q (.bl (PyData.eqv d e)) H) : rEqU K x y H Q := .inr ⟨d, e, hx, hy, sd, se, q⟩
theorem c_neD {d e : PyData} (hx : Dp K H x d) (hy : Dp K H y e) (sd : SeqAt.shaped d = true) (se : SeqAt.shaped e = true) (q : Q (.bl (!PyData.eqv d e)) H) : rNeU K x y H Q := .inr ⟨d, e, hx, hy, sd, se, q⟩
theorem c_isN (q : Q (.bl (decide (x = .non))) H) : rIsU x .non H Q := ⟨rfl, q⟩
theorem c_notN (q : Q (.bl (!decide (x = .non))) H) : rIsNotU x .non H Q := ⟨rfl, q⟩
theorem c_inC {c : Nat} (q : Q (.bl (decide (c ∈ z.cps.toList))) H) : rInU K (.str ⟨#[c]⟩) (.str z) H Q := .inl ⟨c, z, rfl, rfl, q⟩
theorem c_notInC {c : Nat} (q : Q (.bl (!decide (c ∈ z.cps.toList))) H) : rNotInU K (.str ⟨#[c]⟩) (.str z) H Q := .inl ⟨c, z, rfl, rfl, q⟩
theorem c_ixL (h : SqL K H a xs) (e : atI xs i = some v) (q : Q v H) : rIx K (.ref a) (.int i) H Q := .inl ⟨a, xs, i, v, rfl, rfl, h, e, q⟩
theorem c_ixT (h : SqT K H a xs) (e : atI xs i = some v) (q : Q v H) : rIx K (.ref a) (.int i) H Q := .inr (.inl ⟨a, xs, i, v, rfl, rfl, h, e, q⟩)
theorem c_ixS {c : Nat} (h : z.length ≤ sizeLine) (e : atI z.cps.toList i = some c) (q : Q (.str ⟨#[c]⟩) H) : rIx K (.str z) (.int i) H Q := .inr (.inr ⟨z, i, c, rfl, rfl, h, e, q⟩)
theorem c_slL {lo hi : Option Int} (h : SqL K H a xs) (q : ∀ p H', New H p (.lst (cutV xs lo hi)) H' → Q (.ref p) H') : rSlU K (.ref a) lo hi H Q := .inl ⟨a, xs, rfl, h, fun p hp => q p _ ⟨hp, rfl⟩⟩
theorem c_slS {lo hi : Option Int} (h : z.length ≤ sizeLine) (q : Q (.str (cutS z lo hi)) H) : rSlU K (.str z) lo hi H Q := .inr (.inl ⟨z, rfl, h, q⟩)
theorem c_append {l : Addr} (h : H l = some (.lst xs)) (hl : xs.length < sizeLine) (q : Q .non (upd H l (.lst (xs ++ [y])))) : rAppend (.ref l) [y] H Q := ⟨l, xs, y, rfl, rfl, h, hl, q⟩
theorem c_tyL (h : SqL K H a xs) : tyV K "list" (.ref a) H := Or.inl ⟨rfl, _, h⟩
theorem c_tyA {B : Prop} (h : SqL K H a xs) (q : B) : tyV K "list" (.ref a) H ∧ B := ⟨c_tyL h, q⟩
theorem c_setL {l : Addr} {k : Nat} {R : Hp → Prop} (h : H l = some (.lst xs)) (e : ixN xs.length i = some k) (q : R (upd H l (.lst (xs.set k v)))) : rSetL (.ref l) (.int i) v H R := ⟨l, xs, i, k, rfl, rfl, h, e, q⟩
theorem c_gSub {to ti : TE} {ts : TSet} {R : St → Hp → Prop} (h : to σ H fun o H1 => ti σ H1 fun i H2 => ts o i v H2 fun H3 => R σ H3) : gSub to ti ts v σ H R := h
theorem c_truB {b : Bool} {R : Bool → Prop} (q : R b) : ∃ k, TruV K (.bl b) H k ∧ R k := ⟨b, rfl, q⟩
theorem c_ite {c : Prop} [Decidable c] {A B : Prop} (h1 : c → A) (h2 : ¬ c → B) : if decide c = true then A else B := by
  by_cases h : c
  · rw [decide_eq_true h, if_pos rfl]; exact h1 h
  · rw [decide_eq_false h, if_neg Bool.false_ne_true]; exact h2 h
theorem c_iteN {c : Prop} [Decidable c] {A B : Prop} (h1 : ¬ c → A) (h2 : c → B) : if (!decide c) = true then A else B := by
  by_cases h : c
  · rw [decide_eq_true h, Bool.not_true, if_neg Bool.false_ne_true]; exact h2 h
  · rw [decide_eq_false h, Bool.not_false, if_pos rfl]; exact h1 h
theorem c_iteT {b : Bool} {A B : Prop} (hb : b = true) (h : A) : if b = true then A else B := by rw [if_pos hb]; exact h
theorem c_iteF {b : Bool} {A B : Prop} (hb : b = false) (h : B) : if b = true then A else B := by rw [hb, if_neg Bool.false_ne_true]; exact h
theorem c_it1 {A B : Prop} (h : A) : if true = true then A else B := c_iteT rfl h
theorem c_it2 {A B : Prop} (h : B) : if false = true then A else B := c_iteF rfl h
theorem c_it3 {A B : Prop} (h : A) : if (!false) = true then A else B := c_iteT rfl h
theorem c_it4 {A B : Prop} (h : B) : if (!true) = true then A else B := c_iteF rfl h
theorem c_iteB {b : Bool} {A B : Prop} (h1 : b = true → A) (h2 : b = false → B) : if b = true then A else B := by
  cases b with
  | true => exact c_iteT rfl (h1 rfl)
  | false => exact c_iteF rfl (h2 rfl)
theorem c_iteNB {b : Bool} {A B : Prop} (h1 : b = false → A) (h2 : b = true → B) : if (!b) = true then A else B := by
  cases b with
  | true => exact c_iteF rfl (h2 rfl)
  | false => exact c_iteT rfl (h1 rfl)
end
end Sa

namespace Sa
open PySem L2

section
variable {X : Cx} {K : PySem.W.Frag} {H : Hp} {Q : VK} {i j : Int} {a : Addr} {xs : List V} {s z : Str}
def rLenU (K : PySem.W.Frag) : List V → Hp → VK → Prop := fun xs H Q => ∃ x n, xs = [x] ∧ LenV K x H n ∧ Q (.int n) H
theorem cr_len {K : PySem.W.Frag} (hK : X.K = K := by rfl) : CallR X (.builtin "len") (rLenU K) := hK ▸ call_len
theorem c_lenL (h : SqL K H a xs) (q : Q (.int xs.length) H) : rLenU K [.ref a] H Q := ⟨_, _, rfl, .inl ⟨xs, h, rfl⟩, q⟩
theorem c_lenT (h : SqT K H a xs) (q : Q (.int xs.length) H) : rLenU K [.ref a] H Q := ⟨_, _, rfl, .inr ⟨xs, h, rfl⟩, q⟩
theorem c_lenS (h : s.length ≤ sizeLine) (q : Q (.int s.length) H) : rLenU K [.str s] H Q := ⟨_, _, rfl, ⟨h, rfl⟩, q⟩
def rIntU : List V → Hp → VK → Prop := fun xs H Q => (∃ i, xs = [.int i] ∧ Q (.int i) H) ∨ ∃ k, xs = [.bl k] ∧ Q (.int (if k then 1 else 0)) H
theorem cr_int : CallR X (.type "int") rIntU := call_int1
theorem c_intI (q : Q (.int i) H) : rIntU [.int i] H Q := .inl ⟨i, rfl, q⟩
def rOrdU : List V → Hp → VK → Prop := fun xs H Q => ∃ x, xs = [.str x] ∧ x.length = 1 ∧ Q (.int (x.cps.getD 0 0 : Nat)) H
theorem c_ord {c : Nat} (q : Q (.int c) H) : rOrdU [.str ⟨#[c]⟩] H Q := ⟨_, rfl, rfl, q⟩
def rMax2U : List V → Hp → VK → Prop := fun xs H Q => ∃ i j, xs = [.int i, .int j] ∧ Q (.int (if j > i then j else i)) H
def rMin2U : List V → Hp → VK → Prop := fun xs H Q => ∃ i j, xs = [.int i, .int j] ∧ Q (.int (if j < i then j else i)) H
theorem c_max2 (q : Q (.int (max i j)) H) : rMax2U [.int i, .int j] H Q := ⟨i, j, rfl, by
  have e : (if j > i then j else i) = max i j := by split <;> omega
  rw [e]; exact q⟩
theorem c_min2 (q : Q (.int (min i j)) H) : rMin2U [.int i, .int j] H Q := ⟨i, j, rfl, by
  have e : (if j < i then j else i) = min i j := by split <;> omega
  rw [e]; exact q⟩
def rTupU (K : PySem.W.Frag) : List V → Hp → VK → Prop := fun xs H Q => ∃ p ys, xs = [.ref p] ∧ ((SqL K H p ys ∧ ∀ l, H l = none → Q (.ref l) (upd H l (.tup ys))) ∨ (SqT K H p ys ∧ Q (.ref p) H))
theorem cr_tuple {K : PySem.W.Frag} (hK : X.K = K := by rfl) : CallR X (.type "tuple") (rTupU K) := hK ▸ call_tuple_of
theorem c_tupleL (h : SqL K H a xs) (q : ∀ l H', New H l (.tup xs) H' → Q (.ref l) H') : rTupU K [.ref a] H Q := ⟨a, xs, rfl, .inl ⟨h, fun p hp => q p _ ⟨hp, rfl⟩⟩⟩
def rAllU (K : PySem.W.Frag) : List V → Hp → VK → Prop := rAll K
theorem cr_allU {K : PySem.W.Frag} (hc : X.calm = true) (hK : X.K = K := by rfl) : CallR X (.builtin "all") (rAllU K) := hK ▸ cr_all hc
theorem c_allB {bs : List Bool} (h : SqL K H a (bs.map V.bl)) (q : Q (.bl (bs.all id)) H) : rAllU K [.ref a] H Q := ⟨a, bs, rfl, h, q⟩
end
section
variable {X : Cx} {K : PySem.W.Frag} {σ : St} {H : Hp} {Q : VK} {a : Addr} {s z : Str} {ys : List Str} {to te : TE} {o e : Expr}
theorem c_m1 {r : V → List V → Hp → VK → Prop} (h : to σ H fun x H1 => (∃ a, x = .str a) ∧ te σ H1 fun y H2 => r x [y] H2 Q) : tM1 r to te σ H Q := h
theorem c_isStr {A : Prop} (h : A) : (∃ b, V.str s = V.str b) ∧ A := ⟨⟨s, rfl⟩, h⟩
def rJoin (K : PySem.W.Frag) : V → List V → Hp → VK → Prop := fun x xs H Q => ∃ a p, ∃ ys : List Str, x = .str a ∧ xs = [.ref p] ∧ (SqL K H p (ys.map V.str) ∨ SqT K H p (ys.map V.str)) ∧
  (ys.map (·.length)).sum + ys.length * a.length ≤ 16777216 ∧ Q (.str (Txt.join a ys)) H
theorem pe_joinU {K : PySem.W.Frag} {apos pos : Pos} (ho : PE X o to) (he : PE X e te) (hK : X.K = K := by rfl) (hs : starEach [e] X.env = [(false, eval e X.env)] := by rfl) (hbase : attributeBase o "join" X.env (eval o X.env) = eval o X.env := by rfl) (hline : (apos.endLine == pos.line) = true := by rfl) :
    PE X (.Call (.Attribute o "join" apos) [e] [] pos) (tM1 (rJoin K) to te) := hK ▸ pe_join ho he hs hbase hline
theorem c_join (h : SqL K H a (ys.map V.str)) (hl : (ys.map (·.length)).sum + ys.length * s.length ≤ 16777216) (q : Q (.str (Txt.join s ys)) H) : rJoin K (.str s) [.ref a] H Q := ⟨s, a, ys, rfl, rfl, .inl h, hl, q⟩
end

section
variable {X : Cx} {K : PySem.W.Frag} {e o : Expr} {es : List Expr} {te to ta : TE} {tr : TA} {tg : Expr} {x : Str}
theorem pt_tru {a : Expr} (ha : PE X a ta) (hK : X.K = K := by rfl) (he : ∀ whole, isTrue a X.env whole = (do let v ← whole; standAt a.pos; holding [v] (truthy v)) := by intro _; rfl) :
    PT X a (fun σ H Q => ta σ H fun x H' => ∃ k, TruV K x H' k ∧ Q k H') := hK ▸ pt_truth ha he
theorem pi_listU (hl : PE X e te) (hK : X.K = K := by rfl) : PI X tg e (iList K te) := hK ▸ pi_list hl
theorem pi_tupU (hl : PE X e te) (hK : X.K = K := by rfl) : PI X tg e (iTup K te) := hK ▸ pi_tup hl
theorem pg_tupU {pos : Pos} {k n : Nat} {t : TGs} (hc : X.calm = true) (h : PGs X es t) (hK : X.K = K := by rfl) (hn : (assignEach es X.env).length = n := by rfl) (hst : (assignEach es X.env).findIdx? (·.1) = none := by rfl) : PG X (.Tuple es k pos) (gTup K n t) := hK ▸ pg_tup hc h hn hst
theorem pe_appendU {apos cpos : Pos} (ho : PE X o to) (he : PE X e te) (hK : X.K = K := by rfl) (hbase : attributeBase o "append" X.env (eval o X.env) = eval o X.env := by rfl)
    (hfew : ((backTo cpos (starEach [e] X.env)).all (fun x => !x.1) && (backToKw cpos (keywordEach [] X.env)).all (fun x => x.1.isSome)
      && decide (([e] : List Expr).length + ([] : List Keyword).length + (if ([] : List Keyword).isEmpty then 0 else 1) < 30)) = true := by rfl)
    (hline : (apos.endLine == cpos.line) = true := by rfl) (hs : starEach [e] X.env = (false, eval e X.env) :: starEach [] X.env := by rfl) (hplain : (backTo cpos (starEach [] X.env)).any (·.1) = false := by rfl) :
    PE X (.Call (.Attribute o "append" apos) [e] [] cpos) (tBM K "list" rAppend to (tCons te tNil)) :=
  hK ▸ pe_bm PySem.F.plainAttrs_list PySem.F.slot_list_append PySem.F.type_list_append mt_append ho (pa_cons he pa_nil hs) hbase hfew hline hs hplain
end

def Kp (ms : List Addr) (H H' : Hp) : Prop := ∀ a o, a ∉ ms → H a = some o → H' a = some o
section
variable {K : PySem.W.Frag} {H H1 H2 : Hp} {a b p : Addr} {o u : HO} {ms ns : List Addr} {xs : List V}
theorem Kp.refl : Kp ms H H := fun _ _ _ h => h
theorem Kp.trans (e : Kp ms H H1) (f : Kp ms H1 H2) : Kp ms H H2 := fun a o n h => f a o n (e a o n h)
theorem Kp.mono (e : Kp [] H H1) : Kp ms H H1 := fun a o _ h => e a o (by simp) h
theorem Kp.new (hp : H p = none) : Kp ms H (upd H p o) := fun a u _ h => by rw [upd_ne (ne_of_none h hp)]; exact h
theorem Kp.mut (hp : p ∈ ms) : Kp ms H (upd H p o) := fun a u n h => by rw [upd_ne (fun e : a = p => n (by rw [e]; exact hp))]; exact h
theorem Kp.at0 (e : Kp [] H H1) (h : H a = some o) : H1 a = some o := e a o (by simp) h
theorem Kp.at1 (e : Kp [b] H H1) (n : a ≠ b) (h : H a = some o) : H1 a = some o := e a o (by simpa using n) h
theorem Kp.fresh_mut (e : Kp ms H H1) (hp : H p = none) : Kp ms H (upd H1 p o) := fun a u n h => by rw [upd_ne (ne_of_none h hp)]; exact e a u n h
theorem Kp.drop_fresh (e : Kp (p :: ms) H H1) (hp : H p = none) : Kp ms H H1 := fun a u n h => e a u (by simp only [List.mem_cons, not_or]; exact ⟨ne_of_none h hp, n⟩) h
theorem upd_new (hp : H p = none) (h : H a = some o) : upd H p u a = some o := by rw [upd_ne (ne_of_none h hp)]; exact h
theorem upd_other (n : a ≠ p) (h : H a = some o) : upd H p u a = some o := by rw [upd_ne n]; exact h
theorem free_upd (h : upd H p u a = none) : H a = none := by
  by_cases e : a = p
  · subst e; rw [upd_same] at h; cases h
  · rw [upd_ne e] at h; exact h
theorem rd_at (e : ∀ o, H a = some o → H1 a = some o) (h : Rd H a u) : Rd H1 a u := by
  rcases h with h | ⟨o, h⟩
  · exact .inl (e _ h)
  · exact .inr ⟨o, e _ h⟩
theorem SqL.at (e : ∀ o, H a = some o → H1 a = some o) (h : SqL K H a xs) : SqL K H1 a xs := h.elim (fun h => .inl (rd_at e h)) .inr
theorem SqT.at (e : ∀ o, H a = some o → H1 a = some o) (h : SqT K H a xs) : SqT K H1 a xs := h.elim (fun h => .inl (rd_at e h)) .inr
theorem SqL.kp (e : Kp [] H H1) (h : SqL K H a xs) : SqL K H1 a xs := SqL.at (fun _ => e.at0) h
theorem SqT.kp (e : Kp [] H H1) (h : SqT K H a xs) : SqT K H1 a xs := SqT.at (fun _ => e.at0) h
theorem SqL.kp1 (e : Kp [b] H H1) (n : a ≠ b) (h : SqL K H a xs) : SqL K H1 a xs := SqL.at (fun _ => e.at1 n) h
theorem SqT.kp1 (e : Kp [b] H H1) (n : a ≠ b) (h : SqT K H a xs) : SqT K H1 a xs := SqT.at (fun _ => e.at1 n) h
theorem SqL.new (hp : H p = none) (h : SqL K H a xs) : SqL K (upd H p u) a xs := SqL.at (fun _ => upd_new hp) h
theorem SqT.new (hp : H p = none) (h : SqT K H a xs) : SqT K (upd H p u) a xs := SqT.at (fun _ => upd_new hp) h
theorem SqL.other (n : a ≠ p) (h : SqL K H a xs) : SqL K (upd H p u) a xs := SqL.at (fun _ => upd_other n) h
theorem SqT.other (n : a ≠ p) (h : SqT K H a xs) : SqT K (upd H p u) a xs := SqT.at (fun _ => upd_other n) h
theorem New.kp (N : New H p o H1) : Kp ms H H1 := by rw [N.eq]; exact Kp.new N.fr
theorem New.at_ (N : New H p o H1) : H1 p = some o := by rw [N.eq]; exact upd_same
theorem New.keep (N : New H p o H1) (h : H a = some u) : H1 a = some u := by rw [N.eq]; exact upd_new N.fr h
theorem New.free (N : New H p o H1) (h : H1 a = none) : H a = none := by rw [N.eq] at h; exact free_upd h
theorem New.ne (N : New H p o H1) (h : H a = some u) : p ≠ a := (ne_of_none h N.fr).symm
theorem New.sqL (N : New H p o H1) (h : SqL K H a xs) : SqL K H1 a xs := SqL.kp N.kp h
theorem New.sqT (N : New H p o H1) (h : SqT K H a xs) : SqT K H1 a xs := SqT.kp N.kp h
theorem ne_of2 (h : H a = some o) (h' : H b = none) : a ≠ b := ne_of_none h h'
end

theorem atI_at {xs : List V} {i : Int} (h0 : 0 ≤ i) (h1 : i < xs.length) : atI xs i = some (xs.getD i.toNat .non) := by
  have e : i = ((i.toNat : Nat) : Int) := by omega
  have h : xs[i.toNat]? = some (xs.getD i.toNat .non) := by
    rw [List.getD_eq_getElem?_getD, List.getElem?_eq_getElem (by omega)]
    rfl
  exact e ▸ atI_nat h
theorem atI_ints {ns : List Int} {i : Int} (h0 : 0 ≤ i) (h1 : i < ns.length) : atI (ns.map V.int) i = some (.int (ns.getD i.toNat 0)) := by
  rw [atI_at h0 (by rw [List.length_map]; exact h1)]
  congr 1
  rw [List.getD_eq_getElem?_getD, List.getD_eq_getElem?_getD, List.getElem?_map, List.getElem?_eq_getElem (by omega)]
  rfl
structure Bx (H : Hp) (b d : Addr) : Prop where
  ex : ∃ (at_ : Int) (ds : List Int), H b = some (.lst [.ref d, .int at_]) ∧ H d = some (.lst (ds.map V.int)) ∧ 0 ≤ at_
section
variable {H H1 : Hp} {b d p : Addr} {o : HO}
theorem Bx.ne (h : Bx H b d) : d ≠ b := by
  obtain ⟨at_, ds, h1, h2, _⟩ := h.ex
  intro e
  subst e
  rw [h1] at h2
  cases ds with
  | nil => cases h2
  | cons n r => simp at h2
theorem Bx.kp0 (h : Bx H b d) (e : Kp [] H H1) : Bx H1 b d := by
  obtain ⟨at_, ds, h1, h2, h3⟩ := h.ex
  exact ⟨at_, ds, e.at0 h1, e.at0 h2, h3⟩
theorem Bx.new (h : Bx H b d) (hp : H p = none) : Bx (upd H p o) b d := h.kp0 (Kp.new hp)
theorem Bx.other (h : Bx H b d) (n1 : p ≠ b) (n2 : p ≠ d) : Bx (upd H p o) b d := by
  obtain ⟨at_, ds, h1, h2, h3⟩ := h.ex
  exact ⟨at_, ds, upd_other (Ne.symm n1) h1, upd_other (Ne.symm n2) h2, h3⟩
theorem Bx.nw (h : Bx H b d) (N : New H p o H1) : Bx H1 b d := by rw [N.eq]; exact h.new N.fr
theorem Bx.ne_new (h : Bx H b d) (hp : H p = none) : p ≠ b ∧ p ≠ d := by
  obtain ⟨at_, ds, h1, h2, h3⟩ := h.ex
  exact ⟨fun e => ne_of_none h1 hp e.symm, fun e => ne_of_none h2 hp e.symm⟩
end
end Sa

namespace Sa
open PySem L2

section
variable {K : PySem.W.Frag} {σ : St} {H : Hp} {D : Ends} {wi : TI} {g : TG} {tb : TS} {ta : TA} {tl te : TE} {tt : TT} {R : It → Hp → Prop} {a : Addr} {xs : List V} {lo hi : Int} {n : Nat} {Q : VK} {vs : List Nat} {z : Str}
def ForJ (J : It) (g : TG) (tb : TS) (D : Ends) (σ : St) (H1 : Hp) : Prop := ∃ W : Nat → Nat → St → Hp → Prop, (∃ m, W 0 m σ H1) ∧ ∀ i m σ H, W i m σ H →
  (J.stop i H ∧ D.nx σ H) ∨ (J.go i H ∧ ∃ N : St → Hp → Prop, (∀ σ' H', N σ' H' → ∃ m', m' < m ∧ W (i + 1) m' σ' H') ∧ ∀ x H', J.yld i H x H' → g x σ H' fun σ2 H2 => tb { D with nx := N, ct := N, bk := D.nx } σ2 H2)
def LcJ (J : It) (g : TG) (tt : TT) (te : TE) (vs : List Nat) (σ : St) (H1 : Hp) (Q : VK) : Prop := ∀ D, H1 D = none → ∃ W : Nat → Nat → Hp → Prop, (∃ m, W 0 m (upd H1 D (.lst []))) ∧ ∀ i m H, W i m H →
  (J.stop i H ∧ Q (.ref D) H) ∨ (J.go i H ∧ ∃ Nx : Hp → Prop, (∀ H', Nx H' → ∃ m', m' < m ∧ W (i + 1) m' H') ∧ ∀ x H', J.yld i H x H' → g x (wipe σ vs) H' fun σ2 H2 => wipe σ2 vs = wipe σ vs ∧ tt σ2 H2 fun b H3 =>
    if b = true then te σ2 H3 fun y H4 => ∃ acc, H4 D = some (.lst acc) ∧ acc.length < sizeLine ∧ Nx (upd H4 D (.lst (acc ++ [y]))) else Nx H3)
theorem c_for (h : wi σ H fun J H1 => ForJ J g tb D σ H1) : tFor wi g tb D σ H := h
theorem c_lc (h : wi σ H fun J H1 => LcJ J g tt te vs σ H1 Q) : tLc wi g tt te vs σ H Q := h
theorem c_rng1 (h : ta σ H fun vs H1 => ∃ j : Int, vs = [.int j] ∧ -(2 ^ 62) ≤ j ∧ j < 2 ^ 62 ∧ R (Itr 0 j.toNat) H1) : iRng1 ta σ H R := h
theorem c_rng2 (h : ta σ H fun vs H1 => ∃ i j : Int, vs = [.int i, .int j] ∧ (-(2 ^ 62) ≤ i ∧ i < 2 ^ 62 ∧ -(2 ^ 62) ≤ j ∧ j < 2 ^ 62) ∧ R (Itr i (j - i).toNat) H1) : iRng2 ta σ H R := h
theorem c_r1F (h1 : -4611686018427387904 ≤ hi ∧ hi < 4611686018427387904) (h : ForJ (Itr 0 hi.toNat) g tb D σ H) : ∃ j : Int, [V.int hi] = [.int j] ∧ -(2 ^ 62) ≤ j ∧ j < 2 ^ 62 ∧ ForJ (Itr 0 j.toNat) g tb D σ H := ⟨hi, rfl, by omega, by omega, h⟩
theorem c_r2F (h1 : -4611686018427387904 ≤ hi ∧ hi < 4611686018427387904 ∧ -4611686018427387904 ≤ lo ∧ lo < 4611686018427387904) (h : ForJ (Itr lo (hi - lo).toNat) g tb D σ H) : ∃ i j : Int, [V.int lo, V.int hi] = [.int i, .int j] ∧ (-(2 ^ 62) ≤ i ∧ i < 2 ^ 62 ∧ -(2 ^ 62) ≤ j ∧ j < 2 ^ 62) ∧ ForJ (Itr i (j - i).toNat) g tb D σ H :=
  ⟨lo, hi, rfl, by omega, h⟩
theorem c_itLF (h : SqL K H a xs) (q : ForJ (Itl K a) g tb D σ H) : ∃ b, V.ref a = .ref b ∧ (∃ xs, SqL K H b xs) ∧ ForJ (Itl K b) g tb D σ H := ⟨a, rfl, ⟨xs, h⟩, q⟩
theorem c_itTF (h : SqT K H a xs) (q : ForJ (Itt K a) g tb D σ H) : ∃ b, V.ref a = .ref b ∧ (∃ xs, SqT K H b xs) ∧ ForJ (Itt K b) g tb D σ H := ⟨a, rfl, ⟨xs, h⟩, q⟩
theorem c_itSF (q : ForJ (Its z) g tb D σ H) : ∃ x, V.str z = .str x ∧ ForJ (Its x) g tb D σ H := ⟨z, rfl, q⟩
theorem c_r1C (h1 : -4611686018427387904 ≤ hi ∧ hi < 4611686018427387904) (h : LcJ (Itr 0 hi.toNat) g tt te vs σ H Q) : ∃ j : Int, [V.int hi] = [.int j] ∧ -(2 ^ 62) ≤ j ∧ j < 2 ^ 62 ∧ LcJ (Itr 0 j.toNat) g tt te vs σ H Q := ⟨hi, rfl, by omega, by omega, h⟩
theorem c_r2C (h1 : -4611686018427387904 ≤ hi ∧ hi < 4611686018427387904 ∧ -4611686018427387904 ≤ lo ∧ lo < 4611686018427387904) (h : LcJ (Itr lo (hi - lo).toNat) g tt te vs σ H Q) : ∃ i j : Int, [V.int lo, V.int hi] = [.int i, .int j] ∧ (-(2 ^ 62) ≤ i ∧ i < 2 ^ 62 ∧ -(2 ^ 62) ≤ j ∧ j < 2 ^ 62) ∧ LcJ (Itr i (j - i).toNat) g tt te vs σ H Q :=
  ⟨lo, hi, rfl, by omega, h⟩
theorem c_itLC (h : SqL K H a xs) (q : LcJ (Itl K a) g tt te vs σ H Q) : ∃ b, V.ref a = .ref b ∧ (∃ xs, SqL K H b xs) ∧ LcJ (Itl K b) g tt te vs σ H Q := ⟨a, rfl, ⟨xs, h⟩, q⟩
theorem c_itTC (h : SqT K H a xs) (q : LcJ (Itt K a) g tt te vs σ H Q) : ∃ b, V.ref a = .ref b ∧ (∃ xs, SqT K H b xs) ∧ LcJ (Itt K b) g tt te vs σ H Q := ⟨a, rfl, ⟨xs, h⟩, q⟩
theorem c_itSC (q : LcJ (Its z) g tt te vs σ H Q) : ∃ x, V.str z = .str x ∧ LcJ (Its x) g tt te vs σ H Q := ⟨z, rfl, q⟩
theorem c_iList (h : tl σ H fun x H1 => ∃ a, x = .ref a ∧ (∃ xs, SqL K H1 a xs) ∧ R (Itl K a) H1) : iList K tl σ H R := h
theorem c_iTup (h : tl σ H fun x H1 => ∃ a, x = .ref a ∧ (∃ xs, SqT K H1 a xs) ∧ R (Itt K a) H1) : iTup K tl σ H R := h
theorem c_iStr (h : tl σ H fun v H1 => ∃ x, v = .str x ∧ R (Its x) H1) : iStr tl σ H R := h
theorem forR (Pv : Nat → St → Hp → Prop) (h0 : Pv 0 σ H) (hs : ∀ i σ H, i < n → Pv i σ H → g (.int (lo + i)) σ H fun σ2 H2 => tb { D with nx := Pv (i + 1), ct := Pv (i + 1), bk := D.nx } σ2 H2) (hd : ∀ σ H, Pv n σ H → D.nx σ H) : ForJ (Itr lo n) g tb D σ H := for_range Pv h0 hs hd
theorem forS (Pv : Nat → St → Hp → Prop) (h0 : Pv 0 σ H)
    (hs : ∀ (i : Nat) (c : Nat) σ H, z.cps.toList[i]? = some c → Pv i σ H → g (.str ⟨#[c]⟩) σ H fun σ2 H2 => tb { D with nx := Pv (i + 1), ct := Pv (i + 1), bk := D.nx } σ2 H2) (hd : ∀ σ H, Pv z.cps.toList.length σ H → D.nx σ H) : ForJ (Its z) g tb D σ H := by
  refine ⟨fun i m σ H => m = z.cps.size - i ∧ i ≤ z.cps.size ∧ Pv i σ H, ⟨_, rfl, Nat.zero_le _, h0⟩, ?_⟩
  rintro i m σ H ⟨rfl, hi, p⟩
  by_cases hlt : i < z.cps.size
  · refine .inr ⟨hlt, Pv (i + 1), fun σ' H' p' => ⟨_, by omega, rfl, hlt, p'⟩, fun x H' y => ?_⟩
    obtain ⟨e, c, hc, e2⟩ := y
    subst e e2
    exact hs i c σ _ (by rw [Array.getElem?_toList]; exact hc) p
  · have e : i = z.cps.toList.length := by rw [Array.length_toList]; omega
    subst e
    exact .inl ⟨by rw [Array.length_toList] at hlt; exact Nat.le_of_not_lt hlt, hd σ H p⟩

def LcN (Pv : Addr → Nat → List V → Hp → Prop) (Dl : Addr) (i : Nat) (H : Hp) : Prop := ∃ acc, H Dl = some (.lst acc) ∧ acc.length ≤ i ∧ Pv Dl i acc H
abbrev LcT (g : TG) (tt : TT) (te : TE) (vs : List Nat) (σ : St) (Pv : Addr → Nat → List V → Hp → Prop) (Dl : Addr) (i : Nat) (x : V) (H' : Hp) : Prop :=
  g x (wipe σ vs) H' fun σ2 H2 => wipe σ2 vs = wipe σ vs ∧ tt σ2 H2 fun b H3 =>
    if b = true then te σ2 H3 fun y H4 => ∃ acc, H4 Dl = some (.lst acc) ∧ acc.length < sizeLine ∧ LcN Pv Dl (i + 1) (upd H4 Dl (.lst (acc ++ [y]))) else LcN Pv Dl (i + 1) H3
theorem lc_push {Pv : Addr → Nat → List V → Hp → Prop} {Dl : Addr} {i : Nat} {H4 : Hp} {acc : List V} {y : V} (h : H4 Dl = some (.lst acc)) (hl : acc.length ≤ i) (hi : i < 16777216) (p : Pv Dl (i + 1) (acc ++ [y]) (upd H4 Dl (.lst (acc ++ [y])))) :
    ∃ acc, H4 Dl = some (.lst acc) ∧ acc.length < sizeLine ∧ LcN Pv Dl (i + 1) (upd H4 Dl (.lst (acc ++ [y]))) :=
  ⟨acc, h, by rw [sizeLine_eq]; omega, acc ++ [y], upd_same, by rw [List.length_append, List.length_singleton]; omega, p⟩
theorem lc_skip {Pv : Addr → Nat → List V → Hp → Prop} {Dl : Addr} {i : Nat} {H3 : Hp} {acc : List V} (h : H3 Dl = some (.lst acc)) (hl : acc.length ≤ i) (p : Pv Dl (i + 1) acc H3) : LcN Pv Dl (i + 1) H3 := ⟨acc, h, by omega, p⟩
theorem lcR (Pv : Addr → Nat → List V → Hp → Prop) (h0 : ∀ Dl, H Dl = none → Pv Dl 0 [] (upd H Dl (.lst [])))
    (hs : ∀ Dl i acc H', H Dl = none → i < n → H' Dl = some (.lst acc) → acc.length ≤ i → Pv Dl i acc H' → LcT g tt te vs σ Pv Dl i (.int (lo + i)) H')
    (hd : ∀ Dl acc H', H Dl = none → H' Dl = some (.lst acc) → acc.length ≤ n → Pv Dl n acc H' → Q (.ref Dl) H') : LcJ (Itr lo n) g tt te vs σ H Q := fun Dl hD =>
  lc_range (LcN Pv Dl) ⟨[], upd_same, Nat.zero_le _, h0 Dl hD⟩ (fun i H' hi ⟨acc, h1, h2, h3⟩ => hs Dl i acc H' hD hi h1 h2 h3) fun H' ⟨acc, h1, h2, h3⟩ => hd Dl acc H' hD h1 h2 h3
theorem lcL (xs : List V) (Pv : Addr → Nat → List V → Hp → Prop) (h0 : ∀ Dl, H Dl = none → Pv Dl 0 [] (upd H Dl (.lst []))) (hl : ∀ Dl i acc H', H Dl = none → Pv Dl i acc H' → SqL K H' a xs)
    (hs : ∀ Dl i x acc H', H Dl = none → xs[i]? = some x → H' Dl = some (.lst acc) → acc.length ≤ i → Pv Dl i acc H' → LcT g tt te vs σ Pv Dl i x H')
    (hd : ∀ Dl acc H', H Dl = none → H' Dl = some (.lst acc) → acc.length ≤ xs.length → Pv Dl xs.length acc H' → Q (.ref Dl) H') : LcJ (Itl K a) g tt te vs σ H Q := fun Dl hD =>
  lc_list (xs := xs) (LcN Pv Dl) ⟨[], upd_same, Nat.zero_le _, h0 Dl hD⟩ (fun i H' _ ⟨acc, _, _, h3⟩ => hl Dl i acc H' hD h3) (fun i x H' hi ⟨acc, h1, h2, h3⟩ => hs Dl i x acc H' hD hi h1 h2 h3) fun H' ⟨acc, h1, h2, h3⟩ => hd Dl acc H' hD h1 h2 h3
theorem c_unL {K : PySem.W.Frag} {ys : List V} {gs : TGs} {R : St → Hp → Prop} (h : SqL K H a ys) (hl : ys.length = n) (q : gs ys σ H R) : gLst K n gs (.ref a) σ H R := ⟨a, ys, rfl, h, hl, q⟩
theorem c_unT {K : PySem.W.Frag} {ys : List V} {gs : TGs} {R : St → Hp → Prop} (h : SqT K H a ys) (hl : ys.length = n) (q : gs ys σ H R) : gTup K n gs (.ref a) σ H R := ⟨a, ys, rfl, h, hl, q⟩
theorem c_gCons {v : V} {r : List V} {gs : TGs} {R : St → Hp → Prop} (q : g v σ H fun σ' H' => gs r σ' H' R) : gCons g gs (v :: r) σ H R := ⟨v, r, rfl, q⟩
theorem c_gNil {R : St → Hp → Prop} (q : R σ H) : gNil [] σ H R := ⟨rfl, q⟩
theorem c_cut {t u : TS} (Mid : St → Hp → Prop) (h1 : t { D with nx := Mid } σ H) (h2 : ∀ σ' H', Mid σ' H' → u D σ' H') : Evl.tCut t u D σ H := ⟨Mid, h1, h2⟩
theorem c_yes {R : Bool → Hp → Prop} (h : R true H) : tYes σ H R := h
end
end Sa

namespace Sa
open PySem L2

def txt (cs : List Nat) : Str := ⟨cs.toArray⟩
theorem txt_len (cs : List Nat) : (txt cs).length = cs.length := by show cs.toArray.size = _; simp
theorem txt_cps (cs : List Nat) : (txt cs).cps.toList = cs := by show cs.toArray.toList = _; simp
theorem txt_of (s : Str) : s = txt s.cps.toList := by cases s; simp [txt]
theorem txt_inj {cs ds : List Nat} : txt cs = txt ds ↔ cs = ds := by
  constructor
  · intro h
    have e := congrArg (fun s : Str => s.cps.toList) h
    simpa [txt] using e
  · intro h; rw [h]
theorem cutS_txt (cs : List Nat) (lo hi : Option Int) : cutS (txt cs) lo hi = txt ((cs.drop (HT.sIx cs.length 0 lo)).take (HT.sIx cs.length cs.length hi - HT.sIx cs.length 0 lo)) := by
  unfold cutS
  rw [txt_len, txt_cps]
  rfl
theorem tjoin (s : Str) (ys : List Str) : Txt.join s ys = Str.join s ys := StrLaws.glued_eq_join s ys
def cutL {α : Type} (xs : List α) (lo hi : Option Int) : List α := (xs.drop (HT.sIx xs.length 0 lo)).take (HT.sIx xs.length xs.length hi - HT.sIx xs.length 0 lo)
theorem cutV_eq (xs : List V) (lo hi : Option Int) : cutV xs lo hi = cutL xs lo hi := rfl
theorem cutL_map {α β : Type} (f : α → β) (xs : List α) (lo hi : Option Int) : cutL (xs.map f) lo hi = (cutL xs lo hi).map f := by
  unfold cutL
  rw [List.length_map, List.map_take, List.map_drop]
theorem sIx_of {n d : Nat} {i : Int} (h : 0 ≤ i) : HT.sIx n d (some i) = min i.toNat n := by
  obtain ⟨k, rfl⟩ := Int.eq_ofNat_of_zero_le h
  exact HT.sIx_nat n d k
theorem cutL_to {α : Type} {xs : List α} {j : Int} (h1 : 0 ≤ j) (h2 : j ≤ xs.length) : cutL xs none (some j) = xs.take j.toNat := by
  unfold cutL
  rw [sIx_of h1, Nat.min_eq_left (by omega)]
  simp [HT.sIx]
section
variable {K : PySem.W.Frag} {H : Hp} {Q : VK} {a b : Addr} {ns ms : List Int}
end
theorem map_snocI (ds : List Int) (z : Int) : ds.map V.int ++ [V.int z] = (ds ++ [z]).map V.int := by rw [List.map_append]; rfl
theorem take_succ' {α : Type} {xs : List α} {i : Nat} {x : α} (h : xs[i]? = some x) : xs.take (i + 1) = xs.take i ++ [x] := by
  rw [List.take_succ, h]; rfl
end Sa

namespace Sa
open PySem PySem.Spec PyProof.Rows L2
structure FnG (P : Program) (w : World) (K : PySem.W.Frag) (mg : Str → Option Value) (base : Heap) (CX : CXT) (k : Nat) (f : Addr) (fd : FuncData) (ps : List Str) (sp : Sp) : Prop where
  len : ∀ vs H Q E, sp vs H Q E → vs.length = ps.length
  go : ∀ (A : Around) (fs : List Env) (s : Shared) (H : Hp) (args : Args) (us : List Value) (vs : List V) (Q : VK) (E : XK),
    A.guards = some [] ∧ Room k A ∧ Env0 P w K mg base A fs s H ∧ BindsTo s fd args (ps.zip us) ∧ Vals vs us ∧ sp vs H Q E → codeAny (model P w) A (.call (.ref f) args) (CR CX fs P w H s Q E) s
theorem FnG.mono {P : Program} {w : World} {K : PySem.W.Frag} {mg : Str → Option Value} {base : Heap} {CX : CXT} {j k : Nat} {f : Addr} {fd : FuncData} {ps : List Str} {sp : Sp} (F : FnG P w K mg base CX j f fd ps sp) (h : j ≤ k) : FnG P w K mg base CX k f fd ps sp :=
  ⟨F.len, fun A fs s H args us vs Q E z => F.go A fs s H args us vs Q E ⟨z.1, z.2.1.mono h, z.2.2⟩⟩
section
variable {P : Program} {w : World} {K : PySem.W.Frag} {mg : Str → Option Value} {base : Heap} {CX : CXT} {k : Nat} {f : Addr} {x : Str} {st : Stmt} {N ps : List Str} {sp : Sp}
end
structure DefG (P : Program) (w : World) (K : PySem.W.Frag) (mg : Str → Option Value) (base : Heap) (x : Str) (k : Nat) (ps : List Str) (sp : Sp) : Prop where
  gl : mg x = some (.ref (He.ga K x))
  kp : PySem.W.keepIn K (.ref (He.ga K x)) = true
  ok : ∃ fd, FnG P w K mg base CX0 k (He.ga K x) fd ps sp ∧ Binds K fd ps []
section
variable {X : Cx} {x : Str} {k j : Nat} {ps : List Str} {sp : Sp} {p pos : Pos} {e : Expr} {es : List Expr} {t : TA}
end
structure Nice (d : PyData) : Prop where
  lay : PyData.layable0 d = true
  shrt : PyData.intsShort 13 d = true
  show_ : PyData.showable d = true
theorem Nice.size {d : PyData} (h : Nice d) : d.shown.length ≤ sizeLine := by
  have z := shown_le13 h.lay h.shrt
  rw [sizeLine_eq]
  omega
theorem Nice.depth {d : PyData} (h : Nice d) : d.depth ≤ 64 := by
  have z := h.lay
  unfold PyData.layable0 at z
  simp only [Bool.and_eq_true, decide_eq_true_eq] at z
  exact z.1.2
end Sa

namespace Sa
open PySem L2
section
variable {X : Cx} {K : PySem.W.Frag} {σ : St} {H : Hp} {Q : VK} {a : Addr} {s z : Str} {to te : TE} {o e : Expr}
def rSplitU : V → List V → Hp → VK → Prop := fun x xs H Q => ∃ a b, x = .str a ∧ xs = [.str b] ∧ (b.length == 0) = false ∧ a.length + 2 ≤ sizeLine ∧ ∀ p, H p = none → Q (.ref p) (upd H p (.lst ((Txt.split a b).map V.str)))
theorem pe_splitU {apos pos : Pos} (ho : PE X o to) (he : PE X e te) (hs : starEach [e] X.env = [(false, eval e X.env)] := by rfl) (hbase : attributeBase o "split" X.env (eval o X.env) = eval o X.env := by rfl) (hline : (apos.endLine == pos.line) = true := by rfl) :
    PE X (.Call (.Attribute o "split" apos) [e] [] pos) (tM1 rSplitU to te) := pe_split ho he hs hbase hline
theorem c_split (h0 : (z.length == 0) = false) (hl : s.length + 2 ≤ sizeLine) (q : ∀ p H', New H p (.lst ((Txt.split s z).map V.str)) H' → Q (.ref p) H') : rSplitU (.str s) [.str z] H Q :=
  ⟨s, z, rfl, rfl, h0, hl, fun p hp => q p _ ⟨hp, rfl⟩⟩
end
theorem join_len (y : Str) : ∀ ys : List Str, (ys.map (·.length)).sum + (ys.length - 1) * y.length = (Str.join y ys).length
  | [] => by show 0 + 0 * y.length = 0; omega
  | [x] => by show x.length + 0 + 0 * y.length = x.length; omega
  | x :: z :: r => by
    have ih := join_len y (z :: r)
    show _ = (x ++ y ++ Str.join y (z :: r)).length
    have l2 : ∀ a b : Str, (a ++ b).length = a.length + b.length := fun a b => by show (a.cps ++ b.cps).size = _; rw [Array.size_append]; rfl
    rw [l2, l2, ← ih]
    simp only [List.map_cons, List.sum_cons, List.length_cons, Nat.add_sub_cancel, Nat.add_mul, Nat.one_mul]
    omega
theorem split_len (x y : Str) : ((Txt.split x y).map (·.length)).sum + ((Txt.split x y).length - 1) * y.length = x.length := by
  rw [join_len, StrLaws.join_split]
theorem sum_mem {n : Nat} : ∀ {ns : List Nat}, n ∈ ns → n ≤ ns.sum
  | m :: r, h => by
    rw [List.sum_cons]
    rcases List.mem_cons.mp h with e | h
    · omega
    · have := sum_mem h
      omega
theorem split_part {x y z : Str} (h : z ∈ Txt.split x y) : z.length ≤ x.length := by
  have e := split_len x y
  have := sum_mem (List.mem_map_of_mem (f := fun s : Str => s.length) h)
  omega
theorem split_many {x : Str} (y : Str) (hy : 0 < y.length) : (Txt.split x y).length ≤ x.length + 1 := by
  have e := split_len x y
  have : (Txt.split x y).length - 1 ≤ ((Txt.split x y).length - 1) * y.length := Nat.le_mul_of_pos_right _ hy
  omega
theorem cut_starts (x y : Str) : decide (cutS x none (some (y.length : Int)) = y) = Txt.startswith x y := by
  rw [txt_of x, txt_of y, cutS_txt, txt_len]
  generalize x.cps.toList = xs
  generalize y.cps.toList = ys
  rw [sIx_of (by omega), Int.toNat_natCast]
  show decide (txt ((xs.drop (HT.sIx xs.length 0 none)).take (min ys.length xs.length - HT.sIx xs.length 0 none)) = txt ys) = _
  have e0 : HT.sIx xs.length 0 none = 0 := rfl
  rw [e0, List.drop_zero, Nat.sub_zero]
  unfold Txt.startswith
  rw [StrLaws.subAt_eq, txt_cps, txt_cps, txt_len, txt_len, List.drop_zero, Nat.zero_add]
  have e1 : xs.take (min ys.length xs.length) = xs.take ys.length := by
    by_cases h : ys.length ≤ xs.length
    · rw [Nat.min_eq_left h]
    · rw [Nat.min_eq_right (by omega), List.take_of_length_le (Nat.le_refl _), List.take_of_length_le (by omega)]
  rw [e1]
  by_cases h : xs.take ys.length = ys
  · have hl : ys.length ≤ xs.length := by have := congrArg List.length h; rw [List.length_take] at this; omega
    rw [h]
    simp [hl]
  · have hn : txt (xs.take ys.length) ≠ txt ys := fun e => h (txt_inj.mp e)
    simp [h, hn]
theorem str_app_len (a b : Str) : (a ++ b).length = a.length + b.length := by show (a.cps ++ b.cps).size = _; rw [Array.size_append]; rfl
section
variable {K : PySem.W.Frag} {σ : St} {H : Hp} {g : TG} {tt : TT} {te : TE} {a b d : Addr} {z : Str} {lo : Int} {n : Nat} {Q : VK} {vs : List Nat} {xs : List V}
theorem lcS (Pv : Addr → Nat → List V → Hp → Prop) (h0 : ∀ Dl, H Dl = none → Pv Dl 0 [] (upd H Dl (.lst [])))
    (hs : ∀ Dl i c acc H', H Dl = none → z.cps.toList[i]? = some c → H' Dl = some (.lst acc) → acc.length ≤ i → Pv Dl i acc H' → LcT g tt te vs σ Pv Dl i (.str ⟨#[c]⟩) H')
    (hd : ∀ Dl acc H', H Dl = none → H' Dl = some (.lst acc) → acc.length ≤ z.cps.toList.length → Pv Dl z.cps.toList.length acc H' → Q (.ref Dl) H') : LcJ (Its z) g tt te vs σ H Q := by
  intro Dl hD
  refine ⟨fun i m H' => m = z.cps.size - i ∧ i ≤ z.cps.size ∧ LcN Pv Dl i H', ⟨_, rfl, Nat.zero_le _, [], upd_same, Nat.zero_le _, h0 Dl hD⟩, ?_⟩
  rintro i m H1 ⟨rfl, hi, acc, h1, h2, h3⟩
  by_cases hlt : i < z.cps.size
  · refine .inr ⟨hlt, LcN Pv Dl (i + 1), fun H' p' => ⟨_, by omega, rfl, hlt, p'⟩, fun x H' y => ?_⟩
    obtain ⟨e, c, hc, e2⟩ := y
    subst e e2
    exact hs Dl i c acc _ hD (by rw [Array.getElem?_toList]; exact hc) h1 h2 h3
  · have e : i = z.cps.toList.length := by rw [Array.length_toList]; omega
    subst e
    exact .inl ⟨by rw [Array.length_toList] at hlt; exact Nat.le_of_not_lt hlt, hd Dl acc _ hD h1 h2 h3⟩
abbrev LcM (g : TG) (tt : TT) (te : TE) (vs : List Nat) (σ : St) (R : VK) (S : Hp → Prop) (x : V) (H' : Hp) : Prop :=
  g x (wipe σ vs) H' fun σ2 H2 => wipe σ2 vs = wipe σ vs ∧ tt σ2 H2 fun b H3 => if b = true then te σ2 H3 R else S H3
theorem lcS_map (f : Nat → V) (p : Nat → Bool) (hz : z.length ≤ 16777216)
    (hs : ∀ c H' R S, c ∈ z.cps.toList → Kp [] H H' → (p c = true → ∀ H4, Kp [] H' H4 → R (f c) H4) → (p c = false → ∀ H4, Kp [] H' H4 → S H4) → LcM g tt te vs σ R S (.str ⟨#[c]⟩) H')
    (hd : ∀ Dl H', H Dl = none → Kp [] H H' → H' Dl = some (.lst ((z.cps.toList.filter p).map f)) → Q (.ref Dl) H') : LcJ (Its z) g tt te vs σ H Q := by
  refine lcS (fun Dl i acc H' => Kp [] H H' ∧ acc = ((z.cps.toList.take i).filter p).map f) (fun Dl hD => ⟨Kp.new hD, rfl⟩) ?_ ?_
  · rintro Dl i c acc H' hD hc hacc hl ⟨e, rfl⟩
    have hi : i < z.cps.toList.length := (List.getElem?_eq_some_iff.mp hc).1
    have hz2 : z.cps.toList.length ≤ 16777216 := by rw [Array.length_toList]; exact hz
    refine hs c H' _ _ (List.mem_of_getElem? hc) e (fun hp H4 e4 => ?_) (fun hp H4 e4 => ?_)
    · exact lc_push (e4.at0 hacc) hl (by omega) ⟨(e.trans e4).fresh_mut hD, by rw [take_succ' hc, List.filter_append, List.map_append]; simp [hp]⟩
    · exact lc_skip (e4.at0 hacc) hl ⟨e.trans e4, by rw [take_succ' hc, List.filter_append, List.map_append]; simp [hp]⟩
  · rintro Dl acc H' hD hacc hl ⟨e, rfl⟩
    rw [List.take_length] at hacc
    exact hd Dl H' hD e hacc
theorem lcL_map {α : Type} {ys : List α} {u : α → V} (f : α → V) (p : α → Bool) (h : SqL K H a (ys.map u)) (hz : ys.length ≤ 16777216)
    (hs : ∀ y H' R S, y ∈ ys → Kp [] H H' → (p y = true → ∀ H4, Kp [] H' H4 → R (f y) H4) → (p y = false → ∀ H4, Kp [] H' H4 → S H4) → LcM g tt te vs σ R S (u y) H')
    (hd : ∀ Dl H', H Dl = none → Kp [] H H' → H' Dl = some (.lst ((ys.filter p).map f)) → Q (.ref Dl) H') : LcJ (Itl K a) g tt te vs σ H Q := by
  refine lcL (ys.map u) (fun Dl i acc H' => Kp [] H H' ∧ acc = ((ys.take i).filter p).map f) (fun Dl hD => ⟨Kp.new hD, rfl⟩) (fun Dl i acc H' hD e => SqL.kp e.1 h) ?_ ?_
  · rintro Dl i x acc H' hD hx hacc hl ⟨e, rfl⟩
    rw [List.getElem?_map] at hx
    obtain ⟨c, hc, rfl⟩ := Option.map_eq_some_iff.mp hx
    have hi : i < ys.length := (List.getElem?_eq_some_iff.mp hc).1
    refine hs c H' _ _ (List.mem_of_getElem? hc) e (fun hp H4 e4 => ?_) (fun hp H4 e4 => ?_)
    · exact lc_push (e4.at0 hacc) hl (by omega) ⟨(e.trans e4).fresh_mut hD, by rw [take_succ' hc, List.filter_append, List.map_append]; simp [hp]⟩
    · exact lc_skip (e4.at0 hacc) hl ⟨e.trans e4, by rw [take_succ' hc, List.filter_append, List.map_append]; simp [hp]⟩
  · rintro Dl acc H' hD hacc hl ⟨e, rfl⟩
    rw [List.length_map, List.take_length] at hacc
    exact hd Dl H' hD e hacc
theorem lcR_draw {α : Type} (f : α → V) (Pa : α → Prop) (B : Bx H b d) (hz : n ≤ 16777216)
    (hs : ∀ i H' R S, i < n → Kp [b] H H' → Bx H' b d → (∀ x H4, Pa x → Kp [b] H' H4 → Bx H4 b d → R (f x) H4) → LcM g tt te vs σ R S (.int (lo + (i : Nat))) H')
    (hd : ∀ Dl H' (as : List α), H Dl = none → as.length = n → (∀ x ∈ as, Pa x) → Kp [b] H H' → Bx H' b d → H' Dl = some (.lst (as.map f)) → Q (.ref Dl) H') : LcJ (Itr lo n) g tt te vs σ H Q := by
  refine lcR (fun Dl i acc H' => Kp [b] H H' ∧ Bx H' b d ∧ ∃ as : List α, acc = as.map f ∧ as.length = i ∧ ∀ x ∈ as, Pa x) (fun Dl hD => ⟨Kp.new hD, B.new hD, [], rfl, rfl, by simp⟩) ?_ ?_
  · rintro Dl i acc H' hD hi hacc hl ⟨e, B1, as, rfl, hlen, hP⟩
    have nD := B.ne_new hD
    refine hs i H' _ _ hi e B1 (fun x H4 hx e4 B4 => ?_)
    refine lc_push (e4.at1 nD.1 hacc) hl (by omega) ⟨(e.trans e4).fresh_mut hD, B4.other nD.1 nD.2, as ++ [x], by rw [List.map_append]; rfl, by rw [List.length_append, hlen]; rfl, fun y hy => ?_⟩
    rcases List.mem_append.mp hy with h | h
    · exact hP y h
    · rw [List.mem_singleton.mp h]; exact hx
  · rintro Dl acc H' hD hacc hl ⟨e, B1, as, rfl, hlen, hP⟩
    exact hd Dl H' as hD hlen hP e B1 hacc
end
theorem Bx.pick {H H1 H2 : Hp} {b d p : Addr} {xs : List V} {K : PySem.W.Frag} (B : Bx H b d) (N : New H p (.lst xs) H1) (e : Kp [b] H1 H2) : SqL K H2 p xs := .of (e.at1 (B.ne_new N.fr).1 N.at_)
theorem c_pick {K : PySem.W.Frag} {H : Hp} {a : Addr} {i : Int} {Q : VK} {xs : List V} (h : SqL K H a xs) (h0 : 0 ≤ i) (h1 : i < xs.length) (q : ∀ v ∈ xs, Q v H) : rIx K (.ref a) (.int i) H Q :=
  c_ixL h (atI_at h0 h1) (q _ (by
    rw [List.getD_eq_getElem?_getD, List.getElem?_eq_getElem (by omega)]
    exact List.getElem_mem _))
theorem c_pickM {α : Type} {K : PySem.W.Frag} {H : Hp} {a : Addr} {i : Int} {Q : VK} {u : α → V} (ys : List α) (h : SqL K H a (ys.map u)) (h0 : 0 ≤ i) (h1 : i < ys.length) (q : ∀ y ∈ ys, Q (u y) H) : rIx K (.ref a) (.int i) H Q :=
  c_pick h h0 (by rw [List.length_map]; exact h1) (fun v hv => by obtain ⟨y, hy, rfl⟩ := List.mem_map.mp hv; exact q y hy)
section
variable {K : PySem.W.Frag} {H : Hp} {Q : VK} {a b : Addr} {ns ms : List Int}
end
end Sa

namespace Sa
open PySem L2
section
variable {K : PySem.W.Frag} {H : Hp} {Q : VK} {a b : Addr} {ys zs : List Str}
def okS (z : Str) : Bool := PyData.strOk z
theorem dpAll_strs : ∀ ys : List Str, DpAll K H (ys.map V.str) (ys.map PyData.str)
  | [] => .nil
  | n :: r => .cons (.str n) (dpAll_strs r)
theorem dp_strs (h : SqL K H a (ys.map V.str)) : Dp K H (.ref a) (.list (ys.map PyData.str)) := .lst h (dpAll_strs ys)
theorem dp_strsT (h : SqT K H a (ys.map V.str)) : Dp K H (.ref a) (.tuple (ys.map PyData.str)) := .tup h (dpAll_strs ys)
theorem eqvAll_strs : ∀ ys zs : List Str, PyData.eqvAll (ys.map PyData.str) (zs.map PyData.str) = decide (ys = zs)
  | [], [] => by simp [PyData.eqvAll]
  | [], _ :: _ => by simp [PyData.eqvAll]
  | _ :: _, [] => by simp [PyData.eqvAll]
  | a :: r, b :: t => by
    simp only [List.map_cons, PyData.eqvAll, PyData.eqv, eqvAll_strs r t]
    by_cases h : a = b <;> by_cases h' : r = t <;> simp [h, h']
theorem layAll_strs : ∀ {ys : List Str}, (∀ y ∈ ys, okS y = true) → PyData.canLayAll0 (ys.map PyData.str) = true
  | [], _ => rfl
  | y :: r, h => by
    simp only [List.map_cons, PyData.canLayAll0, PyData.canLay0, Bool.and_eq_true]
    exact ⟨h y (List.mem_cons_self ..), layAll_strs fun z hz => h z (List.mem_cons_of_mem _ hz)⟩
theorem depthAll_strs : ∀ ys : List Str, PyData.depthAll (ys.map PyData.str) = 0
  | [] => rfl
  | y :: r => by simp [PyData.depthAll, PyData.depth, depthAll_strs r]
theorem shaped_strsL (h : ∀ y ∈ ys, okS y = true) : SeqAt.shaped (.list (ys.map PyData.str)) = true := by
  simp only [SeqAt.shaped, PyData.canLay0, PyData.depth, depthAll_strs, Bool.and_eq_true, decide_eq_true_eq]
  exact ⟨layAll_strs h, by omega⟩
theorem shaped_strsT (h : ∀ y ∈ ys, okS y = true) : SeqAt.shaped (.tuple (ys.map PyData.str)) = true := by
  simp only [SeqAt.shaped, PyData.canLay0, PyData.depth, depthAll_strs, Bool.and_eq_true, decide_eq_true_eq]
  exact ⟨layAll_strs h, by omega⟩
theorem c_eqTS (ha : SqT K H a (ys.map V.str)) (hb : SqT K H b (zs.map V.str)) (h1 : ∀ y ∈ ys, okS y = true) (h2 : ∀ y ∈ zs, okS y = true) (q : Q (.bl (decide (ys = zs))) H) : rEqU K (.ref a) (.ref b) H Q :=
  c_eqD (dp_strsT ha) (dp_strsT hb) (shaped_strsT h1) (shaped_strsT h2) (by rw [PyData.eqv, eqvAll_strs]; exact q)
end
theorem rptS_txt (c : Nat) (n : Int) : rptS (txt [c]) n = txt (List.replicate n.toNat c) := by
  unfold rptS
  rw [txt_cps]
  show txt _ = _
  congr 1
  induction n.toNat with
  | zero => rfl
  | succ n ih => rw [List.replicate_succ, List.flatten_cons, ih, List.replicate_succ]; rfl
theorem cps_app (a b : Str) : (a ++ b).cps.toList = a.cps.toList ++ b.cps.toList := by show (a.cps ++ b.cps).toList = _; rw [Array.toList_append]
theorem okS_iff {z : Str} : okS z = true ↔ ∀ c ∈ z.cps.toList, c < 1114112 := by
  unfold okS PyData.strOk
  rw [Array.all_eq_true_iff_forall_mem]
  simp [Array.mem_toList_iff]
section
variable {σ : St} {H : Hp} {Q : VK} {te : TE}
end
end Sa

namespace Sa
open PySem L2
section
variable {P : Program} {w : World} {K : PySem.W.Frag} {mg : Str → Option Value} {base : Heap}
theorem Tx.oex {fa : List He.Fa} {fn : List He.DefD} {fx : List Fx} (T : Tx fa fn fx K mg) (i : Nat) {x : Str} (h : fx[i]? = some (.oex x) := by rfl) : OexC K (He.ga K x) := oexB_ok (T.fx i h)
theorem Tx.xfc {fa : List He.Fa} {fn : List He.DefD} {fx : List Fx} (T : Tx fa fn fx K mg) (i : Nat) {x : Str} (h : fx[i]? = some (.xf x) := by rfl) : XfC K (He.ga K x) := xfB_ok (T.fx i h)
theorem Tx.cst {fa : List He.Fa} {fn : List He.DefD} {fx : List Fx} (T : Tx fa fn fx K mg) (i : Nat) {x : Str} {d : PyData} (h : fx[i]? = some (.cst x d) := by rfl) (H : Hp) : Dp K H (.ref (He.ga K x)) d := cst_ref (T.fx i h) H
def BodyX (P : Program) (w : World) (K : PySem.W.Frag) (mg : Str → Option Value) (base : Heap) (x : Str) (st : Stmt) (N : List Str) (k : Nat) (sp : Sp) : Prop :=
  ∀ (cdv : Value) (A : Around) (outer : List Env) (s : Shared) (H : Hp) (vs : List V) (Q : VK) (E : XK), sp vs H Q E → let X : Cx := cxOf (L2.CX P w) P w K mg base N x (defScope st) (He.ga K x) cdv A outer s H E
    Room k X.A → Takes X (fun cls d _ H => E cls d H) → ∃ t, PSs X (defBody st) t ∧ t { nx := fun _ H' => Q .non H', rt := Q } (start N vs) H
theorem def_ofX {fa : List He.Fa} {fn : List He.DefD} {fx : List Fx} (T : Tx fa fn fx K mg) (i j : Nat) {x : Str} {st : Stmt} {N ps : List Str} {k : Nat} {sp : Sp} (S : FnScope N ps (defScope st)) (B : BindN x st ps) (len : ∀ vs H Q E, sp vs H Q E → vs.length = ps.length)
    (body : BodyX P w K mg base x st N k sp) (hd : fn[i]? = some (dOf x st) := by rfl) (hg : fa[j]? = some (.glo x) := by rfl) : DefAt P w K mg base (L2.CX P w) x (k + 1) ps sp := by
  have gl := T.glo j hg
  obtain ⟨hp, X, G, c, _⟩ := T
  obtain ⟨fd, F⟩ := c.def_ i hd
  exact ⟨gl, F.kp, fd, F.ok S len fun cdv A outer s H vs Q E hr h => body cdv A outer s H vs Q E h hr (takes_of rfl rfl rfl rfl), F.bindsN B⟩
end
theorem takes_never {X : Cx} : Takes X (fun _ _ _ _ => False) := fun u s' h => by
  obtain ⟨_, _, _, _, _, _, _, _, _, _, _, _, _, _, _, _, z⟩ := h
  exact z.elim
section
variable {X : Cx} {x : Str} {k j : Nat} {ps : List Str} {sp : Sp} {W : WX} {p pos : Pos} {e : Expr} {es : List Expr} {t : TA}
theorem pe_callX (D : DefAt X.prog X.w X.K X.mg X.base (L2.CX X.prog X.w) x j ps sp) (hr : Room k X.A) (tk : Takes X W) (ha : PA X (e :: es) t) (hjk : j ≤ k := by decide) (hg : Gl X x := by rfl)
    (hdb : (x == ("__debug__" : Str)) = false := by decide) (he : starEach (e :: es) X.env = (false, eval e X.env) :: starEach es X.env := by rfl) (hpl : (backTo pos (starEach es X.env)).any (·.1) = false := by rfl) :
    PE X (.Call (.Name x p) (e :: es) [] pos) (tCallS sp (WE W) t) := by
  obtain ⟨fd, F, B⟩ := D.ok
  exact pe_callS (F.mono hjk) hr hg D.gl D.kp B (fun σ => passAt tk σ) ha hdb he hpl
theorem names_glo {c : Addr} (h : X.mg x = some (.ref c)) (hg : Gl X x := by rfl) (hd : (x == ("__debug__" : Str)) = false := by decide) : Names X x (.ref c) := ⟨hg, hd, .inl h⟩
theorem c_callX {H : Hp} {σ : St} {Q : VK} {tr : TA} (h : tr σ H fun vs H1 => sp vs H1 Q (WE W σ)) : tCallS sp (WE W) tr σ H Q := h
end
def dOfM (C m q : Str) (st : Stmt) : He.DefD := ⟨(C, some m), m, q, defArgs st, defBody st, defScope st, [], []⟩
def BindM (m q : Str) (st : Stmt) (ps : List Str) : Prop := ∀ (kV doc pm : Value) (an : Option Addr) (cdv ct : Value) (us : List Value), us.length = ps.length →
  bindArgs (PySem.W.fnOf m q (defArgs st) (defBody st) (defScope st) .none kV doc pm an cdv ct) ⟨us, []⟩ = pure (ps.zip us)
def clsStmts : Stmt → List Stmt
  | .ClassDef (body := b) .. => b
  | _ => []
def subAt (st : Stmt) (i : Nat) : Stmt := (clsStmts st).getD i (.Pass ⟨0, 0, 0, 0⟩)
section
variable {P : Program} {w : World} {K : PySem.W.Frag} {mg : Str → Option Value} {base : Heap}
structure MethAt (P : Program) (w : World) (K : PySem.W.Frag) (mg : Str → Option Value) (base : Heap) (CX : CXT) (C m : Str) (k : Nat) (ps : List Str) (sp : Sp) : Prop where
  me : Meth K (He.ga K C) m (He.ma K (He.ga K C) m)
  ok : ∃ fd, FnOk P w K mg base CX k (He.ma K (He.ga K C) m) fd ps sp ∧ Binds K fd ps []
def BodyM (P : Program) (w : World) (K : PySem.W.Frag) (mg : Str → Option Value) (base : Heap) (C m q : Str) (st : Stmt) (N : List Str) (k : Nat) (sp : Sp) : Prop :=
  ∀ (cdv : Value) (A : Around) (outer : List Env) (s : Shared) (H : Hp) (vs : List V) (Q : VK) (E : XK), sp vs H Q E → let X : Cx := (cxOf CX0 P w K mg base N q (defScope st) (He.ma K (He.ga K C) m) cdv A outer s H E).nox
    Room k X.A → ∃ t, PSs X (defBody st) t ∧ t { nx := fun _ H' => Q .non H', rt := Q } (start N vs) H
def BodyMX (P : Program) (w : World) (K : PySem.W.Frag) (mg : Str → Option Value) (base : Heap) (C m q : Str) (st : Stmt) (N : List Str) (k : Nat) (sp : Sp) : Prop :=
  ∀ (cdv : Value) (A : Around) (outer : List Env) (s : Shared) (H : Hp) (vs : List V) (Q : VK) (E : XK), sp vs H Q E → let X : Cx := cxOf (L2.CX P w) P w K mg base N q (defScope st) (He.ma K (He.ga K C) m) cdv A outer s H E
    Room k X.A → Takes X (fun cls d _ H => E cls d H) → ∃ t, PSs X (defBody st) t ∧ t { nx := fun _ H' => Q .non H', rt := Q } (start N vs) H
theorem meth_of {fa : List He.Fa} {fn : List He.DefD} {fx : List Fx} (T : Tx fa fn fx K mg) (i j : Nat) {C m q : Str} {st : Stmt} {N ps : List Str} {k : Nat} {sp : Sp} (S : FnScope N ps (defScope st)) (B : BindM m q st ps) (len : ∀ vs H Q E, sp vs H Q E → vs.length = ps.length)
    (body : BodyM P w K mg base C m q st N k sp) (hd : fn[i]? = some (dOfM C m q st) := by rfl) (hg : fa[j]? = some (.meth C m) := by rfl) : MethAt P w K mg base CX0 C m (k + 1) ps sp := by
  have me := He.meth_ok (T.fact j hg)
  obtain ⟨hp, X, G, c, _⟩ := T
  obtain ⟨fd, F⟩ := c.def_ i hd
  refine ⟨me, fd, F.ok S len fun cdv A outer s H vs Q E hr h => ?_, F.bindsN B⟩
  obtain ⟨t, h1, h2⟩ := body cdv A outer s H vs Q E h hr
  exact ⟨t, h1.nox, h2⟩
theorem meth_ofX {fa : List He.Fa} {fn : List He.DefD} {fx : List Fx} (T : Tx fa fn fx K mg) (i j : Nat) {C m q : Str} {st : Stmt} {N ps : List Str} {k : Nat} {sp : Sp} (S : FnScope N ps (defScope st)) (B : BindM m q st ps) (len : ∀ vs H Q E, sp vs H Q E → vs.length = ps.length)
    (body : BodyMX P w K mg base C m q st N k sp) (hd : fn[i]? = some (dOfM C m q st) := by rfl) (hg : fa[j]? = some (.meth C m) := by rfl) : MethAt P w K mg base (L2.CX P w) C m (k + 1) ps sp := by
  have me := He.meth_ok (T.fact j hg)
  obtain ⟨hp, X, G, c, _⟩ := T
  obtain ⟨fd, F⟩ := c.def_ i hd
  exact ⟨me, fd, F.ok S len fun cdv A outer s H vs Q E hr h => body cdv A outer s H vs Q E h hr (takes_of rfl rfl rfl rfl), F.bindsN B⟩
end
def spInit (K : PySem.W.Frag) (C : Addr) (f : Str) : Sp := fun vs H Q _ => ∃ (a : Addr) (v : V), vs = [.ref a, v] ∧ H a = some (exo a C none) ∧ ∀ dx, H dx = none → dx ≠ a → Q .non (upd (upd H dx (exd dx [(f, v)])) a (exo a C (some dx)))
theorem c_ost {K : PySem.W.Frag} {f : Str} {to te : TE} {D : Ends} {σ : St} {H : Hp} (h : te σ H fun y H1 => to σ H1 fun x H2 => ∃ a C : Addr, x = .ref a ∧ OexC K C ∧ PySem.W.findIn K (.ref C) f = some none ∧
  ((H2 a = some (exo a C none) ∧ ∀ dx, H2 dx = none → dx ≠ a → D.nx σ (upd (upd H2 dx (exd dx [(f, y)])) a (exo a C (some dx)))) ∨
    ∃ (dx : Addr) (fs : List (Str × V)), H2 a = some (exo a C (some dx)) ∧ H2 dx = some (exd dx fs) ∧ fs.length ≤ 900 ∧ D.nx σ (upd H2 dx (exd dx ((f, y) :: fs))))) : tOst K f to te D σ H := h
structure ErrC (P : Program) (w : World) (K : PySem.W.Frag) (mg : Str → Option Value) (base : Heap) (x f : Str) : Prop where
  gl : mg x = some (.ref (He.ga K x))
  cls : OexC K (He.ga K x)
  xf : XfC K (He.ga K x)
  no : PySem.W.findIn K (.ref (He.ga K x)) f = some none
  ok : ∃ ps, MethAt P w K mg base CX0 x "__init__" 2 ps (spInit K (He.ga K x) f)
def RaiseK (K : PySem.W.Frag) (x f : Str) (vs : List V) (H1 : Hp) (Q : XK) : Prop := vs.length ≤ 1000 ∧ ∀ a, H1 a = none → spInit K (He.ga K x) f (.ref a :: (vs ++ [])) (upd H1 a (exo a (He.ga K x) none))
  (fun v H2 => v = .non ∧ ∃ (d : Addr) (fs : List (Str × V)), H2 a = some (exo a (He.ga K x) (some d)) ∧ H2 d = some (exd d fs) ∧ H1 d = none ∧ Q (.ref (He.ga K x)) (some d) (upd (del H2 a) d (.xd fs))) (fun _ _ _ => False)
def tMkE (K : PySem.W.Frag) (x f : Str) (t : TA) : St → Hp → XK → Prop := fun σ H Q => t σ H fun vs H1 => RaiseK K x f vs H1 Q
def tRaiseE (K : PySem.W.Frag) (x f : Str) (W : WX) (t : TA) : TS := fun _ σ H => t σ H fun vs H1 => RaiseK K x f vs H1 fun cls d H' => W cls d σ H'
theorem c_err {K : PySem.W.Frag} {x f : Str} {v : V} {H1 : Hp} {Q : XK} (q : ∀ d H', New H1 d (.xd [(f, v)]) H' → Q (.ref (He.ga K x)) (some d) H') : RaiseK K x f [v] H1 Q := by
  refine ⟨by simp, fun a ha => ⟨a, v, rfl, upd_same, fun dx hdx hne => ⟨rfl, dx, [(f, v)], upd_same, ?_, ?_, ?_⟩⟩⟩
  · rw [upd_ne hne, upd_same]
  · rw [upd_ne hne] at hdx
    exact hdx
  · have hd1 : H1 dx = none := by rw [upd_ne hne] at hdx; exact hdx
    have e : upd (del (upd (upd (upd H1 a (exo a (He.ga K x) none)) dx (exd dx [(f, v)])) a (exo a (He.ga K x) (some dx))) a) dx (.xd [(f, v)]) = upd H1 dx (.xd [(f, v)]) := by
      funext b
      by_cases h1 : b = dx
      · rw [h1, upd_same, upd_same]
      · rw [upd_ne h1, upd_ne h1]
        by_cases h2 : b = a
        · rw [h2, del_same, ha]
        · rw [del_ne h2, upd_ne h2, upd_ne h1, upd_ne h2]
    rw [e]
    exact q dx _ ⟨hd1, rfl⟩
theorem c_raiseE {K : PySem.W.Frag} {x f : Str} {W : WX} {t : TA} {D : Ends} {σ : St} {H : Hp} (h : t σ H fun vs H1 => RaiseK K x f vs H1 fun cls d H' => W cls d σ H') : tRaiseE K x f W t D σ H := h
section
variable {X : Cx} {x f : Str} {k : Nat} {W : WX} {p pos pos2 : Pos} {e : Expr} {es : List Expr} {t : TA}
theorem pmk_err {K : PySem.W.Frag} (T : ErrC X.prog X.w X.K X.mg X.base x f) (hr : Room k X.A) (ha : PA X (e :: es) t) (hk : 3 ≤ k := by decide) (hK : X.K = K := by rfl) (hg : Gl X x := by rfl)
    (hdb : (x == ("__debug__" : Str)) = false := by decide) (he : starEach (e :: es) X.env = (false, eval e X.env) :: starEach es X.env := by rfl) (hpl : (backTo pos (starEach es X.env)).any (·.1) = false := by rfl) :
    PMk X (.Call (.Name x p) (e :: es) [] pos) (tMkE K x f t) := by
  subst hK
  obtain ⟨ps, M⟩ := T.ok
  obtain ⟨fd, F, B⟩ := M.ok
  have fnT : PySem.W.typeIn X.K (.ref (He.ma X.K (He.ga X.K x) "__init__")) = some (.type "function") := eq_of_beq M.me.fn
  exact pmk_oex (p := p) T.cls M.me.at_ fnT F (hr.mono hk) B .nil (fun _ _ _ _ _ _ _ h => h.elim) hg T.gl ha hdb he hpl
theorem ps_raiseE {K : PySem.W.Frag} (T : ErrC X.prog X.w X.K X.mg X.base x f) (hr : Room k X.A) (tk : Takes X W) (ha : PA X (e :: es) t) (hk : 3 ≤ k := by decide) (hK : X.K = K := by rfl) (hg : Gl X x := by rfl) (hc : X.calm = true := by rfl)
    (hdb : (x == ("__debug__" : Str)) = false := by decide) (he : starEach (e :: es) X.env = (false, eval e X.env) :: starEach es X.env := by rfl) (hpl : (backTo pos (starEach es X.env)).any (·.1) = false := by rfl) :
    PS X (.Raise (some (.Call (.Name x p) (e :: es) [] pos)) none pos2) (tRaiseE K x f W t) := ps_raise hc tk (pmk_err T hr ha hk hK hg hdb he hpl)
end
section
variable {K : PySem.W.Frag} {i : Nat} {ts : Addr → Value → Option Addr → TS} {Wout : WX} {D : Ends} {σ : St} {H : Hp} {cls : Value} {d : Option Addr} {c : Value}
theorem c_caught (he : PySem.W.exmOne K cls c = some true) (h : ∀ a, H a = none → ts a cls d { nx := fun σ' H' => D.nx (σ'.set i none) H', rt := D.rt, bk := fun σ' H' => D.bk (σ'.set i none) H', ct := fun σ' H' => D.ct (σ'.set i none) H' } (σ.set i (some (.ref a))) H) :
    wAs K c i ts Wout D cls d σ H := ⟨true, he, fun _ => h, fun z => by cases z⟩
theorem c_xf {a C : Addr} {f : Str} {te : TE} {Q : VK} (h : te σ H fun x H1 => x = .ref a ∧ cls = .ref C ∧ ∃ (dd : Addr) (fs : List (Str × V)) (v : V), d = some dd ∧ H1 dd = some (.xd fs) ∧ fs.lookup f = some v ∧ Q v H1) : tXf a cls d C f te σ H Q := h
end
section
variable {K : PySem.W.Frag} {H : Hp} {Q : VK} {a : Addr} {xs : List V} {T : String}
end
end Sa

namespace Sa
open PySem L2
structure Itn (J : It) (n : Nat) (ok : Hp → Prop) (Y : Nat → V → Hp → Hp → Prop) : Prop where
  go : ∀ i H, ok H → i < n → J.go i H
  stop : ∀ i H, ok H → n ≤ i → J.stop i H
  yld : ∀ i H x H', ok H → i < n → J.yld i H x H' → Y i x H H'
  kp : ∀ i x H H', Y i x H H' → Kp [] H H'
section
variable {K : PySem.W.Frag} {a : Addr} {α : Type} {ys : List α} {u : α → V} {lo c : Int} {n : Nat} {z : Str}
theorem itn_l : Itn (Itl K a) ys.length (fun H => SqL K H a (ys.map u)) (fun i x H H' => H' = H ∧ ∃ y, ys[i]? = some y ∧ x = u y) where
  go := fun i H ok hi => ⟨_, u (ys[i]), ok, by rw [List.getElem?_map, List.getElem?_eq_getElem hi]; rfl⟩
  stop := fun i H ok hi => ⟨_, ok, by rw [List.length_map]; exact hi⟩
  yld := fun i H x H' ok hi y => by
    obtain ⟨e, h⟩ := y
    have := h _ ok
    rw [List.getElem?_map] at this
    obtain ⟨y, h1, h2⟩ := Option.map_eq_some_iff.mp this
    exact ⟨e, y, h1, h2.symm⟩
  kp := fun i x H H' h => by rw [h.1]; exact Kp.refl
theorem itn_t : Itn (Itt K a) ys.length (fun H => SqT K H a (ys.map u)) (fun i x H H' => H' = H ∧ ∃ y, ys[i]? = some y ∧ x = u y) where
  go := fun i H ok hi => ⟨_, u (ys[i]), ok, by rw [List.getElem?_map, List.getElem?_eq_getElem hi]; rfl⟩
  stop := fun i H ok hi => ⟨_, ok, by rw [List.length_map]; exact hi⟩
  yld := fun i H x H' ok hi y => by
    obtain ⟨e, h⟩ := y
    have := h _ ok
    rw [List.getElem?_map] at this
    obtain ⟨y, h1, h2⟩ := Option.map_eq_some_iff.mp this
    exact ⟨e, y, h1, h2.symm⟩
  kp := fun i x H H' h => by rw [h.1]; exact Kp.refl
end
section
variable {K : PySem.W.Frag} {σ : St} {H : Hp} {g : TG} {tt : TT} {te : TE} {tb : TS} {Dn : Ends} {n : Nat} {Q : VK} {vs : List Nat} {J : It} {ok : Hp → Prop} {Y : Nat → V → Hp → Hp → Prop}
theorem lcQ (I : Itn J n ok Y) (Pv : Addr → Nat → List V → Hp → Prop) (h0 : ∀ Dl, H Dl = none → Pv Dl 0 [] (upd H Dl (.lst []))) (hok : ∀ Dl i acc H', H Dl = none → Pv Dl i acc H' → ok H')
    (hs : ∀ Dl i x acc H' H'', H Dl = none → i < n → H' Dl = some (.lst acc) → acc.length ≤ i → Pv Dl i acc H' → Y i x H' H'' → LcT g tt te vs σ Pv Dl i x H'')
    (hd : ∀ Dl acc H', H Dl = none → H' Dl = some (.lst acc) → acc.length ≤ n → Pv Dl n acc H' → Q (.ref Dl) H') : LcJ J g tt te vs σ H Q := by
  intro Dl hD
  refine ⟨fun i m H' => m = n - i ∧ i ≤ n ∧ LcN Pv Dl i H', ⟨_, rfl, Nat.zero_le _, [], upd_same, Nat.zero_le _, h0 Dl hD⟩, ?_⟩
  rintro i m H1 ⟨rfl, hi, acc, h1, h2, h3⟩
  have o := hok Dl i acc H1 hD h3
  by_cases hlt : i < n
  · exact .inr ⟨I.go i H1 o hlt, LcN Pv Dl (i + 1), fun H' p' => ⟨_, by omega, rfl, hlt, p'⟩, fun x H' y => hs Dl i x acc H1 H' hD hlt h1 h2 h3 (I.yld i H1 x H' o hlt y)⟩
  · have e : i = n := by omega
    subst e
    exact .inl ⟨I.stop i H1 o (Nat.le_refl _), hd Dl acc H1 hD h1 h2 h3⟩
theorem forQ (I : Itn J n ok Y) (Pv : Nat → St → Hp → Prop) (h0 : Pv 0 σ H) (hok : ∀ i σ H', Pv i σ H' → ok H')
    (hs : ∀ i x σ H' H'', i < n → Pv i σ H' → Y i x H' H'' → g x σ H'' fun σ2 H2 => tb { Dn with nx := Pv (i + 1), ct := Pv (i + 1), bk := Dn.nx } σ2 H2) (hd : ∀ σ H', Pv n σ H' → Dn.nx σ H') : ForJ J g tb Dn σ H := by
  refine ⟨fun i m σ H => m = n - i ∧ i ≤ n ∧ Pv i σ H, ⟨_, rfl, Nat.zero_le _, h0⟩, ?_⟩
  rintro i m σ H ⟨rfl, hi, p⟩
  have o := hok i σ H p
  by_cases hlt : i < n
  · exact .inr ⟨I.go i H o hlt, Pv (i + 1), fun σ' H' p' => ⟨_, by omega, rfl, hlt, p'⟩, fun x H' y => hs i x σ H H' hlt p (I.yld i H x H' o hlt y)⟩
  · have e : i = n := by omega
    subst e
    exact .inl ⟨I.stop i H o (Nat.le_refl _), hd σ H p⟩
end
section
variable {K : PySem.W.Frag} {σ : St} {H : Hp} {g : TG} {tt : TT} {te : TE} {tb : TS} {ta : TA} {D : Ends} {n : Nat} {Q : VK} {vs : List Nat} {R : It → Hp → Prop} {a : Addr} {xs : List V}
theorem c_rng3 (h : ta σ H fun vs H1 => ∃ (i j c : Int) (n : Nat), vs = [.int i, .int j, .int c] ∧ RgC i j c n ∧ R (Itc i c n) H1) : iRng3 ta σ H R := h
theorem c_enum (h : ta σ H fun vs H1 => ∃ a xs, vs = [.ref a] ∧ SqL K H1 a xs ∧ R (Ite K a) H1) : iEnum K ta σ H R := h
end
end Sa

namespace Sa
open PySem L2
def FldK (K : PySem.W.Frag) (f : Str) (x : V) (H : Hp) (Q : VK) : Prop := ∃ a C dx fs v, x = .ref a ∧ H a = some (.ins C dx fs) ∧ Cls K C ∧ NoAttr K C f ∧ fs.lookup f = some v ∧ Q v H
def tFldU (K : PySem.W.Frag) (ta : TE) (f : Str) : TE := fun σ H Q => ta σ H fun x H1 => FldK K f x H1 Q
def SetFldK (K : PySem.W.Frag) (f : Str) (x y : V) (H : Hp) (R : Hp → Prop) : Prop := ∃ a C dx fs, x = .ref a ∧ H a = some (.ins C dx fs) ∧ Cls K C ∧ NoAttr K C f ∧ fs.length < 1000 ∧ R (upd H a (.ins C dx (putF f y fs)))
def sFldU (K : PySem.W.Frag) (ta tv : TE) (f : Str) : TS := fun D σ H => tv σ H fun y H1 => ta σ H1 fun x H2 => SetFldK K f x y H2 fun H3 => D.nx σ H3
section
variable {X : Cx} {K : PySem.W.Frag} {σ : St} {H : Hp} {Q : VK} {D : Ends} {o e value : Expr} {ta tv : TE} {f : Str} {pos pos' : Pos} {a C dx : Addr} {fs : List (Str × V)} {v : V} {R : Hp → Prop}
theorem pe_fldU (he : PE X e ta) (hK : X.K = K := by rfl) (hb : attributeBase e f X.env (eval e X.env) = eval e X.env := by rfl) : PE X (.Attribute e f pos) (tFldU K ta f) := by
  subst hK
  exact pe_fld he hb
theorem ps_fldU (ha : PE X o ta) (hv : PE X value tv) (hK : X.K = K := by rfl) (hs : swapsWith value (some (.Attribute o f pos')) pos.line X.env = pure false := by rfl) : PS X (.Assign [.Attribute o f pos'] value pos) (sFldU K ta tv f) := by
  subst hK
  exact ps_fld ha hv hs
theorem c_fld (h : ta σ H fun x H1 => FldK K f x H1 Q) : tFldU K ta f σ H Q := h
theorem c_fldAt (h : H a = some (.ins C dx fs)) (c : Cls K C) (n : NoAttr K C f) (l : fs.lookup f = some v) (q : Q v H) : FldK K f (.ref a) H Q := ⟨a, C, dx, fs, v, rfl, h, c, n, l, q⟩
theorem c_setF (h : tv σ H fun y H1 => ta σ H1 fun x H2 => SetFldK K f x y H2 fun H3 => D.nx σ H3) : sFldU K ta tv f D σ H := h
theorem c_setFAt (h : H a = some (.ins C dx fs)) (c : Cls K C) (n : NoAttr K C f) (l : fs.length < 1000) (q : R (upd H a (.ins C dx (putF f v fs)))) : SetFldK K f (.ref a) v H R := ⟨a, C, dx, fs, rfl, h, c, n, l, q⟩
end
structure ClsAt (K : PySem.W.Frag) (mg : Str → Option Value) (x : Str) : Prop where
  gl : mg x = some (.ref (He.ga K x))
  cls : Cls K (He.ga K x)
def RecvK (K : PySem.W.Frag) (C m : Str) (x : V) (H : Hp) (R : Hp → Prop) : Prop := ∃ a dx fs, x = .ref a ∧ H a = some (.ins (He.ga K C) dx fs) ∧ fs.lookup m = none ∧ R H
def tMethA (K : PySem.W.Frag) (C m : Str) (sp : Sp) (E : St → XK) (ta : TE) (t : TA) : TE := fun σ H Q => ta σ H fun x H1 => RecvK K C m x H1 fun H2 => t σ H2 fun vs H3 => sp (x :: vs) H3 Q (E σ)
section
variable {X : Cx} {CX : CXT} {K : PySem.W.Frag} {C m : Str} {k j : Nat} {ps : List Str} {sp : Sp} {E : St → XK} {W : WX} {apos pos : Pos} {o e : Expr} {es : List Expr} {ta : TE} {t : TA} {pl : Sem Bool}
theorem pe_methS1 (M : MethAt X.prog X.w X.K X.mg X.base CX C m j ps sp) (c : ClsAt X.K X.mg C) (hr : Room k X.A) (hx : ∀ σ, PassesAt CX X σ (E σ)) (ho : PE X o ta) (ha : PA X (e :: es) t) (hjk : j ≤ k := by decide) (hK : X.K = K := by rfl)
    (hst : starEach (e :: es) X.env = (false, eval e X.env) :: starEach es X.env := by rfl) (hpl : (backTo pos (starEach es X.env)).any (·.1) = false := by rfl)
    (ht : eval (.Call (.Attribute o m apos) (e :: es) [] pos) X.env = (do
      let ov ← eval o X.env
      standAt apos.atName
      let (f, first) ← holding [ov] (getMethod ov m pl)
      callWith pos f first (backTo pos (starEach (e :: es) X.env)) (backToKw pos (keywordEach [] X.env))) := by rfl) :
    PE X (.Call (.Attribute o m apos) (e :: es) [] pos) (tMethA K C m sp E ta t) := by
  subst hK
  obtain ⟨fd, F, B⟩ := M.ok
  refine ⟨fun pins s σ H Q I h => ?_⟩
  refine PySem.W.methodCall_KW (pl := pl) (thn (ho.run pins s σ H _ I h) fun u s1 ⟨x, H1, I1, rx, a, dx, fs, ex, ea, l, q⟩ => ?_) ht
  subst ex
  obtain rfl : u = Value.ref a := rx
  refine getmeth_ok I1 ea c.cls M.me l (PySem.W.callWith_K (first := [.ref a]) (h₀ := X.base) I.ok.mod.kin M.me.kp (thn (ha.run pos pins s1 σ H1 _ I1 q) fun us s2 ⟨vs, H2, I2, r, q2⟩ => ⟨I2.kIn, ?_⟩) hst hpl)
  exact run_fnS (us := .ref a :: us) (vs := .ref a :: vs) (F.mono hjk) hr B (hx σ) I2 (.cons rfl r) q2
theorem pe_methS0 (M : MethAt X.prog X.w X.K X.mg X.base CX C m j ps sp) (c : ClsAt X.K X.mg C) (hr : Room k X.A) (hx : ∀ σ, PassesAt CX X σ (E σ)) (ho : PE X o ta) (hjk : j ≤ k := by decide) (hK : X.K = K := by rfl)
    (ht : eval (.Call (.Attribute o m apos) [] [] pos) X.env = (do
      let ov ← eval o X.env
      standAt apos.atName
      let (f, first) ← holding [ov] (getMethod ov m pl)
      callWith pos f first (backTo pos (starEach [] X.env)) (backToKw pos (keywordEach [] X.env))) := by rfl) :
    PE X (.Call (.Attribute o m apos) [] [] pos) (tMethA K C m sp E ta tNil) := by
  subst hK
  obtain ⟨fd, F, B⟩ := M.ok
  refine ⟨fun pins s σ H Q I h => ?_⟩
  refine PySem.W.methodCall_KW (pl := pl) (thn (ho.run pins s σ H _ I h) fun u s1 ⟨x, H1, I1, rx, a, dx, fs, ex, ea, l, q⟩ => ?_) ht
  subst ex
  obtain rfl : u = Value.ref a := rx
  exact getmeth_ok I1 ea c.cls M.me l (PySem.W.callWith_K0 (first := [.ref a]) I1.kIn M.me.kp (run_fnS (us := [.ref a]) (vs := [.ref a]) (F.mono hjk) hr B (hx σ) I1 (.cons rfl .nil) q))
end
theorem at0 {X : Cx} : ∀ σ : St, PassesAt CX0 X σ E0 := fun _ _ _ _ _ _ _ h => h.elim
theorem atW {X : Cx} {W : WX} (tk : Takes X W) : ∀ σ : St, PassesAt (L2.CX X.prog X.w) X σ (WE W σ) := fun σ => passAt tk σ
section
variable {K : PySem.W.Frag} {C m : Str} {σ : St} {H : Hp} {Q : VK} {sp : Sp} {E : St → XK} {ta : TE} {t : TA} {a dx : Addr} {fs : List (Str × V)} {R : Hp → Prop}
theorem c_meth (h : ta σ H fun x H1 => RecvK K C m x H1 fun H2 => t σ H2 fun vs H3 => sp (x :: vs) H3 Q (E σ)) : tMethA K C m sp E ta t σ H Q := h
theorem c_recv (h : H a = some (.ins (He.ga K C) dx fs)) (l : fs.lookup m = none) (q : R H) : RecvK K C m (.ref a) H R := ⟨a, dx, fs, rfl, h, l, q⟩
end
def NewK (K : PySem.W.Frag) (C : Str) (sp : Sp) (vs : List V) (H1 : Hp) (Q : VK) (E : XK) : Prop := ∀ x dx, H1 x = none → H1 dx = none → dx ≠ x →
  sp (.ref x :: vs) (upd (upd H1 dx (.own x)) x (.ins (He.ga K C) dx [])) (fun v H2 => v = .non ∧ Q (.ref x) H2) E
def tNewA (K : PySem.W.Frag) (C : Str) (sp : Sp) (E : St → XK) (t : TA) : TE := fun σ H Q => t σ H fun vs H1 => NewK K C sp vs H1 Q (E σ)
theorem c_newA {K : PySem.W.Frag} {C : Str} {sp : Sp} {E : St → XK} {t : TA} {σ : St} {H : Hp} {Q : VK} (h : t σ H fun vs H1 => NewK K C sp vs H1 Q (E σ)) : tNewA K C sp E t σ H Q := h
section
variable {X : Cx} {CX : CXT} {K : PySem.W.Frag} {C : Str} {k j : Nat} {ps : List Str} {sp : Sp} {E : St → XK} {p pos : Pos} {e : Expr} {es : List Expr} {t : TA}
theorem pe_newS (M : MethAt X.prog X.w X.K X.mg X.base CX C "__init__" j ps sp) (mk : Mk X.K (He.ga X.K C) (He.ma X.K (He.ga X.K C) "__init__")) (c : ClsAt X.K X.mg C) (hr : Room (k + 1) X.A) (hx : ∀ σ, PassesAt CX X σ (E σ)) (ha : PA X (e :: es) t)
    (hjk : j ≤ k := by decide) (hK : X.K = K := by rfl) (hg : Gl X C := by rfl)
    (hdb : (C == ("__debug__" : Str)) = false := by decide) (he : starEach (e :: es) X.env = (false, eval e X.env) :: starEach es X.env := by rfl) (hpl : (backTo pos (starEach es X.env)).any (·.1) = false := by rfl) :
    PE X (.Call (.Name C p) (e :: es) [] pos) (tNewA K C sp E t) := by
  subst hK
  obtain ⟨fd, F0, B⟩ := M.ok
  have F := F0.mono hjk
  refine ⟨fun pins s σ H Q I h => ?_⟩
  refine wpAny_Call_Name_kw (ld_glob I hg c.gl ?_ hdb)
  refine PySem.W.callWith_K (h₀ := X.base) I.ok.mod.kin mk.kp (thn (ha.run pos pins s σ H _ I h) fun us s1 ⟨vs, H1, I1, r, q⟩ => ⟨I1.kIn, ?_⟩) he hpl
  have hq := q (s1.heap.objs.size + 1) s1.heap.objs.size (I1.hok.fresh (Nat.le_succ _)) (I1.hok.fresh (Nat.le_refl _)) (Nat.ne_of_lt (Nat.lt_succ_self _))
  have I2 := Inv.made (C := He.ga X.K C) I1
  have r2 : Vals (V.ref (s1.heap.objs.size + 1) :: vs) (Value.ref (s1.heap.objs.size + 1) :: us) := .cons rfl r
  have hl : ((Value.ref (s1.heap.objs.size + 1) :: us) ++ []).length = ps.length := by
    rw [List.append_nil, ← r2.length]
    exact F.len _ _ _ _ hq
  have b := B _ (Value.ref (s1.heap.objs.size + 1) :: us) I2.kIn hl
  rw [List.append_nil] at b
  refine wpAny_call (make_map (f := He.ma X.K (He.ga X.K C) "__init__") I1.kIn mk.makes mk.init (beq_iff_eq.mp mk.fn) (codeAny_mono (F.run _ X.stack _ _ ⟨Value.ref (s1.heap.objs.size + 1) :: us, []⟩ (Value.ref (s1.heap.objs.size + 1) :: us) _ _ (E σ)
    (hr.make (He.ga X.K C) us []) (I2.env0.make (He.ga X.K C) us []) b r2 hq) fun rr s' hq' => ?_))
  cases rr with
  | error er => exact hx σ pins _ _ er s' I2 hq'
  | ok fl =>
    cases fl with
    | ret u =>
      obtain ⟨v, H', I3, rv, ev, q3⟩ := I2.after hq'
      subst ev
      exact ⟨rv, ⟨V.ref (s1.heap.objs.size + 1), H', I3, rfl, q3⟩⟩
    | next => exact False.elim hq'
    | brk => exact False.elim hq'
    | cont => exact False.elim hq'
end
end Sa

namespace Sa
open PySem PySem.Spec L2
structure Cl where
  c : Value
  i : Option Nat
  ts : Addr → Value → Option Addr → TS
inductive ClsOk (X : Cx) : List ExceptHandler → List Cl → Prop
  | nil : ClsOk X [] []
  | bare {x : Str} {c : Value} {ts : Addr → Value → Option Addr → TS} {b₀ : Stmt} {suite : List Stmt} {np pos' : Pos} {hds : List ExceptHandler} {l : List Cl} (hc : Names X x c)
      (hsu : ∀ (a : Addr) (oe : Obj) (cls : Value) (d : Option Addr) (pn : List (Addr × Obj)), Zc cls d oe → (∃ vs, oe.data = .fields vs) → PSs (X.suite a ((a, oe) :: pn)) (b₀ :: suite) (ts a cls d)) (r : ClsOk X hds l) :
      ClsOk X (.ExceptHandler (some (.Name x np)) none (b₀ :: suite) pos' :: hds) (⟨c, none, ts⟩ :: l)
  | named {x n : Str} {i : Nat} {c : Value} {ts : Addr → Value → Option Addr → TS} {b₀ : Stmt} {suite : List Stmt} {np pos' : Pos} {hds : List ExceptHandler} {l : List Cl} (hi : X.N[i]? = some n) (hln : X.env.kindOf n = some .local) (hc : Names X x c)
      (hsu : ∀ (a : Addr) (oe : Obj) (cls : Value) (d : Option Addr) (pn : List (Addr × Obj)), Zc cls d oe → (∃ vs, oe.data = .fields vs) → PSs (X.suite a ((a, oe) :: pn)) (b₀ :: suite) (ts a cls d)) (r : ClsOk X hds l) :
      ClsOk X (.ExceptHandler (some (.Name x np)) (some n) (b₀ :: suite) pos' :: hds) (⟨c, some i, ts⟩ :: l)
section
variable {X : Cx} {body : List Stmt} {h₀ : ExceptHandler} {hds : List ExceptHandler} {l : List Cl} {pos : Pos} {tb : WX → TS} {Wout : WX}
end
section
variable {K : PySem.W.Frag} {Wout : WX} {D : Ends} {σ : St} {H : Hp} {cls : Value} {d : Option Addr} {q : Cl} {r : List Cl}
end
end Sa

namespace Sa
open PySem PySem.Spec
def stepT (σ : List Str) (v : Str) : List Str := if σ.any (· == v) then σ else σ ++ [v]
def ded (xs : List Str) : List Str := xs.foldl stepT []
section
open PyProof.Rows
variable {prog : Program} {w : World} {A : Around} {R : Result → Shared → Prop} {I : Addr} {fp wr : List Addr} {G : Array GenState → Array GenState → Prop} {n : Nat} {P : Nat → Value → Prop} {St : Nat → Shared → Prop}
end
section
variable {prog : Program} {w : World} {A : Around} {E : Value → Shared → Prop} {s : Shared}
set_option maxRecDepth 100000 in
set_option maxHeartbeats 3200000 in
end
end Sa

namespace Sa
open PySem L2
def tLenSetU (K : PySem.W.Frag) (ta : TE) : TE := fun σ H Q => ta σ H fun x H1 => ∃ (l : Addr) (xs : List Str), x = .ref l ∧ SqL K H1 l (xs.map V.str) ∧ xs.length ≤ 1000 ∧ Q (.int (ded xs).length) H1
theorem c_lenSet {K : PySem.W.Frag} {ta : TE} {σ : St} {H : Hp} {Q : VK} (h : ta σ H fun x H1 => ∃ (l : Addr) (xs : List Str), x = .ref l ∧ SqL K H1 l (xs.map V.str) ∧ xs.length ≤ 1000 ∧ Q (.int (ded xs).length) H1) : tLenSetU K ta σ H Q := h
def Sq (K : PySem.W.Frag) (H : Hp) (a : Addr) (xs : List V) : Prop := SqL K H a xs ∨ SqT K H a xs
def iSeq (K : PySem.W.Frag) (te : TE) : TI := fun σ H R => te σ H fun x H1 => ∃ a, x = .ref a ∧ (((∃ xs, SqL K H1 a xs) ∧ R (Itl K a) H1) ∨ ((∃ xs, SqT K H1 a xs) ∧ R (Itt K a) H1))
section
variable {K : PySem.W.Frag} {σ : St} {H : Hp} {R : It → Hp → Prop} {te : TE} {a : Addr} {xs : List V} {g : TG} {tt : TT} {tb : TS} {D : Ends} {vs : List Nat} {Q : VK}
theorem c_iSeq (h : te σ H fun x H1 => ∃ a, x = .ref a ∧ (((∃ xs, SqL K H1 a xs) ∧ R (Itl K a) H1) ∨ ((∃ xs, SqT K H1 a xs) ∧ R (Itt K a) H1))) : iSeq K te σ H R := h
end
def rSortedDU : List V → Hp → VK → Prop := fun xs H Q => ∃ (a : Addr) (kvs : List (Key × V)) (ks : List Str), xs = [.ref a] ∧ Rd H a (.dK kvs) ∧ kvs.map (·.1) = ks.map Sum.inr ∧ ks.length < 64 ∧ ∀ ys p, ys.Perm ks → PyProof.Rows.sortedS ys = true → H p = none → Q (.ref p) (upd H p (.lst (ys.map V.str)))
theorem cr_sortedDU {X : Cx} (hc : X.calm = true) : CallR X (.builtin "sorted") rSortedDU := call_sortedD hc
theorem c_dget {td ty : TE} {σ : St} {H : Hp} {Q : VK} (h : td σ H fun x H1 => ty σ H1 fun y H2 => ∃ a v, x = .ref a ∧ DGet H2 a y (some v) ∧ Q v H2) : tDGet td ty σ H Q := h
theorem c_dget1 {td ty : TE} {σ : St} {H : Hp} {Q : VK} (h : td σ H fun x H1 => ∃ a, x = .ref a ∧ IsD H1 a ∧ ty σ H1 fun y H2 => ∃ o, DGet H2 a y o ∧ Q (o.getD .non) H2) : tDGet1 td ty σ H Q := h
end Sa

namespace Sa
open PySem L2
def leS (a b : Str) : Prop := ¬ (b.cps.toList < a.cps.toList)
instance (a b : Str) : Decidable (leS a b) := inferInstanceAs (Decidable (¬ _))
theorem str_ext {a b : Str} (h : a.cps.toList = b.cps.toList) : a = b := by
  cases a; cases b
  congr 1
  exact Array.toList_inj.mp h
theorem leS_antisymm {a b : Str} (h1 : leS a b) (h2 : leS b a) : a = b := str_ext (List.le_antisymm (List.not_lt.mp h1) (List.not_lt.mp h2))
theorem leS_trans {a b c : Str} (h1 : leS a b) (h2 : leS b c) : leS a c := List.not_lt.mpr (List.le_trans (List.not_lt.mp h1) (List.not_lt.mp h2))
theorem leS_of_lt {a b : Str} (h : a.cps.toList < b.cps.toList) : leS a b := List.not_lt.mpr (List.le_of_lt h)
theorem rising_pair : ∀ (p : Str) (l : List Str), PyProof.Rows.risingS p l = true → (p :: l).Pairwise leS
  | p, [], _ => List.pairwise_singleton ..
  | p, x :: r, h => by
    unfold PyProof.Rows.risingS at h
    rw [Bool.and_eq_true, PyProof.Rows.ltCps_eq, Bool.not_eq_true', decide_eq_false_iff_not] at h
    have ih := rising_pair x r h.2
    refine List.pairwise_cons.mpr ⟨fun y hy => ?_, ih⟩
    rcases List.mem_cons.mp hy with e | hy
    · subst e; exact h.1
    · exact leS_trans h.1 ((List.pairwise_cons.mp ih).1 y hy)
theorem sorted_pair {l : List Str} (h : PyProof.Rows.sortedS l = true) : l.Pairwise leS := by
  cases l with
  | nil => exact .nil
  | cons x r => exact rising_pair x r h
theorem sorted_eq : ∀ {ys zs : List Str}, ys.Perm zs → ys.Pairwise leS → zs.Pairwise leS → ys = zs
  | [], zs, hp, _, _ => (List.Perm.nil_eq hp)
  | y :: r, [], hp, _, _ => by have := hp.length_eq; simp at this
  | y :: r, z :: t, hp, h1, h2 => by
    obtain ⟨a1, a2⟩ := List.pairwise_cons.mp h1
    obtain ⟨b1, b2⟩ := List.pairwise_cons.mp h2
    have e : y = z := by
      have m1 : y ∈ z :: t := hp.subset (List.mem_cons_self ..)
      have m2 : z ∈ y :: r := hp.symm.subset (List.mem_cons_self ..)
      rcases List.mem_cons.mp m1 with e | m1
      · exact e
      rcases List.mem_cons.mp m2 with e | m2
      · exact e.symm
      exact leS_antisymm (a1 z m2) (b1 y m1)
    subst e
    rw [sorted_eq (List.perm_cons y |>.mp hp) a2 b2]
section
variable {β : Type}
def insF (x : Str × β) : List (Str × β) → List (Str × β)
  | [] => [x]
  | y :: r => if x.1.cps.toList < y.1.cps.toList then x :: y :: r else y :: insF x r
def sortF (fs : List (Str × β)) : List (Str × β) := fs.foldr insF []
theorem insF_perm (x : Str × β) : ∀ fs : List (Str × β), (insF x fs).Perm (x :: fs)
  | [] => .refl _
  | y :: r => by
    unfold insF
    split
    · exact .refl _
    · exact ((insF_perm x r).cons y).trans (.swap ..)
theorem sortF_perm : ∀ fs : List (Str × β), (sortF fs).Perm fs
  | [] => .refl _
  | x :: r => (insF_perm x (sortF r)).trans ((sortF_perm r).cons x)
def Asc (fs : List (Str × β)) : Prop := (fs.map Prod.fst).Pairwise leS
theorem insF_asc (x : Str × β) : ∀ {fs : List (Str × β)}, Asc fs → Asc (insF x fs)
  | [], _ => List.pairwise_singleton ..
  | y :: r, h => by
    obtain ⟨h1, h2⟩ := List.pairwise_cons.mp (show (y.1 :: r.map Prod.fst).Pairwise leS from h)
    unfold insF
    split
    · rename_i hlt
      refine List.pairwise_cons.mpr ⟨fun z hz => ?_, h⟩
      rcases List.mem_cons.mp hz with e | hz
      · subst e; exact leS_of_lt hlt
      · exact leS_trans (leS_of_lt hlt) (h1 z hz)
    · rename_i hlt
      refine List.pairwise_cons.mpr ⟨fun z hz => ?_, insF_asc x (fs := r) h2⟩
      have : z ∈ (x :: r).map Prod.fst := ((insF_perm x r).map Prod.fst).subset hz
      rcases List.mem_cons.mp this with e | hz
      · subst e; exact hlt
      · exact h1 z hz
theorem sortF_asc : ∀ fs : List (Str × β), Asc (sortF fs)
  | [] => .nil
  | x :: r => insF_asc x (sortF_asc r)
theorem sorted_keys {fs : List (Str × β)} {ys : List Str} (h : ys.Perm (fs.map Prod.fst)) (hs : PyProof.Rows.sortedS ys = true) : ys = (sortF fs).map Prod.fst :=
  sorted_eq (h.trans ((sortF_perm fs).map Prod.fst).symm) (sorted_pair hs) (sortF_asc fs)
theorem sortF_len (fs : List (Str × β)) : (sortF fs).length = fs.length := (sortF_perm fs).length_eq
def Once (fs : List (Str × β)) : Prop := (fs.map Prod.fst).Nodup
def at? (fs : List (Str × β)) (p : Str) : Option β := (fs.find? fun f => decide (f.1 = p)).map Prod.snd
end
end Sa

namespace Sa
open PySem L2
section
variable {K : PySem.W.Frag} {σ : St} {H : Hp} {wi : TI} {g : TG} {tt : TT} {tk tv : TE} {n : Nat} {Q : VK} {vs : List Nat} {J : It} {ok : Hp → Prop} {Y : Nat → V → Hp → Hp → Prop}
def DcJ (J : It) (g : TG) (tt : TT) (tk tv : TE) (vs : List Nat) (σ : St) (H1 : Hp) (Q : VK) : Prop := ∀ D, H1 D = none → ∃ W : Nat → Nat → Hp → Prop, (∃ m, W 0 m (upd H1 D (.dK []))) ∧ ∀ i m H, W i m H →
  (J.stop i H ∧ Q (.ref D) H) ∨ (J.go i H ∧ ∃ Nx : Hp → Prop, (∀ H', Nx H' → ∃ m', m' < m ∧ W (i + 1) m' H') ∧ ∀ x H', J.yld i H x H' → g x (wipe σ vs) H' fun σ2 H2 => wipe σ2 vs = wipe σ vs ∧ tt σ2 H2 fun b H3 =>
    if b = true then tk σ2 H3 fun y H4 => tv σ2 H4 fun z H5 => ∃ kvs k, y = kV k ∧ H5 D = some (.dK kvs) ∧ kvs.length < sizeLine ∧ Nx (upd H5 D (.dK (putK kvs k z))) else Nx H3)
theorem c_dc (h : wi σ H fun J H1 => DcJ J g tt tk tv vs σ H1 Q) : tDc wi g tt tk tv vs σ H Q := h
abbrev DcM (g : TG) (tt : TT) (tk tv : TE) (vs : List Nat) (σ : St) (R : V → V → Hp → Prop) (S : Hp → Prop) (x : V) (H' : Hp) : Prop :=
  g x (wipe σ vs) H' fun σ2 H2 => wipe σ2 vs = wipe σ vs ∧ tt σ2 H2 fun b H3 => if b = true then tk σ2 H3 fun y H4 => tv σ2 H4 fun z H5 => R y z H5 else S H3
end
section
variable {K : PySem.W.Frag} {σ : St} {H : Hp} {g : TG} {tt : TT} {te tk tv : TE} {tb : TS} {D : Ends} {Q : VK} {vs : List Nat} {a : Addr} {α : Type} {ys : List α} {u : α → V}
abbrev Yq (ys : List α) (u : α → V) : Nat → V → Hp → Hp → Prop := fun i x H H' => H' = H ∧ ∃ y, ys[i]? = some y ∧ x = u y
end
abbrev File := Str × List Str
abbrev RowA := Addr × Addr × File
structure RowOk (K : PySem.W.Frag) (H : Hp) (r : RowA) : Prop where
  row : SqT K H r.1 [.str r.2.2.1, .ref r.2.1]
  lines : SqT K H r.2.1 (r.2.2.2.map V.str)
theorem RowOk.kp {K : PySem.W.Frag} {H H' : Hp} {r : RowA} (h : RowOk K H r) (e : Kp [] H H') : RowOk K H' r := ⟨SqT.kp e h.row, SqT.kp e h.lines⟩
def RowsAt (K : PySem.W.Frag) (H : Hp) (a : Addr) (fs : List File) : Prop := ∃ rs : List RowA, Sq K H a (rs.map fun r => V.ref r.1) ∧ rs.map (fun r => r.2.2) = fs ∧ ∀ r ∈ rs, RowOk K H r
theorem Sq.kp {K : PySem.W.Frag} {H H' : Hp} {a : Addr} {xs : List V} (h : Sq K H a xs) (e : Kp [] H H') : Sq K H' a xs := h.imp (SqL.kp e) (SqT.kp e)
theorem RowsAt.kp {K : PySem.W.Frag} {H H' : Hp} {a : Addr} {fs : List File} (h : RowsAt K H a fs) (e : Kp [] H H') : RowsAt K H' a fs := by
  obtain ⟨rs, h1, h2, h3⟩ := h
  exact ⟨rs, Sq.kp h1 e, h2, fun r hr => (h3 r hr).kp e⟩
def TreeAt (K : PySem.W.Frag) (H : Hp) (a : Addr) (fs : List File) : Prop := ∃ (dx d : Addr) (ls : List (Addr × File)), H a = some (.ins (He.ga K "Tree") dx [("_files", .ref d)]) ∧
  H d = some (.dK (ls.map fun l => (Sum.inr l.2.1, V.ref l.1))) ∧ (∀ l ∈ ls, SqT K H l.1 (l.2.2.map V.str)) ∧ Once (ls.map Prod.snd) ∧ fs = sortF (ls.map Prod.snd)
theorem TreeAt.kp {K : PySem.W.Frag} {H H' : Hp} {a : Addr} {fs : List File} (h : TreeAt K H a fs) (e : Kp [] H H') : TreeAt K H' a fs := by
  obtain ⟨dx, d, ls, h1, h2, h3, h4, h5⟩ := h
  exact ⟨dx, d, ls, e.at0 h1, e.at0 h2, fun l hl => SqT.kp e (h3 l hl), h4, h5⟩
section
variable {P : Program} {w : World} {K : PySem.W.Frag} {mg : Str → Option Value} {base : Heap}
end
end Sa

namespace Sa
open PySem PySem.Spec PyProof.Rows L2
open Sem (wp)
def Iet (K : PySem.W.Frag) (a : Addr) : It :=
  ⟨fun i H => ∃ (xs : List V) (x : V), SqT K H a xs ∧ xs[i]? = some x, fun i H v H' => ∃ T x, v = .ref T ∧ H T = none ∧ H' = upd H T (.tup [.int (i : Nat), x]) ∧ ∀ xs, SqT K H a xs → xs[i]? = some x, fun i H => ∃ xs : List V, SqT K H a xs ∧ xs.length ≤ i⟩
def iEnumT (K : PySem.W.Frag) (ta : TA) : TI := fun σ H R => ta σ H fun vs H1 => ∃ a xs, vs = [.ref a] ∧ SqT K H1 a xs ∧ R (Iet K a) H1
section
variable {K : PySem.W.Frag} {σ : L2.St} {H : Hp} {Q : VK} {R : It → Hp → Prop} {ta : TA} {a b : Addr} {xs ys : List V} {s z : Str}
theorem c_enumT (h : ta σ H fun vs H1 => ∃ a xs, vs = [.ref a] ∧ SqT K H1 a xs ∧ R (Iet K a) H1) : iEnumT K ta σ H R := h
theorem c_slT {lo hi : Option Int} (h : SqT K H a xs) (q : ∀ p H', Kp [] H H' → SqT K H' p (cutL xs lo hi) → Q (.ref p) H') : rSlU K (.ref a) lo hi H Q := by
  refine .inr (.inr ⟨a, xs, rfl, h, fun hw => ?_, fun _ p hp => ?_⟩)
  · refine q a H Kp.refl ?_
    have e : cutL xs lo hi = xs := by
      unfold cutL
      rw [hw.1, hw.2, List.drop_zero, Nat.sub_zero, List.take_length]
    rw [e]; exact h
  · exact q p _ (Kp.new hp) (SqT.of upd_same)
theorem c_addT (ha : SqT K H a xs) (hb : SqT K H b ys) (hl : xs.length + ys.length ≤ sizeLine) (q : ∀ p H', Kp [] H H' → SqT K H' p (xs ++ ys) → Q (.ref p) H') : rAddU K (.ref a) (.ref b) H Q := by
  refine .inr (.inr (.inr ⟨a, b, xs, ys, rfl, rfl, ha, hb, hl, fun h => ?_, fun _ h => ?_, fun _ _ p hp => q p _ (Kp.new hp) (SqT.of upd_same)⟩))
  · subst h; exact q b H Kp.refl hb
  · subst h; exact q a H Kp.refl (by rw [List.append_nil]; exact ha)
theorem inV_str (s : Str) : ∀ ys : List Str, inV (.str s) (ys.map V.str) = decide (s ∈ ys)
  | [] => by simp [inV]
  | y :: r => by
    have ih := inV_str s r
    unfold inV at ih ⊢
    rw [List.map_cons, List.any_cons, ih]
    by_cases h : s = y
    · subst h; simp [eqV]
    · have h2 : y ≠ s := fun e => h e.symm
      simp [eqV, h, h2]
theorem flat_strs (ys : List Str) : (ys.map V.str).all flatV = true := by rw [List.all_eq_true]; intro v hv; obtain ⟨y, _, rfl⟩ := List.mem_map.mp hv; rfl
theorem c_inSs {ys : List Str} (h : SqL K H a (ys.map V.str) ∨ SqT K H a (ys.map V.str)) (q : Q (.bl (decide (s ∈ ys))) H) : rInU K (.str s) (.ref a) H Q :=
  .inr (.inr ⟨a, _, rfl, h, rfl, flat_strs ys, by rw [inV_str]; exact q⟩)
theorem c_notInSs {ys : List Str} (h : SqL K H a (ys.map V.str) ∨ SqT K H a (ys.map V.str)) (q : Q (.bl (!decide (s ∈ ys))) H) : rNotInU K (.str s) (.ref a) H Q :=
  .inr (.inr ⟨a, _, rfl, h, rfl, flat_strs ys, by rw [inV_str]; exact q⟩)
def occS (j i : Str) : Bool := !(Builtin.Str.occurrences j i 0 j.length 1).isEmpty
end
end Sa

namespace Sa
open PySem L2
def Kt (H H' : Hp) : Prop := ∀ a xs, Rd H a (.tup xs) → Rd H' a (.tup xs)
section
variable {K : PySem.W.Frag} {H H' H1 H2 : Hp} {a b : Addr} {v : V} {xs : List V} {d e : PyData} {ds : List PyData} {o : HO}
theorem Kt.refl : Kt H H := fun _ _ h => h
theorem Kt.trans (e : Kt H H1) (f : Kt H1 H2) : Kt H H2 := fun a xs h => f a xs (e a xs h)
theorem Kp.kt (e : Kp [] H H') : Kt H H' := fun a xs h => rd_at (fun o ho => e.at0 ho) h
def NoT (H : Hp) (b : Addr) : Prop := ∀ xs, ¬ Rd H b (.tup xs)
theorem NoT.none (h : H b = none) : NoT H b := fun xs r => by rcases r with r | ⟨o, r⟩ <;> rw [h] at r <;> cases r
theorem NoT.lst {ys : List V} (h : H b = some (.lst ys)) : NoT H b := fun xs r => by rcases r with r | ⟨o, r⟩ <;> rw [h] at r <;> cases r
theorem NoT.dK {ys : List (Key × V)} (h : H b = some (.dK ys)) : NoT H b := fun xs r => by rcases r with r | ⟨o, r⟩ <;> rw [h] at r <;> cases r
theorem NoT.ins {C dx : Addr} {fs : List (Str × V)} (h : H b = some (.ins C dx fs)) : NoT H b := fun xs r => by rcases r with r | ⟨o, r⟩ <;> rw [h] at r <;> cases r
theorem NoT.of (h : H b = some o) (h1 : ∀ xs, o ≠ .tup xs) (h2 : ∀ u xs, o ≠ .frz u (.tup xs)) : NoT H b := fun xs r => by
  rcases r with r | ⟨u, r⟩ <;> rw [h] at r <;> injection r with r
  · exact h1 xs r
  · exact h2 u xs r
theorem Kt.upd1 (n : NoT H b) : Kt H (upd H b o) := fun a xs h => by
  by_cases hz : a = b
  · subst hz; exact absurd h (n xs)
  · exact rd_at (fun o ho => by rw [upd_ne hz]; exact ho) h
theorem Kp.kt1 (e : Kp [b] H H') (n : NoT H b) : Kt H H' := fun a xs h => by
  by_cases hz : a = b
  · subst hz; exact absurd h (n xs)
  · exact rd_at (fun o ho => e.at1 hz ho) h
theorem Bx.noT {d : Addr} (B : Bx H b d) : NoT H b := by
  obtain ⟨_, _, h, _⟩ := B.ex
  exact NoT.lst h
theorem Bx.kt {d : Addr} (B : Bx H b d) (e : Kp [b] H H') : Kt H H' := e.kt1 B.noT
theorem SqT.kt (e : Kt H H') (h : SqT K H a xs) : SqT K H' a xs := h.imp (e a xs) id
mutual
inductive Dt (K : PySem.W.Frag) (H : Hp) : V → PyData → Prop
  | non : Dt K H .non .none
  | bl (b : Bool) : Dt K H (.bl b) (.bool b)
  | int (i : Int) : Dt K H (.int i) (.int i)
  | str (x : Str) : Dt K H (.str x) (.str x)
  | tup {a : Addr} {xs : List V} {ds : List PyData} : SqT K H a xs → DtAll K H xs ds → Dt K H (.ref a) (.tuple ds)
inductive DtAll (K : PySem.W.Frag) (H : Hp) : List V → List PyData → Prop
  | nil : DtAll K H [] []
  | cons {v : V} {vs : List V} {d : PyData} {ds : List PyData} : Dt K H v d → DtAll K H vs ds → DtAll K H (v :: vs) (d :: ds)
end
mutual
theorem Dt.kt : ∀ {v : V} {d : PyData}, Kt H H' → Dt K H v d → Dt K H' v d
  | _, _, _, .non => .non
  | _, _, _, .bl b => .bl b
  | _, _, _, .int i => .int i
  | _, _, _, .str x => .str x
  | _, _, k, .tup h hs => .tup (SqT.kt k h) (DtAll.kt k hs)
theorem DtAll.kt : ∀ {vs : List V} {ds : List PyData}, Kt H H' → DtAll K H vs ds → DtAll K H' vs ds
  | _, _, _, .nil => .nil
  | _, _, k, .cons h hs => .cons (Dt.kt k h) (DtAll.kt k hs)
end
mutual
theorem Dt.dp : ∀ {v : V} {d : PyData}, Dt K H v d → Dp K H v d
  | _, _, .non => .non
  | _, _, .bl b => .bl b
  | _, _, .int i => .int i
  | _, _, .str x => .str x
  | _, _, .tup h hs => .tup h (DtAll.dp hs)
theorem DtAll.dp : ∀ {vs : List V} {ds : List PyData}, DtAll K H vs ds → DpAll K H vs ds
  | _, _, .nil => .nil
  | _, _, .cons h hs => .cons (Dt.dp h) (DtAll.dp hs)
end
mutual
def tupD : PyData → Bool
  | .none | .bool _ | .int _ | .str _ => true
  | .tuple ds => tupDs ds
  | .list _ | .dict _ => false
def tupDs : List PyData → Bool
  | [] => true
  | d :: ds => tupD d && tupDs ds
end
mutual
theorem Dt.of : ∀ {v : V} {d : PyData}, Dp K H v d → tupD d = true → Dt K H v d
  | _, _, .non, _ => .non
  | _, _, .bl b, _ => .bl b
  | _, _, .int i, _ => .int i
  | _, _, .str x, _ => .str x
  | _, _, .lst h hs, z => by unfold tupD at z; cases z
  | _, _, .tup h hs, z => .tup h (DtAll.of hs (by unfold tupD at z; exact z))
theorem DtAll.of : ∀ {vs : List V} {ds : List PyData}, DpAll K H vs ds → tupDs ds = true → DtAll K H vs ds
  | _, _, .nil, _ => .nil
  | _, _, .cons h hs, z => by
    unfold tupDs at z
    rw [Bool.and_eq_true] at z
    exact .cons (Dt.of h z.1) (DtAll.of hs z.2)
end
theorem Dt.kp (h : Dt K H v d) (e : Kp [] H H') : Dt K H' v d := Dt.kt e.kt h
theorem DtAll.kp (h : DtAll K H xs ds) (e : Kp [] H H') : DtAll K H' xs ds := DtAll.kt e.kt h
theorem dt_tup (h : Dt K H v (.tuple ds)) : ∃ a xs, v = .ref a ∧ SqT K H a xs ∧ DtAll K H xs ds := by
  cases h with
  | tup h1 h2 => exact ⟨_, _, rfl, h1, h2⟩
theorem dt_str {s : Str} (h : Dt K H v (.str s)) : v = .str s := by cases h; rfl
theorem dt_int {i : Int} (h : Dt K H v (.int i)) : v = .int i := by cases h; rfl
theorem dta_nil (h : DtAll K H xs []) : xs = [] := by cases h; rfl
theorem dta_cons (h : DtAll K H xs (d :: ds)) : ∃ v vs, xs = v :: vs ∧ Dt K H v d ∧ DtAll K H vs ds := by
  cases h with
  | cons h1 h2 => exact ⟨_, _, rfl, h1, h2⟩
theorem dta_strs : ∀ {ys : List Str} {xs : List V}, DtAll K H xs (ys.map PyData.str) → xs = ys.map V.str
  | [], xs, h => dta_nil h
  | y :: r, xs, h => by
    obtain ⟨v, vs, rfl, h1, h2⟩ := dta_cons h
    rw [dt_str h1, dta_strs h2]
    rfl
theorem dta_of_strs : ∀ ys : List Str, DtAll K H (ys.map V.str) (ys.map PyData.str)
  | [] => .nil
  | y :: r => .cons (.str y) (dta_of_strs r)
theorem dta_len : ∀ {ds : List PyData} {xs : List V}, DtAll K H xs ds → xs.length = ds.length
  | [], xs, h => by rw [dta_nil h]; rfl
  | d :: r, xs, h => by
    obtain ⟨v, vs, rfl, h1, h2⟩ := dta_cons h
    rw [List.length_cons, List.length_cons, dta_len h2]
theorem dta_app {ys : List V} {es : List PyData} : ∀ {xs : List V} {ds : List PyData}, DtAll K H xs ds → DtAll K H ys es → DtAll K H (xs ++ ys) (ds ++ es)
  | [], ds, h, g => by cases h; exact g
  | x :: r, ds, h, g => by
    cases h with
    | cons h1 h2 => exact .cons h1 (dta_app h2 g)
theorem dta_snoc {xs : List V} {ds : List PyData} (h : DtAll K H xs ds) (g : Dt K H v d) : DtAll K H (xs ++ [v]) (ds ++ [d]) := dta_app h (.cons g .nil)
theorem dta_get : ∀ {xs : List V} {ds : List PyData} {i : Nat} {d : PyData}, DtAll K H xs ds → ds[i]? = some d → ∃ v, xs[i]? = some v ∧ Dt K H v d
  | [], ds, i, d, h, g => by cases h; simp at g
  | x :: r, ds, i, d, h, g => by
    cases h with
    | cons h1 h2 =>
      cases i with
      | zero => simp at g; subst g; exact ⟨x, rfl, h1⟩
      | succ i =>
        have q := dta_get (xs := r) (i := i) h2 g
        exact q
def strsD (ys : List Str) : PyData := .tuple (ys.map PyData.str)
theorem dt_strs {ys : List Str} (h : SqT K H a (ys.map V.str)) : Dt K H (.ref a) (strsD ys) := .tup h (dta_of_strs ys)
theorem strsD_of {ys : List Str} (h : Dt K H v (strsD ys)) : ∃ a, v = .ref a ∧ SqT K H a (ys.map V.str) := by
  obtain ⟨a, xs, rfl, h1, h2⟩ := dt_tup h
  rw [dta_strs h2] at h1
  exact ⟨a, rfl, h1⟩
theorem strsD_at {ys : List Str} (h : Dt K H (.ref a) (strsD ys)) : SqT K H a (ys.map V.str) := by
  obtain ⟨b, e, h1⟩ := strsD_of h
  injection e with e
  subst e
  exact h1
end
def sortS (ys : List Str) : List Str := (sortF (ys.map fun y => (y, ()))).map Prod.fst
section
variable {K : PySem.W.Frag} {σ : St} {H : Hp} {g : TG} {tt : TT} {te : TE} {n : Nat} {Q : VK} {vs : List Nat} {J : It} {ok : Hp → Prop} {Y : Nat → V → Hp → Hp → Prop}
theorem range_filter_succ (p : Nat → Bool) (i : Nat) : (List.range (i + 1)).filter p = (List.range i).filter p ++ (if p i = true then [i] else []) := by
  rw [List.range_succ, List.filter_append]
  congr 1
  by_cases h : p i = true <;> simp [h]
theorem lcQ_dt (I : Itn J n ok Y) (f : Nat → PyData) (p : Nat → Bool) (hz : n ≤ 16777216) (hok : ∀ H', Kp [] H H' → ok H')
    (hs : ∀ i x H' H'' R S, i < n → Kp [] H H' → Y i x H' H'' → (p i = true → ∀ v H4, Kp [] H'' H4 → Dt K H4 v (f i) → R v H4) → (p i = false → ∀ H4, Kp [] H'' H4 → S H4) → LcM g tt te vs σ R S x H'')
    (hd : ∀ Dl ws H', H Dl = none → Kp [] H H' → H' Dl = some (.lst ws) → DtAll K H' ws (((List.range n).filter p).map f) → Q (.ref Dl) H') : LcJ J g tt te vs σ H Q := by
  refine lcQ I (fun Dl i acc H' => Kp [] H H' ∧ DtAll K H' acc (((List.range i).filter p).map f)) (fun Dl hD => ⟨Kp.new hD, .nil⟩) (fun Dl i acc H' hD e => hok H' e.1) ?_ ?_
  · rintro Dl i x acc H' H'' hD hi hacc hl ⟨e, hds⟩ y
    have k := I.kp i x H' H'' y
    refine hs i x H' H'' _ _ hi e y (fun hp v H4 e4 hv => ?_) (fun hp H4 e4 => ?_)
    · have ha4 := e4.at0 (k.at0 hacc)
      have kt : Kt H4 (upd H4 Dl (.lst (acc ++ [v]))) := Kt.upd1 (NoT.lst ha4)
      refine lc_push ha4 hl (by omega) ⟨((e.trans k).trans e4).fresh_mut hD, ?_⟩
      rw [range_filter_succ, if_pos hp, List.map_append]
      exact dta_snoc (DtAll.kt ((k.kt.trans e4.kt).trans kt) hds) (Dt.kt kt hv)
    · have ha4 := e4.at0 (k.at0 hacc)
      refine lc_skip ha4 hl ⟨(e.trans k).trans e4, ?_⟩
      rw [range_filter_succ, hp, if_neg Bool.false_ne_true, List.append_nil]
      exact DtAll.kt (k.kt.trans e4.kt) hds
  · rintro Dl acc H' hD hacc hl ⟨e, hds⟩
    exact hd Dl acc H' hD e hacc hds
theorem lcQ_fil (I : Itn J n ok Y) (f : Nat → V) (p : Nat → Bool) (hz : n ≤ 16777216) (hok : ∀ H', Kp [] H H' → ok H')
    (hs : ∀ i x H' H'' R S, i < n → Kp [] H H' → Y i x H' H'' → (p i = true → ∀ H4, Kp [] H'' H4 → R (f i) H4) → (p i = false → ∀ H4, Kp [] H'' H4 → S H4) → LcM g tt te vs σ R S x H'')
    (hd : ∀ Dl H', H Dl = none → Kp [] H H' → H' Dl = some (.lst (((List.range n).filter p).map f)) → Q (.ref Dl) H') : LcJ J g tt te vs σ H Q := by
  refine lcQ I (fun Dl i acc H' => Kp [] H H' ∧ acc = ((List.range i).filter p).map f) (fun Dl hD => ⟨Kp.new hD, rfl⟩) (fun Dl i acc H' hD e => hok H' e.1) ?_ ?_
  · rintro Dl i x acc H' H'' hD hi hacc hl ⟨e, rfl⟩ y
    have k := I.kp i x H' H'' y
    refine hs i x H' H'' _ _ hi e y (fun hp H4 e4 => ?_) (fun hp H4 e4 => ?_)
    · refine lc_push (e4.at0 (k.at0 hacc)) hl (by omega) ⟨((e.trans k).trans e4).fresh_mut hD, ?_⟩
      rw [range_filter_succ, if_pos hp, List.map_append]
      rfl
    · refine lc_skip (e4.at0 (k.at0 hacc)) hl ⟨(e.trans k).trans e4, ?_⟩
      rw [range_filter_succ, hp, if_neg Bool.false_ne_true, List.append_nil]
  · rintro Dl acc H' hD hacc hl ⟨e, rfl⟩
    exact hd Dl H' hD e hacc
end
section
variable {X : Cx} {H : Hp} {Q : VK} {s z : Str} {to te : TE} {o e : Expr}
theorem cutS_len (x : Str) (lo hi : Option Int) : (cutS x lo hi).length ≤ x.length := by
  rw [txt_of x, cutS_txt, txt_len, txt_len, List.length_take, List.length_drop]
  omega
end
end Sa

namespace Sa
open PySem L2
section
variable {K : PySem.W.Frag} {H H' H1 : Hp} {d a : Addr} {u : HO} {od : Obj} {kvs : List (Key × V)}
theorem lock_back : upd (upd H d (.frz od u)) d u = upd H d u := by rw [upd_upd]
theorem upd_self (h : H d = some u) : upd H d u = H := by
  funext b
  by_cases z : b = d
  · subst z; rw [upd_same, h]
  · rw [upd_ne z]
theorem itn_k {α : Type} {ys : List α} {f : α → Key} {g : α → V} : Itn (Itk d od (ys.map fun y => (f y, g y))) ys.length (fun H => H d = some (.frz od (.dK (ys.map fun y => (f y, g y))))) (Yq ys fun y => kV (f y)) where
  go := fun i H ok hi => ⟨ok, by rw [List.length_map]; exact hi⟩
  stop := fun i H ok hi => ⟨ok, by rw [List.length_map]; exact hi⟩
  yld := fun i H x H' ok hi y => by
    obtain ⟨e, k, v, h1, h2⟩ := y
    rw [List.getElem?_map] at h1
    obtain ⟨z, hz, e2⟩ := Option.map_eq_some_iff.mp h1
    injection e2 with e3 e4
    exact ⟨e, z, hz, by rw [h2, ← e3]⟩
  kp := fun i x H H' h => by rw [h.1]; exact Kp.refl
theorem c_lockF {t : TS} {D : Ends} {σ : St} {kvs : List (Key × V)} (h : H d = some (.dK kvs)) (q : ∀ od, t ⟨fun σ' H' => H' d = some (.frz od (.dK kvs)) ∧ D.nx σ' (upd H' d (.dK kvs)), fun v H' => H' d = some (.frz od (.dK kvs)) ∧ D.rt v (upd H' d (.dK kvs)),
    fun σ' H' => H' d = some (.frz od (.dK kvs)) ∧ D.bk σ' (upd H' d (.dK kvs)), fun σ' H' => H' d = some (.frz od (.dK kvs)) ∧ D.ct σ' (upd H' d (.dK kvs))⟩ σ (upd H d (.frz od (.dK kvs)))) : tLock t D σ H := ⟨d, .dK kvs, h, trivial, q⟩
theorem c_iKeys {td : TE} {R : It → Hp → Prop} {σ : St} (h : td σ H fun x H1 => ∃ d o, x = .ref d ∧ ((∃ kvs, H1 d = some (.frz o (.dK kvs)) ∧ R (Itk d o kvs) H1) ∨ ∃ kvs, H1 d = some (.frz o (.dT kvs)) ∧ R (Itkt d o kvs) H1)) : iKeys td σ H R := h
theorem c_keysAt {g : TG} {tb : TS} {D : Ends} {σ : St} {od : Obj} {kvs : List (Key × V)} (h : H d = some (.frz od (.dK kvs))) (q : ForJ (Itk d od kvs) g tb D σ H) :
    ∃ d' o, V.ref d = .ref d' ∧ ((∃ kvs, H d' = some (.frz o (.dK kvs)) ∧ ForJ (Itk d' o kvs) g tb D σ H) ∨ ∃ kvs, H d' = some (.frz o (.dT kvs)) ∧ ForJ (Itkt d' o kvs) g tb D σ H) := ⟨d, od, rfl, .inl ⟨kvs, h, q⟩⟩
def DinK (neg : Bool) (x y : V) (H : Hp) (Q : VK) : Prop := ∃ a o, x = .ref a ∧ DGet H a y o ∧ Q (.bl (if neg then !o.isSome else o.isSome)) H
theorem c_din {ty td : TE} {σ : St} {Q : VK} (h : ty σ H fun y H1 => td σ H1 fun x H2 => DinK false x y H2 Q) : tDIn ty td σ H Q := h
theorem c_dnotin {ty td : TE} {σ : St} {Q : VK} (h : ty σ H fun y H1 => td σ H1 fun x H2 => DinK true x y H2 Q) : tDNotIn ty td σ H Q := h
def DGetK (x y : V) (H : Hp) (Q : VK) : Prop := ∃ a v, x = .ref a ∧ DGet H a y (some v) ∧ Q v H
theorem c_dgetK {H : Hp} {td ty : TE} {σ : St} {Q : VK} (h : td σ H fun x H1 => ty σ H1 fun y H2 => DGetK x y H2 Q) : tDGet td ty σ H Q := h
theorem c_dput {td ty tv : TE} {D : Ends} {σ : St} (h : tv σ H fun v H1 => td σ H1 fun x H2 => ty σ H2 fun y H3 => ∃ a H4, x = .ref a ∧ DPut H3 a y v H4 ∧ D.nx σ H4) : sDPut td ty tv D σ H := h
theorem c_dputAt {v : V} {k : Str} {kvs : List (Key × V)} {R : Hp → Prop} (h : H d = some (.dK kvs)) (hl : kvs.length < sizeLine) (q : R (upd H d (.dK (putK kvs (Sum.inr k) v)))) : ∃ a H4, V.ref d = .ref a ∧ DPut H a (.str k) v H4 ∧ R H4 := ⟨d, _, rfl, .inl ⟨kvs, Sum.inr k, h, rfl, hl, rfl⟩, q⟩
theorem c_dnew {Q : VK} {σ : St} (q : ∀ p H', New H p (.dK []) H' → Q (.ref p) H') : tDNewK σ H Q := fun p hp => q p _ ⟨hp, rfl⟩
theorem c_pNil {σ : St} {Q : List (V × V) → Hp → Prop} (h : Q [] H) : tPairs [] σ H Q := h
theorem c_pCons {tk tv : TE} {r : List (TE × TE)} {σ : St} {Q : List (V × V) → Hp → Prop} (h : tk σ H fun x H1 => tv σ H1 fun y H2 => tPairs r σ H2 fun ps H3 => Q ((x, y) :: ps) H3) : tPairs ((tk, tv) :: r) σ H Q := h
theorem c_neLS {K : PySem.W.Frag} {Q : VK} {a b : Addr} {ys zs : List Str} (ha : SqL K H a (ys.map V.str)) (hb : SqL K H b (zs.map V.str)) (h1 : ∀ y ∈ ys, okS y = true) (h2 : ∀ y ∈ zs, okS y = true) (q : Q (.bl (!decide (ys = zs))) H) : rNeU K (.ref a) (.ref b) H Q :=
  c_neD (dp_strs ha) (dp_strs hb) (shaped_strsL h1) (shaped_strsL h2) (by rw [PyData.eqv, eqvAll_strs]; exact q)
end
end Sa

namespace Sa
open PySem L2
structure MethD (P : Program) (w : World) (K : PySem.W.Frag) (mg : Str → Option Value) (base : Heap) (CX : CXT) (C m : Str) (k : Nat) (ps : List Str) (sp : Sp) (dv : V) : Prop where
  me : Meth K (He.ga K C) m (He.ma K (He.ga K C) m)
  ok : ∃ fd u, FnOk P w K mg base CX k (He.ma K (He.ga K C) m) fd ps sp ∧ Binds K fd ps [u] ∧ RelV dv u
section
variable {P : Program} {w : World} {K : PySem.W.Frag} {mg : Str → Option Value} {base : Heap}
theorem Tx.cstA {fa : List He.Fa} {fn : List He.DefD} {fx : List Fx} (T : Tx fa fn fx K mg) (i : Nat) {p : PySem.W.Frag → Addr} {d : PyData} (h : fx[i]? = some (.cstA p d)) (H : Hp) : Dp K H (.ref (p K)) d := cst_ref (T.fx i h) H
end
def tNewD (K : PySem.W.Frag) (C : Str) (sp : Sp) (dv : V) (E : St → XK) : TE := fun σ H Q => NewK K C sp [dv] H Q (E σ)
theorem c_newD {K : PySem.W.Frag} {C : Str} {sp : Sp} {dv : V} {E : St → XK} {σ : St} {H : Hp} {Q : VK} (h : NewK K C sp [dv] H Q (E σ)) : tNewD K C sp dv E σ H Q := h
section
variable {X : Cx} {CX : CXT} {K : PySem.W.Frag} {C : Str} {k j : Nat} {ps : List Str} {sp : Sp} {dv : V} {E : St → XK} {p pos : Pos}
end
end Sa

namespace Sa
open PySem L2
structure ExcO (K : PySem.W.Frag) (mg : Str → Option Value) (x : Str) : Prop where
  gl : mg x = some (.ref (He.ga K x))
  ex : PySem.W.excIn K (He.ga K x) He.veBase "ValueError.__new__" = true
  kp : PySem.W.keepIn K (.ref (He.ga K x)) = true
  sb : PySem.W.subIn K (.ref (He.ga K x)) (.type "BaseException") = some true
  ty : PySem.W.typeIn K (.ref (He.ga K x)) = some (.type "type")
theorem Tx.exo {fa : List He.Fa} {fn : List He.DefD} {fx : List Fx} {K : PySem.W.Frag} {mg : Str → Option Value} (T : Tx fa fn fx K mg) (i j : Nat) {x : Str} (h : fa[i]? = some (.glo x) := by rfl) (h2 : fa[j]? = some (.exc x) := by rfl) : ExcO K mg x := by
  obtain ⟨a, b, c, d⟩ := He.exc_ok (T.fact j h2)
  exact ⟨T.glo i h, a, b, c, d⟩
def tRaiseO (K : PySem.W.Frag) (x : Str) (W : WX) : TS := fun _ σ H => W (.ref (He.ga K x)) none σ H
theorem c_raiseO {K : PySem.W.Frag} {x : Str} {W : WX} {D : Ends} {σ : St} {H : Hp} (h : W (.ref (He.ga K x)) none σ H) : tRaiseO K x W D σ H := h
theorem exiB_ok {K : PySem.W.Frag} {D : Addr} (h : exiB K D = true) : ExcC K D := by
  unfold exiB at h
  simp only [Bool.and_eq_true, decide_eq_true_eq] at h
  obtain ⟨h1, h2, h3, h4, h5, h6, h7, h8⟩ := h
  exact ⟨h1, h2, h3, h4, h5, h6, h7, h8⟩
theorem Tx.exi {fa : List He.Fa} {fn : List He.DefD} {fx : List Fx} {K : PySem.W.Frag} {mg : Str → Option Value} (T : Tx fa fn fx K mg) (i : Nat) {x : Str} (h : fx[i]? = some (.exi x) := by rfl) : ExcC K (He.ga K x) := exiB_ok (T.fx i h)
theorem Tx.kit {fa : List He.Fa} {fn : List He.DefD} {fx : List Fx} {K : PySem.W.Frag} {mg : Str → Option Value} (T : Tx fa fn fx K mg) (i : Nat) {x y : Str} {b : Bool} (h : fx[i]? = some (.kit x y b) := by rfl) : PySem.W.kitOne K (.ref (He.ga K x)) (.ref (He.ga K y)) = some b := of_decide_eq_true (T.fx i h)
end Sa

namespace Sa
open PySem L2 PySem.Spec PyProof.Rows
section
variable {X : Cx} {K : PySem.W.Frag} {o e : Expr} {to te : TE} {apos cpos : Pos}
end
end Sa

namespace Sa
open PySem L2 PyProof.Rows
section
variable {H : Hp} {Q : VK} {a b : Bool}
end
end Sa
namespace Sa.Kis
open PySem PySem.W PySem.Spec PySem.Calls PyProof.Rows L2
variable {K : Frag} {D x : Addr} {od : Option Obj} {ox : Obj}
theorem find_cls (C : ExcC K D) : findObj K D od "__class__" = some (.bind (.builtin "getset_descriptor.__get__") (.builtin "object.__class__")) := by
  obtain ⟨cd, hc, _⟩ := any_some C.hd
  simp only [findObj, hc, C.ha, C.hn, C.ht, Option.bind_some]
theorem cls_of {prog : Program} {w : World} {A : Around} {E : Value → Shared → Prop} {s : Shared} {Q : Option Value → Shared → Prop} (C : ExcC K D) (X : K.In s.heap) (I : W.InstAt s.heap x ox D od)
    (q : Q (some (.ref D)) { s with toks := s.toks + 1 }) : wpAny (model prog w) A (getAttr? (.ref x) "__class__") Q E s := by
  cases s with | mk hp g d t os =>
  have lt := I.type (M := model prog w)
  have lg := looks_findIn (M := model prog w) X C.hg
  have lk := looks_findIn (M := model prog w) X C.hk
  have lf := looks_find (M := model prog w) X I (find_cls C)
  have ls : Looks (model prog w) hp (isInstance (.ref x) (.type "BaseException")) true := lt.andThen (looks_subIn X C.hs)
  have n2 : (Value.builtin "BaseException.__getattribute__" == Value.builtin "object.__getattribute__") = false := by
    decide +kernel
  have n1 : (onTheHeap (Value.ref D) && Value.builtin "BaseException.__getattribute__" == Value.builtin "object.__getattribute__") = false := by
    rw [n2]; rfl
  have n0 : (false && onTheHeap (Value.builtin "BaseException.__getattribute__")) = false := rfl
  have up : onTheHeap (Value.ref D) = true := rfl
  unfold getAttr? getAttrBy? getAttrBy
  refine wpAny_bind ?_
  refine wpAny_mkText ?_
  refine wpAny_bind ?_
  refine wpAny_attempt ?_
  refine wpAny_holding ?_
  refine wpAny_bind (lt.at ?_)
  refine wpAny_bind (lg.at ?_)
  show wpAny _ _ (if (onTheHeap (Value.ref D) && Value.builtin "BaseException.__getattribute__" == Value.builtin "object.__getattribute__") = true then _ else _) _ _ _
  rw [n1, if_neg Bool.false_ne_true]
  unfold getAttrByItsOwn hookBefore
  refine wpAny_bind ?_
  rw [if_pos up]
  refine lk.at ?_
  refine wpAny_bind ?_
  refine wpAny_attempt ?_
  refine wpAny_holding ?_
  unfold callGetattribute
  rw [n0, if_neg Bool.false_ne_true]
  unfold boundAndCalled
  rw [PySem.F.excAttr_ValueError.ga.bind (.ref x)]
  refine wpAny_bind ?_
  refine wpAny_pure ?_
  show wpAny _ _ (call (.builtin "BaseException.__getattribute__") [.ref x, .str "__class__" t]) _ _ _
  refine wpAny_call ?_
  refine codeAny_call_builtin PySem.F.excAttr_ValueError.ga.plain PySem.F.entry_bexc_ga ?_
  refine @check_slot (model prog w) _ _ ⟨hp, g, d, t + 1, os⟩ "BaseException.__getattribute__" "BaseException" "__getattribute__" (.ref x)
    [.str "__class__" t] [] _ (by decide +kernel) (by decide +kernel) ls (PySem.F.args_bexc_ga (.ref x) (.str "__class__" t)) ?_
  unfold Builtin.«object.__getattribute__»
  refine wpAny_bind ?_
  refine wpAny_of_eq (a := ((Value.ref x : Value), [Value.str "__class__" t])) (by first | rfl | (simp only [slotArgs]; rfl)) ?_
  refine wpAny_bind ?_
  refine wpAny_pure ?_
  refine wpAny_bind (lt.at ?_)
  refine wpAny_bind (lf.at ?_)
  show wpAny _ _ (holding [Value.builtin "object.__class__"] (call (.builtin "getset_descriptor.__get__") [.builtin "object.__class__", .ref x, .ref D]) >>= ret) _ _ _
  refine wpAny_bind ?_
  refine wpAny_holding ?_
  refine wpAny_call (class_get (s := ⟨hp, g, d, t + 1, os⟩) (ox := ox) (od := od) X I C.hm ?_)
  refine wpAny_pure ?_
  show wpAny _ _ (handedOut (.ref D)) _ _ _
  rw [handedOut_of (v := .ref D) rfl]
  first
    | exact wpAny_pure (wpAny_pure q)
    | exact wpAny_pure q
    | exact wpAny_pure (wpAny_bind (wpAny_pure (wpAny_pure q)))
theorem kitx (C : ExcC K D) : KitX K (.ref x) (.ref D) (fun h => W.InstAt h x ox D od) where
  ty := fun _ _ _ I => I.type
  it := fun M h X _ => by
    obtain ⟨cd, hc, _⟩ := any_some C.hd
    unfold clsIn at hc
    split at hc
    · rename_i ho
      intro A' Q' E' s' k q
      unfold isType loadHead
      refine wpAny_bind ?_
      exact wpAny_loadPart (k _ _ (X _ _ ho)) (wpAny_pure q)
    · cases hc
  ne := (handS_kitx_exc (x := x) (ox := ox) C.hg C.hk C.hs C.hd C.ha C.hn C.ht C.hm).ne
  ca := fun X I k => cls_of C X I k
end Sa.Kis
namespace Sa
open PySem L2
def rIsEV (K : PySem.W.Frag) (a : Addr) (cls : Value) (d : Option Addr) : List V → Hp → VK → Prop := fun xs H Q => ∃ D, cls = .ref D ∧ ExcC K D ∧ (∀ dd, d = some dd → ∃ fs, H dd = some (.xd fs)) ∧ rIsE K D a xs H Q
theorem cr_isEV {X : Cx} {a : Addr} {oe : Obj} {cls : Value} {d : Option Addr} {pn : List (Addr × Obj)} {K : PySem.W.Frag} (hz : Zc cls d oe) (hf : ∃ vs, oe.data = .fields vs) (hK : X.K = K := by rfl) : CallR (X.suite a ((a, oe) :: pn)) (.builtin "isinstance") (rIsEV K a cls d) := by
  subst hK
  intro pins s σ H xs us Q I r h
  obtain ⟨D, rfl, C, hd, c, cv, b, rfl, hcv, e, q⟩ := h
  cases r with
  | cons rx rr =>
    cases rr with
    | cons rt rr =>
      cases rr
      cases rx
      have ec := hcv _ rt
      subst ec
      have at_ := (I.pin (a, oe) (List.mem_append.mpr (.inl List.mem_cons_self))).1
      obtain ⟨vs, hv⟩ := hf
      have J : ∃ od, PySem.W.InstAt s.heap a oe D od := by
        obtain ⟨oc, o1, oda, osl⟩ := oe
        obtain ⟨h1, h2⟩ := hz
        dsimp only at h1 h2 hv
        subst h1 h2 hv
        cases o1 with
        | none => exact ⟨none, at_, rfl, rfl, trivial⟩
        | some dd =>
          obtain ⟨fs, hfs⟩ := hd dd rfl
          obtain ⟨mA, ⟨ob, es, ep, ho, _⟩, _⟩ := I.hok dd _ hfs
          exact ⟨some ob, at_, rfl, rfl, ho⟩
      obtain ⟨od, J⟩ := J
      exact PySem.W.kia_one (Sa.Kis.kitx C) I.kIn J e (fun z => nomatch z) fun tk => ⟨.bl b, H, I.kept (t' := tk) fun _ _ z => z, rfl, q⟩
theorem c_isEV {K : PySem.W.Frag} {a D C : Addr} {b : Bool} {d : Option Addr} {H : Hp} {Q : VK} (hD : ExcC K D) (hk : PySem.W.kitOne K (.ref D) (.ref C) = some b) (hd : ∀ dd, d = some dd → ∃ fs, H dd = some (.xd fs)) (q : Q (.bl b) H) : rIsEV K a (.ref D) d [.ref a, .ref C] H Q :=
  ⟨D, rfl, hD, hd, .ref C, .ref C, b, rfl, fun u r => by cases r; rfl, hk, q⟩
theorem c_isE1 {K : PySem.W.Frag} {a D C dd : Addr} {b : Bool} {fs : List (Str × V)} {H : Hp} {Q : VK} (hD : ExcC K D) (hk : PySem.W.kitOne K (.ref D) (.ref C) = some b) (hd : H dd = some (.xd fs)) (q : Q (.bl b) H) : rIsEV K a (.ref D) (some dd) [.ref a, .ref C] H Q :=
  c_isEV hD hk (fun d2 z => by injection z with z; subst z; exact ⟨fs, hd⟩) q
end Sa

namespace Sa
open PySem L2
def spInit3 (K : PySem.W.Frag) (C : Addr) (f g h : Str) : Sp := fun vs H Q _ => ∃ (a : Addr) (u v w : V), vs = [.ref a, u, v, w] ∧ H a = some (exo a C none) ∧ ∀ dx, H dx = none → dx ≠ a →
  Q .non (upd (upd (upd (upd H dx (exd dx [(f, u)])) a (exo a C (some dx))) dx (exd dx [(g, v), (f, u)])) dx (exd dx [(h, w), (g, v), (f, u)]))
structure ErrC3 (P : Program) (w : World) (K : PySem.W.Frag) (mg : Str → Option Value) (base : Heap) (x f g h : Str) : Prop where
  gl : mg x = some (.ref (He.ga K x))
  cls : OexC K (He.ga K x)
  xf : XfC K (He.ga K x)
  nof : PySem.W.findIn K (.ref (He.ga K x)) f = some none
  nog : PySem.W.findIn K (.ref (He.ga K x)) g = some none
  noh : PySem.W.findIn K (.ref (He.ga K x)) h = some none
  ok : ∃ ps, MethAt P w K mg base CX0 x "__init__" 2 ps (spInit3 K (He.ga K x) f g h)
def RaiseK3 (K : PySem.W.Frag) (x f g h : Str) (vs : List V) (H1 : Hp) (Q : XK) : Prop := vs.length ≤ 1000 ∧ ∀ a, H1 a = none → spInit3 K (He.ga K x) f g h (.ref a :: (vs ++ [])) (upd H1 a (exo a (He.ga K x) none))
  (fun v H2 => v = .non ∧ ∃ (d : Addr) (fs : List (Str × V)), H2 a = some (exo a (He.ga K x) (some d)) ∧ H2 d = some (exd d fs) ∧ H1 d = none ∧ Q (.ref (He.ga K x)) (some d) (upd (del H2 a) d (.xd fs))) (fun _ _ _ => False)
def tMkE3 (K : PySem.W.Frag) (x f g h : Str) (t : TA) : St → Hp → XK → Prop := fun σ H Q => t σ H fun vs H1 => RaiseK3 K x f g h vs H1 Q
def tRaiseE3 (K : PySem.W.Frag) (x f g h : Str) (W : WX) (t : TA) : TS := fun _ σ H => t σ H fun vs H1 => RaiseK3 K x f g h vs H1 fun cls d H' => W cls d σ H'
theorem c_err3 {K : PySem.W.Frag} {x f g h : Str} {u v w : V} {H1 : Hp} {Q : XK} (q : ∀ d H', New H1 d (.xd [(h, w), (g, v), (f, u)]) H' → Q (.ref (He.ga K x)) (some d) H') : RaiseK3 K x f g h [u, v, w] H1 Q := by
  refine ⟨by simp, fun a ha => ⟨a, u, v, w, rfl, upd_same, fun dx hdx hne => ⟨rfl, dx, [(h, w), (g, v), (f, u)], ?_, upd_same, ?_, ?_⟩⟩⟩
  · rw [upd_ne hne.symm, upd_ne hne.symm, upd_same]
  · rw [upd_ne hne] at hdx
    exact hdx
  · have hd1 : H1 dx = none := by rw [upd_ne hne] at hdx; exact hdx
    have e : upd (del (upd (upd (upd (upd (upd H1 a (exo a (He.ga K x) none)) dx (exd dx [(f, u)])) a (exo a (He.ga K x) (some dx))) dx (exd dx [(g, v), (f, u)])) dx (exd dx [(h, w), (g, v), (f, u)])) a) dx (.xd [(h, w), (g, v), (f, u)]) =
        upd H1 dx (.xd [(h, w), (g, v), (f, u)]) := by
      funext b
      by_cases h1 : b = dx
      · rw [h1, upd_same, upd_same]
      · rw [upd_ne h1, upd_ne h1]
        by_cases h2 : b = a
        · rw [h2, del_same, ha]
        · rw [del_ne h2, upd_ne h1, upd_ne h1, upd_ne h2, upd_ne h1, upd_ne h2]
    rw [e]
    exact q dx _ ⟨hd1, rfl⟩
theorem c_raiseE3 {K : PySem.W.Frag} {x f g h : Str} {W : WX} {t : TA} {D : Ends} {σ : St} {H : Hp} (hh : t σ H fun vs H1 => RaiseK3 K x f g h vs H1 fun cls d H' => W cls d σ H') : tRaiseE3 K x f g h W t D σ H := hh
section
variable {X : Cx} {x f g h : Str} {k : Nat} {W : WX} {p pos pos2 : Pos} {e : Expr} {es : List Expr} {t : TA}
theorem pmk_err3 {K : PySem.W.Frag} (T : ErrC3 X.prog X.w X.K X.mg X.base x f g h) (hr : Room k X.A) (ha : PA X (e :: es) t) (hk : 3 ≤ k := by decide) (hK : X.K = K := by rfl) (hg : Gl X x := by rfl)
    (hdb : (x == ("__debug__" : Str)) = false := by decide) (he : starEach (e :: es) X.env = (false, eval e X.env) :: starEach es X.env := by rfl) (hpl : (backTo pos (starEach es X.env)).any (·.1) = false := by rfl) :
    PMk X (.Call (.Name x p) (e :: es) [] pos) (tMkE3 K x f g h t) := by
  subst hK
  obtain ⟨ps, M⟩ := T.ok
  obtain ⟨fd, F, B⟩ := M.ok
  have fnT : PySem.W.typeIn X.K (.ref (He.ma X.K (He.ga X.K x) "__init__")) = some (.type "function") := eq_of_beq M.me.fn
  exact pmk_oex (p := p) T.cls M.me.at_ fnT F (hr.mono hk) B .nil (fun _ _ _ _ _ _ _ h => h.elim) hg T.gl ha hdb he hpl
theorem ps_raiseE3 {K : PySem.W.Frag} (T : ErrC3 X.prog X.w X.K X.mg X.base x f g h) (hr : Room k X.A) (tk : Takes X W) (ha : PA X (e :: es) t) (hk : 3 ≤ k := by decide) (hK : X.K = K := by rfl) (hg : Gl X x := by rfl) (hc : X.calm = true := by rfl)
    (hdb : (x == ("__debug__" : Str)) = false := by decide) (he : starEach (e :: es) X.env = (false, eval e X.env) :: starEach es X.env := by rfl) (hpl : (backTo pos (starEach es X.env)).any (·.1) = false := by rfl) :
    PS X (.Raise (some (.Call (.Name x p) (e :: es) [] pos)) none pos2) (tRaiseE3 K x f g h W t) := ps_raise hc tk (pmk_err3 T hr ha hk hK hg hdb he hpl)
end
theorem c_while {c : TT} {tb : TS} {D : Ends} {σ : St} {H : Hp} (W : Nat → St → Hp → Prop) (m : Nat) (h0 : W m σ H)
    (hs : ∀ m σ H, W m σ H → c σ H fun b H1 => if b = true then ∃ N : St → Hp → Prop, (∀ σ' H', N σ' H' → ∃ m', m' < m ∧ W m' σ' H') ∧ tb { D with nx := N, ct := N, bk := D.nx } σ H1 else D.nx σ H1) : tWhile c tb D σ H :=
  ⟨W, ⟨m, h0⟩, hs⟩
theorem c_turn {tb : TS} {D : Ends} {σ : St} {H : Hp} {W : Nat → St → Hp → Prop} {m : Nat} (h : tb { D with nx := fun σ' H' => ∃ m', m' < m ∧ W m' σ' H', ct := fun σ' H' => ∃ m', m' < m ∧ W m' σ' H', bk := D.nx } σ H) :
    ∃ N : St → Hp → Prop, (∀ σ' H', N σ' H' → ∃ m', m' < m ∧ W m' σ' H') ∧ tb { D with nx := N, ct := N, bk := D.nx } σ H := ⟨_, fun _ _ h => h, h⟩
end Sa

open PySem L2 Sa
-- heap look-ups
local macro_rules | `(tactic| walk_at "ne") => `(tactic| first | assumption | (apply Ne.symm; assumption) | (refine ne_of2 ?_ ?_ <;> assumption) | (apply Ne.symm; refine ne_of2 ?_ ?_ <;> assumption))
local macro_rules | `(tactic| walk_at "lk") => `(tactic| first
  | assumption
  | exact upd_same
  | ((with_reducible refine upd_new ?_ ?_); (· assumption); walk_at "lk")
  | ((with_reducible refine upd_other ?_ ?_); (· walk_at "ne"); walk_at "lk")
  | (with_reducible exact New.at_ (by assumption))
  | ((with_reducible refine New.keep (by assumption) ?_); walk_at "lk")
  | ((with_reducible refine New.sqL (by assumption) ?_); walk_at "lk")
  | ((with_reducible refine New.sqT (by assumption) ?_); walk_at "lk")
  | ((with_reducible refine Kp.at0 (by assumption) ?_); walk_at "lk")
  | ((with_reducible apply SqL.of); walk_at "lk")
  | ((with_reducible apply SqT.of); walk_at "lk")
  | ((with_reducible refine SqL.new ?_ ?_); (· assumption); walk_at "lk")
  | ((with_reducible refine SqT.new ?_ ?_); (· assumption); walk_at "lk"))
-- arithmetic of lengths
local macro_rules | `(tactic| walk_at "sz") => `(tactic| first | assumption | decide | (exact Nat.zero_le _) | (simp only [sizeLine_eq, List.length_cons, List.length_nil, List.length_append, List.length_map, List.length_replicate] at *; omega))
-- one step of a reading
local macro_rules | `(tactic| walk_at "s1") => `(tactic| first
  | (with_reducible apply c_seq)
  | ((with_reducible apply c_var); (exact rfl))
  | (with_reducible apply c_c)
  | (with_reducible apply c_op)
  | (with_reducible apply c_addI) | (with_reducible apply c_subI) | (with_reducible apply c_bandI)
  | (with_reducible refine c_bl ?_) | (with_reducible refine c_int ?_)
  | (with_reducible apply c_asg) | (with_reducible apply c_gName) | (with_reducible apply c_ret) | (with_reducible apply c_retN) | (with_reducible apply c_ifs) | (with_reducible apply c_drop)
  | (with_reducible apply c_test) | (with_reducible apply c_tB) | (with_reducible apply c_not) | (with_reducible apply c_and) | (with_reducible apply c_or)
  | (with_reducible apply c_eqI) | (with_reducible apply c_neI) | (with_reducible apply c_ltI) | (with_reducible apply c_leI) | (with_reducible apply c_gtI) | (with_reducible apply c_geI)
  | (with_reducible apply c_nil) | (with_reducible apply c_cons) | (with_reducible apply c_call) | (with_reducible apply c_cb) | (with_reducible apply c_tup) | (with_reducible apply c_lst)
  | (with_reducible apply c_sl) | (with_reducible apply c_noPart) | (with_reducible apply c_part) | (with_reducible apply c_bm) | (with_reducible apply c_bm0) | (with_reducible apply c_m1) | (with_reducible apply c_isStr)
  | (with_reducible apply c_chain) | (with_reducible apply c_andV) | (with_reducible apply c_orV) | (with_reducible apply c_notV) | (with_reducible apply c_if)
  | (with_reducible apply c_intI) | (with_reducible apply c_ord) | (with_reducible apply c_max2) | (with_reducible apply c_min2)
  | ((with_reducible apply c_mulI); (first | (exact Or.inr ⟨by decide, by decide⟩) | (exact Or.inl ⟨by decide, by decide⟩)))
  | ((with_reducible apply c_divI); (exact ⟨by decide, by decide⟩))
  | ((with_reducible apply c_modI); (first | decide | assumption | omega))
  | (with_reducible apply c_eqS) | (with_reducible apply c_neS) | (with_reducible apply c_eqB) | (with_reducible apply c_neB) | (with_reducible apply c_isN) | (with_reducible apply c_notN)
  | (with_reducible apply c_inC) | (with_reducible apply c_notInC)
  | (with_reducible refine c_truB ?_)
  | (with_reducible apply c_gSub)
  | (with_reducible apply c_next)
  | (with_reducible apply c_for) | (with_reducible apply c_lc) | (with_reducible apply c_rng1) | (with_reducible apply c_rng2) | (with_reducible apply c_iList) | (with_reducible apply c_iTup) | (with_reducible apply c_iStr)
  | ((with_reducible refine c_r1F ?_ ?_); (· first | decide | omega)) | ((with_reducible refine c_r2F ?_ ?_); (· first | decide | omega))
  | ((with_reducible apply c_itLF); (· walk_at "lk")) | ((with_reducible apply c_itTF); (· walk_at "lk")) | (with_reducible apply c_itSF)
  | ((with_reducible refine c_r1C ?_ ?_); (· first | decide | omega)) | ((with_reducible refine c_r2C ?_ ?_); (· first | decide | omega))
  | ((with_reducible apply c_itLC); (· walk_at "lk")) | ((with_reducible apply c_itTC); (· walk_at "lk")) | (with_reducible apply c_itSC)
  | ((with_reducible apply c_append); (· walk_at "lk"); (· walk_at "sz"))
  | (with_reducible apply c_yes)
  | (with_reducible apply c_newD) | (with_reducible apply c_dgetK) | (with_reducible apply c_din) | (with_reducible apply c_dnotin) | (with_reducible apply c_dput) | (with_reducible apply c_iKeys) | (with_reducible apply c_pNil) | (with_reducible apply c_pCons) | (with_reducible apply c_enumT) | (with_reducible apply c_iSeq) | (with_reducible apply c_lenSet) | (with_reducible apply c_dc) | (with_reducible apply c_fld) | (with_reducible apply c_setF) | (with_reducible apply c_meth) | (with_reducible apply c_newA) | (with_reducible apply c_dget1) | (with_reducible apply c_dget)
  | (with_reducible apply c_raiseE) | (with_reducible apply c_rng3) | (with_reducible apply c_enum) | (with_reducible apply c_callX) | (with_reducible apply c_xf)
  | (with_reducible apply c_it1) | (with_reducible apply c_it2) | (with_reducible apply c_it3) | (with_reducible apply c_it4)
  | (with_reducible apply c_gCons) | (with_reducible apply c_gNil)
  | ((with_reducible apply c_unL); (· walk_at "lk"); (· exact rfl)) | ((with_reducible apply c_unT); (· walk_at "lk"); (· exact rfl))
  | ((with_reducible apply c_lenS); (· walk_at "sz"))
  | ((with_reducible apply c_lenL); (· walk_at "lk"))
  | ((with_reducible apply c_lenT); (· walk_at "lk"))
  | ((with_reducible apply c_ixL); (· walk_at "lk"); (· exact rfl))
  | ((with_reducible apply c_ixT); (· walk_at "lk"); (· exact rfl))
  | ((with_reducible apply c_setL); (· walk_at "lk"); (· exact rfl))
  | ((with_reducible apply c_tyA); (· walk_at "lk")))
local macro_rules | `(tactic| walk_at "nw") => `(tactic| ((with_reducible refine c_nw ?_ ?_); (· walk_at "sz")))
local macro_rules | `(tactic| walk_at "st") => `(tactic| repeat (walk_at "s1"))
-- steps and ways, as far as they go
local macro_rules | `(tactic| walk_at "go") => `(tactic| repeat' (first | walk_at "s1" | ((with_reducible refine c_iteT ?_ ?_); (· exact rfl)) | ((with_reducible refine c_iteF ?_ ?_); (· exact rfl)) | ((with_reducible refine c_ite ?_ ?_) <;> intro hcnd) | ((with_reducible refine c_iteN ?_ ?_) <;> intro hcnd) | ((with_reducible refine c_iteNB ?_ ?_) <;> intro hcnd) | ((with_reducible refine c_iteB ?_ ?_) <;> intro hcnd) | fail))
-- ways that are settled by what is written
local macro_rules | `(tactic| walk_at "dc") => `(tactic| repeat' (first | walk_at "s1" | ((with_reducible refine c_iteF ?_ ?_); (· decide +kernel)) | ((with_reducible refine c_iteT ?_ ?_); (· decide +kernel)) | ((with_reducible refine c_iteF ?_ ?_); (· exact rfl)) | ((with_reducible refine c_iteT ?_ ?_); (· exact rfl)) | fail))
local macro_rules | `(tactic| walk_at "len") => `(tactic| first | (intro vs H Q E h; obtain ⟨_, e, _⟩ := h; subst e; rfl) | (intro vs H Q E h; obtain ⟨_, _, e, _⟩ := h; subst e; rfl) | (intro vs H Q E h; obtain ⟨_, _, _, e, _⟩ := h; subst e; rfl) | (intro vs H Q E h; obtain ⟨_, _, _, _, e, _⟩ := h; subst e; rfl) | (intro vs H Q E h; obtain ⟨_, _, _, _, _, e, _⟩ := h; subst e; rfl) | (intro vs H Q E h; obtain ⟨_, _, _, _, _, _, e, _⟩ := h; subst e; rfl) | (intro vs H Q E h; obtain ⟨_, _, _, _, _, _, _, e, _⟩ := h; subst e; rfl) | (intro vs H Q E h; obtain ⟨_, _, _, _, _, _, _, _, e, _⟩ := h; subst e; rfl) | (intro vs H Q E h; obtain ⟨_, _, _, _, _, _, _, _, _, e, _⟩ := h; subst e; rfl) | (intro vs H Q E h; obtain ⟨_, _, _, _, _, _, _, _, _, _, e, _⟩ := h; subst e; rfl) | (intro vs H Q E h; obtain ⟨_, _, _, _, _, _, _, _, _, _, _, e, _⟩ := h; subst e; rfl) | (intro vs H Q E h; obtain ⟨_, _, _, _, _, _, _, _, _, _, _, _, e, _⟩ := h; subst e; rfl))

namespace K07
open PySem L2 Sa
def top (i : Nat) : Stmt := PySem.Challenge.pw_sameanswers_k07_first_fault_of_actions.main.body.getD i (.Pass ⟨0, 0, 0, 0⟩)
abbrev s_is_name : Stmt := top 11
abbrev s_is_path : Stmt := top 12
abbrev s__quote_end : Stmt := top 20
abbrev s__word_end : Stmt := top 21
abbrev s__split : Stmt := top 22
abbrev s_read_actions : Stmt := top 24
abbrev s__law_cell : Stmt := top 26
abbrev s__law_digits : Stmt := top 27
abbrev s__law_draw : Stmt := top 28
abbrev s__law_path : Stmt := top 29
abbrev s__law_line : Stmt := top 30
abbrev s__law_lines : Stmt := top 31
abbrev s__law_inside : Stmt := top 32
abbrev s__law_blocked : Stmt := top 33
abbrev s__law_files : Stmt := top 34
abbrev s__law_some_path : Stmt := top 36
abbrev s__law_place : Stmt := top 37
abbrev s__law_question : Stmt := top 38
abbrev s__law_part : Stmt := top 39
abbrev s__law_deed : Stmt := top 40
abbrev s__law_action : Stmt := top 41
abbrev s__law_quoted : Stmt := top 42
abbrev s__law_bracketed : Stmt := top 43
abbrev s__law_tokens : Stmt := top 44
abbrev s__law_move : Stmt := top 46
abbrev s__law_lay : Stmt := top 47
abbrev s__law_told : Stmt := top 48
abbrev s__law_wrong : Stmt := top 49
abbrev s__law_many : Stmt := top 50
abbrev s_law : Stmt := top 51
abbrev s_TextFault___init__ : Stmt := subAt (top 2) 0
abbrev s_OutOfRange___init__ : Stmt := subAt (top 3) 0
abbrev s_Reader___init__ : Stmt := subAt (top 23) 0
abbrev s_Reader_kind : Stmt := subAt (top 23) 1
abbrev s_Reader_refuse : Stmt := subAt (top 23) 2
abbrev s_Reader_is_sign : Stmt := subAt (top 23) 3
abbrev s_Reader_expect : Stmt := subAt (top 23) 4
abbrev s_Reader_take : Stmt := subAt (top 23) 5
abbrev s_Reader_back : Stmt := subAt (top 23) 6
abbrev s_Reader_word : Stmt := subAt (top 23) 7
abbrev s_Reader_path : Stmt := subAt (top 23) 8
abbrev s_Reader_place : Stmt := subAt (top 23) 9
abbrev s_Reader_quoted_word : Stmt := subAt (top 23) 10
abbrev s_Reader_lines : Stmt := subAt (top 23) 11
abbrev s_Reader_action : Stmt := subAt (top 23) 12
abbrev s__law_rows : Stmt := top 35
def fa : List He.Fa := [.free "all", .str "LETTERS" "abcdefghijklmnopqrstuvwxyz0123456789", .free "len", .int "NAME_MOST" 8, .glo "is_name", .int "DEPTH_MOST" 3, .glo "is_path", .glo "TextFault", .glo "_quote_end", .str "ENDS" " \n()[]\"", .glo "_word_end", .str "SIGNS" "()[]", .glo "_split", .free "tuple", .glo "Reader", .int "TEXT_MOST" 8000, .glo "OutOfRange", .glo "read_actions", .glo "_law_cell", .free "range", .free "int", .glo "_law_digits", .glo "_law_draw", .glo "_law_path", .glo "_law_line", .glo "_law_lines", .glo "_law_inside", .glo "_law_blocked", .glo "_law_files", .free "sorted", .glo "_law_some_path", .glo "_law_place", .glo "_law_question", .glo "_law_part", .glo "_law_deed", .glo "_law_action", .glo "_law_quoted", .glo "_law_bracketed", .glo "_law_tokens", .glo "_law_move", .glo "_law_lay", .glo "TrunkError", .free "isinstance", .glo "_law_told", .glo "_law_wrong", .glo "_law_many", .glo "law", .meth "TextFault" "__init__", .meth "OutOfRange" "__init__", .meth "Reader" "__init__", .meth "Reader" "kind", .meth "Reader" "refuse", .meth "Reader" "is_sign", .meth "Reader" "expect", .meth "Reader" "take", .meth "Reader" "back", .glo "DEEDS", .glo "QUESTIONS", .meth "Reader" "word", .meth "Reader" "path", .str "ROOT" ".", .meth "Reader" "place", .int "WORD_MOST" 12, .meth "Reader" "quoted_word", .int "LINES_MOST" 12, .int "LINE_MOST" 20, .meth "Reader" "lines", .meth "Reader" "action", .glo "_law_rows", .noat "OutOfRange" "name", .noat "TextFault" "line", .noat "TextFault" "column", .noat "TextFault" "words", .cls "Reader", .mkr "Reader", .noat "Reader" "_tokens", .noat "Reader" "_at", .exm "OutOfRange" "TrunkError" true, .exm "TextFault" "TrunkError" true]
def fn : List He.DefD := [dOf "is_name" s_is_name, dOf "is_path" s_is_path, dOf "_quote_end" s__quote_end, dOf "_word_end" s__word_end, dOf "_split" s__split, dOf "read_actions" s_read_actions, dOf "_law_cell" s__law_cell, dOf "_law_digits" s__law_digits, dOf "_law_draw" s__law_draw, dOf "_law_path" s__law_path, dOf "_law_line" s__law_line, dOf "_law_lines" s__law_lines, dOf "_law_inside" s__law_inside, dOf "_law_blocked" s__law_blocked, dOf "_law_files" s__law_files, dOf "_law_some_path" s__law_some_path, dOf "_law_place" s__law_place, dOf "_law_question" s__law_question, dOf "_law_part" s__law_part, dOf "_law_deed" s__law_deed, dOf "_law_action" s__law_action, dOf "_law_quoted" s__law_quoted, dOf "_law_bracketed" s__law_bracketed, dOf "_law_tokens" s__law_tokens, dOf "_law_move" s__law_move, dOf "_law_lay" s__law_lay, dOf "_law_told" s__law_told, dOf "_law_wrong" s__law_wrong, dOf "_law_many" s__law_many, dOf "law" s_law, dOfM "TextFault" "__init__" "TextFault.__init__" s_TextFault___init__, dOfM "OutOfRange" "__init__" "OutOfRange.__init__" s_OutOfRange___init__, dOfM "Reader" "__init__" "Reader.__init__" s_Reader___init__, dOfM "Reader" "kind" "Reader.kind" s_Reader_kind, dOfM "Reader" "refuse" "Reader.refuse" s_Reader_refuse, dOfM "Reader" "is_sign" "Reader.is_sign" s_Reader_is_sign, dOfM "Reader" "expect" "Reader.expect" s_Reader_expect, dOfM "Reader" "take" "Reader.take" s_Reader_take, dOfM "Reader" "back" "Reader.back" s_Reader_back, dOfM "Reader" "word" "Reader.word" s_Reader_word, dOfM "Reader" "path" "Reader.path" s_Reader_path, dOfM "Reader" "place" "Reader.place" s_Reader_place, dOfM "Reader" "quoted_word" "Reader.quoted_word" s_Reader_quoted_word, dOfM "Reader" "lines" "Reader.lines" s_Reader_lines, dOfM "Reader" "action" "Reader.action" s_Reader_action, dOf "_law_rows" s__law_rows]
def fx : List Fx := [.cst "QUESTIONS" (.tuple [(.str "read"), (.str "kind"), (.str "list"), (.str "find"), (.str "count")]), .cst "DEEDS" (.tuple [(.str "write"), (.str "remove"), (.str "move"), (.str "splice")]), .oex "OutOfRange", .xf "OutOfRange", .oex "TextFault", .xf "TextFault", .exi "OutOfRange", .exi "TextFault", .kit "OutOfRange" "TextFault" false, .kit "OutOfRange" "OutOfRange" true, .kit "TextFault" "TextFault" true, .kit "TextFault" "OutOfRange" false]
abbrev TX (K : PySem.W.Frag) (mg : Str → Option Value) : Prop := Tx fa fn fx K mg
end K07
namespace K07
open PySem L2 Sa
abbrev R : PySem.W.OpenRow := PySem.W.OpenLaw.row PySem.Challenge.rw_sameanswers_k07_first_fault_of_actions
abbrev qv : Program := PySem.W.view R.prog [51]
abbrev hk : PySem.W.Hook := He.hookX 5 fa fn [] [] (exs fx)
def ob (s : PySem.W.SharedT) : He.AlX := He.obsX 5 fa fn [] [] (exs fx) (HandSHeadRun.getT s)
theorem ob_eq (s : PySem.W.SharedT) : ob s = hk.obs s.abs := He.obsX_eq (HandSHeadRun.getT_eq s)
def loose0 : List PySem.Str := ["TrunkError", "TextFault", "OutOfRange", "NAME_MOST", "DEPTH_MOST", "LINE_MOST", "LINES_MOST", "WORD_MOST", "LETTERS", "is_name", "is_path", "QUESTIONS", "DEEDS", "TEXT_MOST", "ROOT", "SIGNS", "ENDS", "_quote_end", "_word_end", "_split", "Reader", "read_actions", "_law_cell", "_law_digits", "_law_draw", "_law_path", "_law_line", "_law_lines", "_law_inside", "_law_blocked"]
def loose1 : List PySem.Str := ["_law_files", "_law_rows", "_law_some_path", "_law_place", "_law_question", "_law_part", "_law_deed", "_law_action", "_law_quoted", "_law_bracketed", "_law_tokens", "_law_written", "_law_move", "_law_lay", "_law_told", "_law_wrong", "_law_many"]
def loose : List PySem.Str := loose0 ++ loose1
theorem run (w : World) : HandSHeadRun.RunEq R qv hk ob 4000 loose w := by
  intro os
  kernel_rfl
end K07

namespace K07
open PySem L2 Sa
section
variable {P : Program} {w : World} {K : PySem.W.Frag} {mg : Str → Option Value} {base : Heap}
theorem sc__law_draw : FnScope ["_law_box", "_law_many_here", "_law_at"] ["_law_box", "_law_many_here"] (defScope s__law_draw) := ⟨rfl, rfl, rfl, by decide +kernel, rfl, by decide +kernel, by decide +kernel⟩
theorem bn__law_draw : BindN "_law_draw" s__law_draw ["_law_box", "_law_many_here"] := fun _ _ _ _ _ _ us hl => match us, hl with | [_, _], _ => rfl
def spDraw : Sp := fun vs H Q _ => ∃ (b d : Addr) (many : Int), vs = [.ref b, .int many] ∧ Bx H b d ∧ 0 < many ∧ ∀ (i : Int) (H' : Hp), 0 ≤ i → i < many → Kp [b] H H' → Bx H' b d → Q (.int i) H'
theorem b__law_draw (T : TX K mg) : Body P w K mg base "_law_draw" s__law_draw ["_law_box", "_law_many_here", "_law_at"] 1 spDraw := by
  intro cdv A outer s H vs Q E h X hr
  obtain ⟨b, d, many, rfl, B, hm, k⟩ := h
  obtain ⟨at_, ds, h1, h2, h3⟩ := B.ex
  refine ⟨_, (pss_cons (ps_set (i := 2) sc__law_draw.nd rfl (Or.inl rfl) (pe_ix (ix_U (K := K)) (pv 0) pe_int (fun _ _ => rfl))) (pss_cons (ps_asg (pe_op (op_addU (K := K)) (pv 2) pe_int) (pg_sub (pv 0) pe_int set_list)) (pss_cons (ps_if (pt_cmpR op_ltU (pv 2) (pe_callB (cr_len (K := K)) rfl (T.free 2) PySem.boot_len (pa_cons (pe_ix (ix_U (K := K)) (pv 0) pe_int (fun _ _ => rfl)) pa_nil)) (nomark _)) (pss_one (ps_ret (pe_op op_modU (pe_callTy cr_int rfl (T.free 20) (by decide +kernel) (pa_cons (pe_ix (ix_U (K := K)) (pe_ix (ix_U (K := K)) (pv 0) pe_int (fun _ _ => rfl)) (pv 2) (fun _ _ => rfl)) pa_nil)) (pv 1)))) pss_nil) (pss_one (ps_ret (pe_op op_modU (pe_callTy cr_int rfl (T.free 20) (by decide +kernel) (pa_cons (pe_op (op_addU (K := K)) (pe_op (op_mulU (K := K)) (pv 2) pe_int) pe_int) pa_nil)) (pv 1))))))), ?_⟩
  have hne := B.ne
  walk_at "st"
  have fin : ∀ z : Int, Q (.int (z % many)) (upd H b (.lst [.ref d, .int (at_ + 1)])) := fun z => by
    refine k _ _ (Int.emod_nonneg _ (by omega)) (Int.emod_lt_of_pos _ hm) (Kp.mut (by simp)) ⟨at_ + 1, ds, upd_same, upd_other hne h2, by omega⟩
  refine c_ite (fun hlt => ?_) (fun hlt => ?_)
  · walk_at "st"
    rw [List.length_map] at hlt
    refine c_ixL (by walk_at "lk") (atI_ints h3 hlt) ?_
    walk_at "st"
    exact fin _
  · walk_at "st"
    exact fin _
theorem D__law_draw (T : TX K mg) : DefAt P w K mg base CX0 "_law_draw" 2 ["_law_box", "_law_many_here"] spDraw :=
  def_of T 8 22 sc__law_draw bn__law_draw (fun vs H Q E h => by obtain ⟨b, d, many, rfl, _⟩ := h; rfl) (b__law_draw T)

theorem sc__law_cell : FnScope ["_law_script", "_law_k"] ["_law_script", "_law_k"] (defScope s__law_cell) := ⟨rfl, rfl, rfl, by decide +kernel, rfl, by decide +kernel, by decide +kernel⟩
theorem bn__law_cell : BindN "_law_cell" s__law_cell ["_law_script", "_law_k"] := fun _ _ _ _ _ _ us hl => match us, hl with | [_, _], _ => rfl
def spCell (K : PySem.W.Frag) : Sp := fun vs H Q _ => ∃ (a : Addr) (ns : List Int) (k : Int), vs = [.ref a, .int k] ∧ SqL K H a (ns.map V.int) ∧ 0 ≤ k ∧ ∀ n : Int, Q (.int n) H
theorem b__law_cell (T : TX K mg) : Body P w K mg base "_law_cell" s__law_cell ["_law_script", "_law_k"] 1 (spCell K) := by
  intro cdv A outer s H vs Q E h X hr
  obtain ⟨a, ns, k, rfl, hs, h0, q⟩ := h
  refine ⟨_, (pss_cons (ps_if (pt_cmpR op_ltU (pv 1) (pe_callB (cr_len (K := K)) rfl (T.free 2) PySem.boot_len (pa_cons (pv 0) pa_nil)) (nomark _)) (pss_one (ps_ret (pe_ix (ix_U (K := K)) (pv 0) (pv 1) (fun _ _ => rfl)))) pss_nil) (pss_one (ps_ret pe_int))), ?_⟩
  walk_at "st"
  refine c_ite (fun hlt => ?_) (fun hlt => ?_)
  · walk_at "st"
    rw [List.length_map] at hlt
    refine c_ixL hs (atI_ints h0 hlt) ?_
    exact q _
  · walk_at "st"
    exact q _
theorem D__law_cell (T : TX K mg) : DefAt P w K mg base CX0 "_law_cell" 2 ["_law_script", "_law_k"] (spCell K) :=
  def_of T 6 18 sc__law_cell bn__law_cell (fun vs H Q E h => by obtain ⟨b, d, many, rfl, _⟩ := h; rfl) (b__law_cell T)
theorem sc__law_digits : FnScope ["_law_script", "_law_first", "_law_last", "_law_digits_here", "_law_k", "_law_cell_here", "_law_turn", "_law_seed"] ["_law_script", "_law_first", "_law_last"] (defScope s__law_digits) := ⟨rfl, rfl, rfl, by decide +kernel, rfl, by decide +kernel, by decide +kernel⟩
theorem bn__law_digits : BindN "_law_digits" s__law_digits ["_law_script", "_law_first", "_law_last"] := fun _ _ _ _ _ _ us hl => match us, hl with | [_, _, _], _ => rfl
def spDigits (K : PySem.W.Frag) : Sp := fun vs H Q _ => ∃ (a : Addr) (ns : List Int), vs = [.ref a, .int 0, .int 63] ∧ SqL K H a (ns.map V.int) ∧ ∀ (p : Addr) (ds : List Int), H p = none → Q (.ref p) (upd H p (.lst (ds.map V.int)))
theorem b__law_digits (T : TX K mg) : Body P w K mg base "_law_digits" s__law_digits ["_law_script", "_law_first", "_law_last", "_law_digits_here", "_law_k", "_law_cell_here", "_law_turn", "_law_seed"] 2 (spDigits K) := by
  intro cdv A outer s H vs Q E h X hr
  obtain ⟨a, ns, rfl, hs, q⟩ := h
  have D__law_cell : DefAt P w K mg base CX0 "_law_cell" 2 ["_law_script", "_law_k"] (spCell K) := D__law_cell T
  refine ⟨_, (pss_cons (ps_set (i := 3) sc__law_digits.nd rfl (Or.inl rfl) (pe_lst pa_nil)) (pss_cons (ps_for PassesOwn.never rfl (pi_range2 rfl (T.free 19) (pa_cons (pv 1) (pa_cons (pv 2) pa_nil))) (pg_name (i := 4) sc__law_digits.nd rfl (Or.inl rfl)) (pss_cons (ps_set (i := 5) sc__law_digits.nd rfl (Or.inl rfl) (pe_callA D__law_cell hr pass0 (pa_cons (pv 0) (pa_cons (pv 4) pa_nil)))) (Evl.pss_cut (ps_if (pt_cmpR op_ltU (pv 5) pe_int (nomark _)) (pss_one (ps_set (i := 5) sc__law_digits.nd rfl (Or.inl rfl) (pe_op op_subU pe_int (pe_op (op_mulU (K := K)) pe_int (pv 5))))) pss_nil) (pss_one (ps_if (pt_cmpR op_geU (pv 5) pe_int (nomark _)) (pss_one (ps_for PassesOwn.never rfl (pi_range1 rfl (T.free 19) (pa_cons pe_int pa_nil)) (pg_name (i := 6) sc__law_digits.nd rfl (Or.inl rfl)) (pss_one (ps_if (pt_cmpR op_gtU (pv 5) pe_int (nomark _)) (pss_cons (ps_expr (pe_appendU (K := K) (pv 3) (pe_op op_modU (pe_callTy cr_int rfl (T.free 20) (by decide +kernel) (pa_cons (pv 5) pa_nil)) pe_int))) (pss_one (ps_set (i := 5) sc__law_digits.nd rfl (Or.inl rfl) (pe_op op_divU (pv 5) pe_int)))) pss_nil)))) (pss_cons (ps_set (i := 7) sc__law_digits.nd rfl (Or.inl rfl) (pe_op op_modU (pe_callTy cr_int rfl (T.free 20) (by decide +kernel) (pa_cons (pe_op (op_addU (K := K)) (pe_op (op_addU (K := K)) (pe_op (op_mulU (K := K)) (pv 5) pe_int) (pe_op (op_mulU (K := K)) (pv 4) pe_int)) pe_int) pa_nil)) pe_int)) (pss_one (ps_for PassesOwn.never rfl (pi_range1 rfl (T.free 19) (pa_cons pe_int pa_nil)) (pg_name (i := 6) sc__law_digits.nd rfl (Or.inl rfl)) (pss_cons (ps_set (i := 7) sc__law_digits.nd rfl (Or.inl rfl) (pe_op op_modU (pe_callTy cr_int rfl (T.free 20) (by decide +kernel) (pa_cons (pe_op (op_addU (K := K)) (pe_op (op_addU (K := K)) (pe_op (op_mulU (K := K)) (pv 7) pe_int) (pe_op (op_mulU (K := K)) pe_int (pv 6))) pe_int) pa_nil)) pe_int)) (pss_one (ps_expr (pe_appendU (K := K) (pv 3) (pe_op op_modU (pe_callTy cr_int rfl (T.free 20) (by decide +kernel) (pa_cons (pe_op op_divU (pv 7) pe_int) pa_nil)) pe_int))))))))))))) (pss_one (ps_ret (pv 3))))), ?_⟩
  walk_at "st"
  walk_at "nw"
  rintro p _ ⟨hp, rfl⟩
  walk_at "st"
  refine forR (fun i σ H' => ∃ (ds : List Int) (v4 v5 v6 v7 : Option V), σ = [some (.ref a), some (.int 0), some (.int 63), some (.ref p), v4, v5, v6, v7] ∧ H' = upd H p (.lst (ds.map V.int)) ∧ ds.length ≤ 60 * i)
    ⟨[], _, _, _, _, rfl, rfl, Nat.le_refl _⟩ ?_ ?_
  · rintro i σ _ hi ⟨ds, v4, v5, v6, v7, rfl, rfl, hl⟩
    have hi : i < 63 := hi
    walk_at "st"
    refine ⟨a, ns, _, rfl, by walk_at "lk", by omega, fun n => ?_⟩
    walk_at "st"
    refine c_cut (fun σ' H' => ∃ m : Int, σ' = [some (.ref a), some (.int 0), some (.int 63), some (.ref p), some (.int (0 + (i : Int))), some (.int m), v6, v7] ∧ H' = upd H p (.lst (ds.map V.int))) ?_ ?_
    · walk_at "st"
      refine c_ite (fun hlt => ?_) (fun hlt => ?_)
      · walk_at "st"
        exact ⟨_, rfl, rfl⟩
      · walk_at "st"
        exact ⟨_, rfl, rfl⟩
    · rintro _ _ ⟨m, rfl, rfl⟩
      walk_at "st"
      refine c_ite (fun hlt => ?_) (fun hlt => ?_)
      · walk_at "st"
        refine forR (fun j σ H' => ∃ (ds' : List Int) (v6 : Option V) (m : Int), σ = [some (.ref a), some (.int 0), some (.int 63), some (.ref p), some (.int (0 + (i : Int))), some (.int m), v6, v7] ∧ H' = upd H p (.lst (ds'.map V.int)) ∧ ds'.length ≤ ds.length + j)
          ⟨ds, _, _, rfl, rfl, Nat.le_refl _⟩ ?_ ?_
        · rintro j σ _ hj ⟨ds', v6, m, rfl, rfl, hl'⟩
          have hj : j < 60 := hj
          walk_at "st"
          refine c_ite (fun hlt => ?_) (fun hlt => ?_)
          · walk_at "st"
            refine ⟨ds' ++ [m % 1000], _, _, rfl, by rw [upd_upd, map_snocI], by rw [List.length_append, List.length_singleton]; omega⟩
          · walk_at "st"
            exact ⟨ds', _, _, rfl, rfl, by omega⟩
        · rintro σ _ ⟨ds', v6, m, rfl, rfl, hl'⟩
          have hl' : ds'.length ≤ ds.length + 60 := hl'
          walk_at "st"
          exact ⟨ds', _, _, _, _, rfl, rfl, by omega⟩
      · walk_at "st"
        refine forR (fun j σ H' => ∃ (ds' : List Int) (v6 : Option V) (m z : Int), σ = [some (.ref a), some (.int 0), some (.int 63), some (.ref p), some (.int (0 + (i : Int))), some (.int m), v6, some (.int z)] ∧ H' = upd H p (.lst (ds'.map V.int)) ∧ ds'.length ≤ ds.length + j)
          ⟨ds, _, _, _, rfl, rfl, Nat.le_refl _⟩ ?_ ?_
        · rintro j σ _ hj ⟨ds', v6, m, z, rfl, rfl, hl'⟩
          have hj : j < 12 := hj
          walk_at "st"
          refine ⟨ds' ++ [_], _, _, _, rfl, by rw [upd_upd, map_snocI], by rw [List.length_append, List.length_singleton]; omega⟩
        · rintro σ _ ⟨ds', v6, m, z, rfl, rfl, hl'⟩
          have hl' : ds'.length ≤ ds.length + 12 := hl'
          walk_at "st"
          exact ⟨ds', _, _, _, _, rfl, rfl, by omega⟩
  · rintro σ _ ⟨ds, v4, v5, v6, v7, rfl, rfl, hl⟩
    walk_at "st"
    exact q p ds hp
theorem D__law_digits (T : TX K mg) : DefAt P w K mg base CX0 "_law_digits" 3 ["_law_script", "_law_first", "_law_last"] (spDigits K) :=
  def_of T 7 21 sc__law_digits bn__law_digits (fun vs H Q E h => by obtain ⟨b, d, rfl, _⟩ := h; rfl) (b__law_digits T)
end
end K07



namespace K07
open PySem L2 Sa
def isNameS (z : Str) : Bool := decide (1 ≤ z.length) && decide (z.length ≤ 8) && z.cps.toList.all fun c => decide (c ∈ (PySem.Str.ofString "abcdefghijklmnopqrstuvwxyz0123456789").cps.toList)
def isPathS (z : Str) : Bool := decide ((Txt.split z (PySem.Str.ofString "/")).length ≤ 3) && (Txt.split z (PySem.Str.ofString "/")).all isNameS
def isPlaceS (z : Str) : Bool := decide (z = PySem.Str.ofString "") || isPathS z
def plainC (c : Nat) : Bool := decide (32 ≤ c) && decide (c ≤ 126) && !decide (c = 34) && !decide (c = 37)
def isPlainS (z : Str) : Bool := z.cps.toList.all plainC
def isLineS (z : Str) : Bool := decide (z.length ≤ 20) && isPlainS z
def isWordS (z : Str) : Bool := decide (1 ≤ z.length) && decide (z.length ≤ 12) && isPlainS z
def isLinesS (ys : List Str) : Bool := decide (ys.length ≤ 12) && ys.all isLineS
def isInsideS (x y : Str) : Bool := decide (y = PySem.Str.ofString "") || Txt.startswith x (y ++ PySem.Str.ofString "/")
def spStrB (f : Str → Bool) : Sp := fun vs H Q _ => ∃ z : Str, vs = [.str z] ∧ z.length ≤ 100000 ∧ ∀ H', Kp [] H H' → Q (.bl (f z)) H'
theorem spStrB_len (f : Str → Bool) : ∀ vs H Q E, spStrB f vs H Q E → vs.length = 1 := fun vs H Q E h => by obtain ⟨z, rfl, _⟩ := h; rfl
theorem split_small {z y : Str} (h : z.length ≤ 100000) (hy : 0 < y.length) : (Txt.split z y).length ≤ 100001 := by have := split_many (x := z) y hy; omega
theorem all_bl {α : Type} (ys : List α) (f : α → Bool) : (ys.map fun y => V.bl (f y)) = (ys.map f).map V.bl := by simp [Function.comp_def]
theorem all_id {α : Type} (ys : List α) (f : α → Bool) : (ys.map f).all id = ys.all f := by simp [List.all_map, Function.comp_def]
theorem fil_true {α : Type} (ys : List α) : ys.filter (fun _ => true) = ys := by simp
theorem join_ne_nil {z y : Str} : (Txt.split z y) ≠ [] ∨ z = PySem.Str.ofString "" := by
  by_cases h : Txt.split z y = []
  · right
    have e := StrLaws.join_split z y
    rw [h] at e
    rw [← e]
    rfl
  · exact .inl h
section
variable {P : Program} {w : World} {K : PySem.W.Frag} {mg : Str → Option Value} {base : Heap}
theorem sc_is_name : FnScope ["text", "sign"] ["text"] (defScope s_is_name) := ⟨rfl, rfl, rfl, by decide +kernel, rfl, by decide +kernel, by decide +kernel⟩
theorem bn_is_name : BindN "is_name" s_is_name ["text"] := fun _ _ _ _ _ _ us hl => match us, hl with | [_], _ => rfl
theorem b_is_name (T : TX K mg) : Body P w K mg base "is_name" s_is_name ["text", "sign"] 1 (spStrB isNameS) := by
  intro cdv A outer s H vs Q E h X hr
  obtain ⟨z, rfl, hz, q⟩ := h
  refine ⟨_, (pss_one (ps_ret (pe_and (pe_chain op_leU op_leU pe_int (pe_callB (cr_len (K := K)) rfl (T.free 2) PySem.boot_len (pa_cons (pv 0) pa_nil)) (pe_gInt (T.int 3))) (pe_one (pe_callB (cr_allU (K := K) rfl) rfl (T.free 0) (by decide +kernel) (pa_cons (pe_lc (own := [("sign", 1)]) rfl sc_is_name.nd (pi_str (pv 0)) (blkOk_by (N := ["text", "sign"]) (sc := defScope s_is_name) (by decide +kernel)) (fun _ _ _ _ _ => (pg_name (i := 1) sc_is_name.nd rfl (Or.inl rfl))) (fun _ _ _ _ _ => pts_nil) (fun _ _ _ _ _ => (pe_cmpR (op_inU (K := K)) (pv 1) (pe_gStr (T.str 1)) rfl))) pa_nil)))))), ?_⟩
  have no : ¬ (1 ≤ z.length ∧ z.length ≤ 8) → Q (.bl false) H := fun h => by
    have e : isNameS z = false := by unfold isNameS; by_cases h1 : 1 ≤ z.length <;> by_cases h2 : z.length ≤ 8 <;> simp [h1, h2] <;> exact absurd ⟨h1, h2⟩ h
    have := q H Kp.refl
    rw [e] at this
    exact this
  walk_at "st"
  refine c_ite (fun h1 => ?_) (fun h1 => ?_)
  · walk_at "st"
    refine c_ite (fun h2 => ?_) (fun h2 => ?_)
    · walk_at "st"
      refine lcS_map (fun c => V.bl (decide (c ∈ (PySem.Str.ofString "abcdefghijklmnopqrstuvwxyz0123456789").cps.toList))) (fun _ => true) (by omega) (fun c H' R S hc e k1 k2 => ?_) (fun Dl H' hD e hacc => ?_)
      · walk_at "st"
        refine ⟨rfl, ?_⟩
        walk_at "st"
        exact k1 rfl _ Kp.refl
      · rw [fil_true, all_bl] at hacc
        refine c_allB (SqL.of hacc) ?_
        rw [all_id]
        have g := q H' e
        have e2 : isNameS z = z.cps.toList.all fun c => decide (c ∈ (PySem.Str.ofString "abcdefghijklmnopqrstuvwxyz0123456789").cps.toList) := by
          unfold isNameS
          rw [decide_eq_true (by omega), decide_eq_true (by omega), Bool.true_and, Bool.true_and]
        rw [e2] at g
        exact g
    · walk_at "st"
      exact no (by omega)
  · walk_at "st"
    exact no (by omega)
theorem D_is_name (T : TX K mg) : DefAt P w K mg base CX0 "is_name" 2 ["text"] (spStrB isNameS) :=
  def_of T 0 4 sc_is_name bn_is_name (spStrB_len _) (b_is_name T)
theorem sc_is_path : FnScope ["text", "names", "name"] ["text"] (defScope s_is_path) := ⟨rfl, rfl, rfl, by decide +kernel, rfl, by decide +kernel, by decide +kernel⟩
theorem bn_is_path : BindN "is_path" s_is_path ["text"] := fun _ _ _ _ _ _ us hl => match us, hl with | [_], _ => rfl
theorem b_is_path (T : TX K mg) : Body P w K mg base "is_path" s_is_path ["text", "names", "name"] 2 (spStrB isPathS) := by
  intro cdv A outer s H vs Q E h X hr
  obtain ⟨z, rfl, hz, q⟩ := h
  have D_is_name : DefAt P w K mg base CX0 "is_name" 2 ["text"] (spStrB isNameS) := D_is_name T
  refine ⟨_, (pss_cons (ps_set (i := 1) sc_is_path.nd rfl (Or.inl rfl) (pe_splitU (pv 0) pe_str)) (pss_one (ps_ret (pe_and (pe_cmpR op_leU (pe_callB (cr_len (K := K)) rfl (T.free 2) PySem.boot_len (pa_cons (pv 1) pa_nil)) (pe_gInt (T.int 5)) (nomark _)) (pe_one (pe_callB (cr_allU (K := K) rfl) rfl (T.free 0) (by decide +kernel) (pa_cons (pe_lc (own := [("name", 2)]) rfl sc_is_path.nd (pi_listU (K := K) (pv 1)) (blkOk_by (N := ["text", "names", "name"]) (sc := defScope s_is_path) (by decide +kernel)) (fun _ _ _ _ _ => (pg_name (i := 2) sc_is_path.nd rfl (Or.inl rfl))) (fun _ _ _ _ _ => pts_nil) (fun _ _ _ _ _ => (pe_callA D_is_name hr pass0 (pa_cons (pv 2) pa_nil)))) pa_nil))))))), ?_⟩
  walk_at "st"
  refine c_split (by decide) (by rw [sizeLine_eq]; omega) fun p H1 N => ?_
  have hs := split_small (z := z) (y := PySem.Str.ofString "/") hz (by decide)
  walk_at "st"
  refine c_ite (fun h1 => ?_) (fun h1 => ?_)
  · walk_at "st"
    rw [List.length_map] at h1
    refine lcL_map (fun y => V.bl (isNameS y)) (fun _ => true) (SqL.of N.at_) (by omega) (fun y H' R S hy e k1 k2 => ?_) (fun Dl H' hD e hacc => ?_)
    · walk_at "st"
      refine ⟨rfl, ?_⟩
      walk_at "st"
      have hl := split_part hy
      exact ⟨y, rfl, by omega, fun H4 e4 => k1 rfl _ e4⟩
    · rw [fil_true, all_bl] at hacc
      refine c_allB (SqL.of hacc) ?_
      rw [all_id]
      have g := q H' (N.kp.trans e)
      unfold isPathS at g
      rw [decide_eq_true (by omega), Bool.true_and] at g
      exact g
  · walk_at "st"
    rw [List.length_map] at h1
    have g := q H1 N.kp
    unfold isPathS at g
    rw [decide_eq_false (by omega), Bool.false_and] at g
    exact g
theorem D_is_path (T : TX K mg) : DefAt P w K mg base CX0 "is_path" 3 ["text"] (spStrB isPathS) :=
  def_of T 1 6 sc_is_path bn_is_path (spStrB_len _) (b_is_path T)
end
end K07



namespace K07
open PySem L2 Sa
section
variable {P : Program} {w : World} {K : PySem.W.Frag} {mg : Str → Option Value} {base : Heap}
theorem sc_OutOfRange___init__ : FnScope ["self", "name"] ["self", "name"] (defScope s_OutOfRange___init__) := ⟨rfl, rfl, rfl, by decide +kernel, rfl, by decide +kernel, by decide +kernel⟩
theorem bn_OutOfRange___init__ : BindM "__init__" "OutOfRange.__init__" s_OutOfRange___init__ ["self", "name"] := fun _ _ _ _ _ _ us hl => match us, hl with | [_, _], _ => rfl
theorem b_oor (T : TX K mg) : BodyM P w K mg base "OutOfRange" "__init__" "OutOfRange.__init__" s_OutOfRange___init__ ["self", "name"] 1 (spInit K (He.ga K "OutOfRange") "name") := by
  intro cdv A outer s H vs Q E h X hr
  obtain ⟨a, v, rfl, ha, q⟩ := h
  refine ⟨_, (pss_one (ps_ost (pv 0) (pv 1))), ?_⟩
  have hc := T.oex 2
  walk_at "st"
  refine c_ost ?_
  walk_at "st"
  refine ⟨a, He.ga K "OutOfRange", rfl, hc, He.noat_ok (T.fact 69), .inl ⟨ha, fun dx h1 h2 => ?_⟩⟩
  exact q dx h1 h2
theorem E_OutOfRange (T : TX K mg) : ErrC P w K mg base "OutOfRange" "name" :=
  ⟨T.glo 16, T.oex 2, T.xfc 3, He.noat_ok (T.fact 69), _,
    meth_of T 31 48 sc_OutOfRange___init__ bn_OutOfRange___init__ (fun vs H Q E h => by obtain ⟨b, d, rfl, _⟩ := h; rfl) (b_oor T)⟩
end
end K07



namespace K07
open PySem L2 Sa
structure Sane (fs : List File) : Prop where
  len : fs.length ≤ 500
  row : ∀ f ∈ fs, f.1.length ≤ 1000 ∧ f.2.length ≤ 500 ∧ ∀ y ∈ f.2, y.length ≤ 1000
def pathsOf (fs : List File) : List Str := fs.map Prod.fst
def goodRow (ps : List Str) (f : File) : Bool := isPathS f.1 && isLinesS f.2 && !(ps.any fun o => isInsideS f.1 o)
def goodF (fs : List File) : Bool := decide (fs.length ≤ 20) && !decide ((ded (pathsOf fs)).length < fs.length) && fs.all (goodRow (pathsOf fs))
section
variable {P : Program} {w : World} {K : PySem.W.Frag} {mg : Str → Option Value} {base : Heap}
end
end K07


namespace K07
open PySem L2 Sa
section
variable {P : Program} {w : World} {K : PySem.W.Frag} {mg : Str → Option Value} {base : Heap}
end
end K07



namespace K07
open PySem L2 Sa
section
variable {P : Program} {w : World} {K : PySem.W.Frag} {mg : Str → Option Value} {base : Heap}
end
end K07



namespace K07
open PySem L2 Sa
section
variable {P : Program} {w : World} {K : PySem.W.Frag} {mg : Str → Option Value} {base : Heap}
def isFolderF (fs : List File) (z : Str) : Bool := decide (z = PySem.Str.ofString "") || decide (0 < ((pathsOf fs).filter fun y => isInsideS y z).length)
end
end K07



namespace K07
open PySem L2 Sa
def withoutF (fs : List File) (p : Str) : List File := fs.filter fun f => !decide (f.1 = p)
def withF (fs : List File) (p : Str) (ls : List Str) : List File := withoutF fs p ++ [(p, ls)]
section
variable {P : Program} {w : World} {K : PySem.W.Frag} {mg : Str → Option Value} {base : Heap}
end
end K07



namespace K07
open PySem L2 Sa
inductive Action where
  | read (p : Str) | kind (z : Str) | list (z : Str) | find (z w : Str) | count (z : Str)
  | write (p : Str) (ls : List Str) | remove (p : Str) | move (p t : Str) | splice (p : Str) (old new : List Str)
def ActAt (K : PySem.W.Frag) (H : Hp) (a : Addr) : Action → Prop
  | .read p => SqT K H a [.str "read", .str p]
  | .kind z => SqT K H a [.str "kind", .str z]
  | .list z => SqT K H a [.str "list", .str z]
  | .find z w => SqT K H a [.str "find", .str z, .str w]
  | .count z => SqT K H a [.str "count", .str z]
  | .write p ls => ∃ l, SqT K H a [.str "write", .str p, .ref l] ∧ SqT K H l (ls.map V.str)
  | .remove p => SqT K H a [.str "remove", .str p]
  | .move p t => SqT K H a [.str "move", .str p, .str t]
  | .splice p old new => ∃ l m, SqT K H a [.str "splice", .str p, .ref l, .ref m] ∧ SqT K H l (old.map V.str) ∧ SqT K H m (new.map V.str)
theorem ActAt.kp {K : PySem.W.Frag} {H H' : Hp} {a : Addr} (e : Kp [] H H') : ∀ {x : Action}, ActAt K H a x → ActAt K H' a x
  | .read _, h => SqT.kp e h
  | .kind _, h => SqT.kp e h
  | .list _, h => SqT.kp e h
  | .find _ _, h => SqT.kp e h
  | .count _, h => SqT.kp e h
  | .write _ _, ⟨l, h1, h2⟩ => ⟨l, SqT.kp e h1, SqT.kp e h2⟩
  | .remove _, h => SqT.kp e h
  | .move _ _, h => SqT.kp e h
  | .splice _ _ _, ⟨l, m, h1, h2, h3⟩ => ⟨l, m, SqT.kp e h1, SqT.kp e h2, SqT.kp e h3⟩
def Action.bad : Action → Option Str
  | .read p => if isPathS p then none else some "path"
  | .kind z => if isPlaceS z then none else some "place"
  | .list z => if isPlaceS z then none else some "place"
  | .find z w => if isPlaceS z then (if isWordS w then none else some "word") else some "place"
  | .count z => if isPlaceS z then none else some "place"
  | .write p ls => if isPathS p then (if isLinesS ls then none else some "lines") else some "path"
  | .remove p => if isPathS p then none else some "path"
  | .move p t => if isPathS p then (if isPathS t then none else some "target") else some "path"
  | .splice p old new => if isPathS p then (if isLinesS old && decide (0 < old.length) then (if isLinesS new then none else some "new") else some "old") else some "path"
section
variable {P : Program} {w : World} {K : PySem.W.Frag} {mg : Str → Option Value} {base : Heap}
def RaisesE (K : PySem.W.Frag) (H : Hp) (E : XK) (nm : Str) : Prop := ∀ d H', Kp [] H H' → H' d = some (.xd [("name", .str nm)]) → E (.ref (He.ga K "OutOfRange")) (some d) H'
theorem RaisesE.kp {K : PySem.W.Frag} {H H1 : Hp} {E : XK} {nm : Str} (h : RaisesE K H E nm) (e : Kp [] H H1) : RaisesE K H1 E nm := fun d H' e' hd => h d H' (e.trans e') hd
end
end K07



namespace K07
open PySem L2 Sa
def Action.isQ : Action → Bool
  | .read _ | .kind _ | .list _ | .find _ _ | .count _ => true
  | _ => false
def insideF (fs : List File) (z : Str) : List Str := (pathsOf fs).filter fun y => isInsideS y z
def aboveF (fs : List File) (z : Str) : List Str := (pathsOf fs).filter fun y => isInsideS z y
def startN (z : Str) : Int := if decide (z = PySem.Str.ofString "") = true then 0 else (z.length : Int) + 1
def firstN (z p : Str) : Str := (Txt.partition (cutS p (some (startN z)) none) (PySem.Str.ofString "/")).1 ++ (Txt.partition (cutS p (some (startN z)) none) (PySem.Str.ofString "/")).2.1
def namesF (fs : List File) (z : Str) : List Str := sortS (ded ((insideF fs z).map (firstN z)))
def rowsD (p : Str) (ls : List Str) (w : Str) : List PyData := ((List.range ls.length).filter fun i => occS (ls.getD i Str.empty) w).map fun i => .tuple [.str p, .int (i : Nat)]
def foundPs (fs : List File) (z : Str) : List Str := sortS (insideF fs z ++ if (at? fs z).isSome then [z] else [])
def foundF (fs : List File) (z w : Str) : List PyData := (foundPs fs z).flatMap fun p => rowsD p ((at? fs p).getD []) w
def wordD (w : Str) : PyData := .tuple [.str w]
def askF (fs : List File) : Action → PyData
  | .read p => (match at? fs p with
    | none => wordD "none"
    | some ls => .tuple [.str "lines", strsD ls])
  | .kind z => if (at? fs z).isSome then wordD "file" else if isFolderF fs z then wordD "folder" else wordD "none"
  | .find z w => if (at? fs z).isSome || isFolderF fs z then .tuple [.str "found", .tuple (foundF fs z w)] else wordD "none"
  | .count z => if isFolderF fs z then .tuple [.str "many", .int ((insideF fs z).length : Nat)] else wordD "none"
  | .list z => if isFolderF fs z then .tuple [.str "names", strsD (namesF fs z)] else wordD "none"
  | _ => wordD "none"
theorem lenSum (xs : List Str) (n : Nat) (h : ∀ x ∈ xs, x.length ≤ n) : (xs.map (·.length)).sum ≤ n * xs.length := by
  induction xs with
  | nil => simp
  | cons x r ih =>
    have h1 := h x (List.mem_cons_self ..)
    have h2 := ih fun y hy => h y (List.mem_cons_of_mem _ hy)
    rw [List.map_cons, List.sum_cons, List.length_cons, Nat.mul_add, Nat.mul_one]
    omega
theorem path_len {p : Str} (h : isPathS p = true) : p.length ≤ 26 := by
  unfold isPathS at h
  rw [Bool.and_eq_true, decide_eq_true_eq, List.all_eq_true] at h
  have e := split_len p (PySem.Str.ofString "/")
  have s := lenSum (Txt.split p (PySem.Str.ofString "/")) 8 fun x hx => by
    have := h.2 x hx
    unfold isNameS at this
    simp only [Bool.and_eq_true, decide_eq_true_eq] at this
    exact this.1.2
  have e1 : (PySem.Str.ofString "/").length = 1 := by decide
  rw [e1] at e
  omega
theorem lines_len {ls : List Str} (h : isLinesS ls = true) : ls.length ≤ 12 ∧ ∀ y ∈ ls, y.length ≤ 20 ∧ isPlainS y = true := by
  unfold isLinesS at h
  simp only [Bool.and_eq_true, decide_eq_true_eq, List.all_eq_true] at h
  refine ⟨h.1, fun y hy => ?_⟩
  have := h.2 y hy
  unfold isLineS at this
  simp only [Bool.and_eq_true, decide_eq_true_eq] at this
  exact this
theorem at_mem {fs : List File} {p : Str} {ls : List Str} (h : at? fs p = some ls) : (p, ls) ∈ fs := by
  unfold at? at h
  obtain ⟨f, h1, h2⟩ := Option.map_eq_some_iff.mp h
  have e := List.find?_some h1
  have m := List.mem_of_find?_eq_some h1
  simp only [decide_eq_true_eq] at e
  subst e h2
  exact m
theorem plain_ok {z : Str} (h : isPlainS z = true) : okS z = true := okS_iff.mpr fun c hc => by
  have := List.all_eq_true.mp h c hc
  unfold plainC at this
  simp only [Bool.and_eq_true, decide_eq_true_eq] at this
  omega
structure TreeG (K : PySem.W.Frag) (H : Hp) (t : Addr) (fs : List File) : Prop where
  at_ : TreeAt K H t fs
  good : goodF fs = true
theorem TreeG.kp {K : PySem.W.Frag} {H H' : Hp} {t : Addr} {fs : List File} (h : TreeG K H t fs) (e : Kp [] H H') : TreeG K H' t fs := ⟨h.at_.kp e, h.good⟩
theorem TreeG.ins {K : PySem.W.Frag} {H : Hp} {t : Addr} {fs : List File} (h : TreeG K H t fs) : ∃ dx d, H t = some (.ins (He.ga K "Tree") dx [("_files", .ref d)]) := by
  obtain ⟨⟨dx, d, _, hx, _⟩, _⟩ := h
  exact ⟨dx, d, hx⟩
section
variable {P : Program} {w : World} {K : PySem.W.Frag} {mg : Str → Option Value} {base : Heap}
def placesF (xs ys : List Str) : List Nat := (List.range ((xs.length : Int) - ys.length + 1).toNat).filter fun i => decide (cutL xs (some ((i : Nat) : Int)) (some ((i : Nat) + (ys.length : Int))) = ys)
end
end K07



namespace K07
open PySem L2 Sa
section
variable {P : Program} {w : World} {K : PySem.W.Frag} {mg : Str → Option Value} {base : Heap}
end
end K07



namespace K07
open PySem L2 Sa
def blockedF (fs : List File) (p : Str) : Bool := decide (0 < (insideF fs p).length) || decide (0 < (aboveF fs p).length)
def splicedL (ls old new : List Str) (i : Nat) : List Str := ls.take i ++ new ++ ls.drop (i + old.length)
def deedF (fs : List File) : Action → PyData × List File
  | .write p ls => if blockedF fs p then (wordD "blocked", fs) else if (at? fs p).isNone && decide (fs.length = 20) then (wordD "full", fs) else (wordD "done", sortF (withF fs p ls))
  | .remove p => if (at? fs p).isNone then (wordD "missing", fs) else (wordD "done", sortF (withoutF fs p))
  | .move p t => (match at? fs p with
    | none => (wordD "missing", fs)
    | some ls => if (at? (sortF (withoutF fs p)) t).isSome || blockedF (sortF (withoutF fs p)) t then (wordD "blocked", fs) else (wordD "done", sortF (withF (sortF (withoutF fs p)) t ls)))
  | .splice p old new => (match at? fs p with
    | none => (wordD "missing", fs)
    | some ls => (match placesF ls old with
      | [] => (wordD "absent", fs)
      | [i] => if decide ((12 : Int) < (ls.length : Int) - old.length + new.length) then (wordD "long", fs) else (wordD "done", sortF (withF fs p (splicedL ls old new i)))
      | _ => (wordD "ambiguous", fs)))
  | _ => (wordD "none", fs)
def actF (fs : List File) (x : Action) : PyData × List File := if x.isQ then (askF fs x, fs) else deedF fs x
structure GoodP (fs : List File) : Prop where
  len : fs.length ≤ 20
  once : Once fs
  path : ∀ f ∈ fs, isPathS f.1 = true
  lines : ∀ f ∈ fs, isLinesS f.2 = true
  apart : ∀ f ∈ fs, ∀ g ∈ fs, isInsideS f.1 g.1 = false
theorem GoodP.perm {fs gs : List File} (h : GoodP fs) (p : fs.Perm gs) : GoodP gs :=
  ⟨by rw [← p.length_eq]; exact h.len, (p.map Prod.fst).nodup h.once, fun f hf => h.path f (p.symm.subset hf), fun f hf => h.lines f (p.symm.subset hf), fun f hf g hg => h.apart f (p.symm.subset hf) g (p.symm.subset hg)⟩
theorem GoodP.sort {fs : List File} (h : GoodP fs) : GoodP (sortF fs) := h.perm (sortF_perm fs).symm
theorem GoodP.without {fs : List File} (h : GoodP fs) (p : Str) : GoodP (withoutF fs p) := by
  have sub : ∀ f ∈ withoutF fs p, f ∈ fs := fun f hf => (List.mem_filter.mp hf).1
  exact ⟨Nat.le_trans (List.length_filter_le _ _) h.len, List.Nodup.sublist (List.Sublist.map _ List.filter_sublist) h.once, fun f hf => h.path f (sub f hf), fun f hf => h.lines f (sub f hf), fun f hf g hg => h.apart f (sub f hf) g (sub g hg)⟩
theorem starts_len {x y : Str} (h : Txt.startswith x y = true) : y.length ≤ x.length := by
  rw [← cut_starts, decide_eq_true_eq] at h
  have := cutS_len x none (some (y.length : Int))
  rw [h] at this
  exact this
theorem path_ne {p : Str} (h : isPathS p = true) : p ≠ PySem.Str.ofString "" := fun e => by
  rw [e] at h
  revert h
  decide +kernel
theorem self_out {p : Str} (h : isPathS p = true) : isInsideS p p = false := by
  unfold isInsideS
  rw [decide_eq_false (path_ne h), Bool.false_or]
  cases q : Txt.startswith p (p ++ PySem.Str.ofString "/") with
  | false => rfl
  | true =>
    have := starts_len q
    rw [str_app_len] at this
    have e1 : (PySem.Str.ofString "/").length = 1 := by decide
    omega
theorem nob {fs : List File} {p : Str} (h : blockedF fs p = false) : (∀ g ∈ fs, isInsideS g.1 p = false) ∧ ∀ g ∈ fs, isInsideS p g.1 = false := by
  unfold blockedF at h
  simp only [Bool.or_eq_false_iff, decide_eq_false_iff_not, Nat.not_lt, Nat.le_zero, List.length_eq_zero_iff] at h
  refine ⟨fun g hg => ?_, fun g hg => ?_⟩
  · have := List.filter_eq_nil_iff.mp h.1 g.1 (List.mem_map_of_mem hg)
    simpa using this
  · have := List.filter_eq_nil_iff.mp h.2 g.1 (List.mem_map_of_mem hg)
    simpa using this
theorem at_isSome {fs : List File} {p : Str} : (at? fs p).isSome = true ↔ p ∈ pathsOf fs := by
  unfold at? pathsOf
  rw [Option.isSome_map, List.find?_isSome, List.mem_map]
  constructor
  · rintro ⟨f, hf, e⟩; exact ⟨f, hf, by simpa using e⟩
  · rintro ⟨f, hf, e⟩; exact ⟨f, hf, by simpa using e⟩
theorem without_len {fs : List File} {p : Str} (h : p ∈ pathsOf fs) : (withoutF fs p).length < fs.length := by
  obtain ⟨f, hf, e⟩ := List.mem_map.mp h
  unfold withoutF
  refine List.length_filter_lt_length_iff_exists.mpr ⟨f, hf, ?_⟩
  simp [e]
theorem GoodP.withf {fs : List File} {p : Str} {ls : List Str} (h : GoodP fs) (hp : isPathS p = true) (hl : isLinesS ls = true) (nb : (∀ g ∈ fs, isInsideS g.1 p = false) ∧ ∀ g ∈ fs, isInsideS p g.1 = false)
    (hn : fs.length < 20 ∨ (at? fs p).isSome = true) : GoodP (withF fs p ls) := by
  have hw := h.without p
  have mem : ∀ f ∈ withF fs p ls, f ∈ withoutF fs p ∨ f = (p, ls) := fun f hf => by
    rcases List.mem_append.mp hf with hf | hf
    · exact .inl hf
    · exact .inr (List.mem_singleton.mp hf)
  have sub : ∀ f ∈ withoutF fs p, f ∈ fs := fun f hf => (List.mem_filter.mp hf).1
  refine ⟨?_, ?_, fun f hf => ?_, fun f hf => ?_, fun f hf g hg => ?_⟩
  · unfold withF
    rw [List.length_append, List.length_singleton]
    rcases hn with hn | hn
    · have := List.length_filter_le (fun f : File => !decide (f.1 = p)) fs
      unfold withoutF
      omega
    · have := without_len (at_isSome.mp hn)
      have := h.len
      omega
  · unfold withF Once
    rw [List.map_append, List.nodup_append]
    refine ⟨hw.once, by simp, fun a ha b hb => ?_⟩
    simp only [List.map_cons, List.map_nil, List.mem_singleton] at hb
    subst hb
    obtain ⟨f, hf, rfl⟩ := List.mem_map.mp ha
    have := (List.mem_filter.mp hf).2
    simpa using this
  · rcases mem f hf with hf | rfl
    · exact hw.path f hf
    · exact hp
  · rcases mem f hf with hf | rfl
    · exact hw.lines f hf
    · exact hl
  · rcases mem f hf with hf | rfl <;> rcases mem g hg with hg | rfl
    · exact hw.apart f hf g hg
    · exact nb.1 f (sub f hf)
    · exact nb.2 g (sub g hg)
    · exact self_out hp
theorem own_nob {fs : List File} {p : Str} (h : GoodP fs) (hp : p ∈ pathsOf fs) : (∀ g ∈ fs, isInsideS g.1 p = false) ∧ ∀ g ∈ fs, isInsideS p g.1 = false := by
  obtain ⟨f, hf, rfl⟩ := List.mem_map.mp hp
  exact ⟨fun g hg => h.apart g hg f hf, fun g hg => h.apart f hf g hg⟩
theorem places_lt {xs ys : List Str} {i : Nat} (h : i ∈ placesF xs ys) : i + ys.length ≤ xs.length := by
  have := List.mem_range.mp (List.mem_filter.mp h).1
  omega
theorem lines_splice {ls old new : List Str} {i : Nat} (h1 : isLinesS ls = true) (h2 : isLinesS new = true) (hi : i + old.length ≤ ls.length) (hn : ¬ (12 : Int) < (ls.length : Int) - old.length + new.length) : isLinesS (splicedL ls old new i) = true := by
  unfold isLinesS at h1 h2 ⊢
  simp only [Bool.and_eq_true, decide_eq_true_eq, List.all_eq_true] at h1 h2 ⊢
  unfold splicedL
  refine ⟨?_, fun y hy => ?_⟩
  · rw [List.length_append, List.length_append, List.length_take, List.length_drop]
    omega
  · rcases List.mem_append.mp hy with hy | hy
    · rcases List.mem_append.mp hy with hy | hy
      · exact h1.2 y (List.mem_of_mem_take hy)
      · exact h2.2 y hy
    · exact h1.2 y (List.mem_of_mem_drop hy)
theorem GoodP.act {fs : List File} {x : Action} (h : GoodP fs) (hb : x.bad = none) : GoodP (actF fs x).2 := by
  unfold actF
  cases x with
  | write p ls =>
    simp only [Action.isQ, Bool.false_eq_true, if_false, deedF]
    simp only [Action.bad] at hb
    split at hb
    · rename_i hp
      split at hb
      · rename_i hl
        split
        · exact h
        · rename_i hbl
          split
          · exact h
          · rename_i hf
            refine (h.withf hp hl (nob (by simpa using hbl)) ?_).sort
            simp only [Bool.and_eq_true, decide_eq_true_eq, not_and] at hf
            cases q : at? fs p with
            | some _ => exact .inr rfl
            | none =>
              have := hf (by rw [q]; rfl)
              have := h.len
              exact .inl (by omega)
      · cases hb
    · cases hb
  | remove p =>
    simp only [Action.isQ, Bool.false_eq_true, if_false, deedF]
    split
    · exact h
    · exact (h.without p).sort
  | move p t =>
    simp only [Action.isQ, Bool.false_eq_true, if_false, deedF]
    simp only [Action.bad] at hb
    split at hb
    · rename_i hp
      split at hb
      · rename_i ht
        cases q : at? fs p with
        | none => exact h
        | some ls =>
          simp only
          split
          · exact h
          · rename_i hf
            simp only [Bool.or_eq_true, not_or, Bool.not_eq_true] at hf
            have hw := (h.without p).sort
            have hm := at_mem q
            refine (hw.withf ht (h.lines _ hm) (nob hf.2) (.inl ?_)).sort
            rw [sortF_len]
            have := without_len (List.mem_map_of_mem (f := Prod.fst) hm)
            have := h.len
            simp only at *
            omega
      · cases hb
    · cases hb
  | splice p old new =>
    simp only [Action.isQ, Bool.false_eq_true, if_false, deedF]
    simp only [Action.bad] at hb
    split at hb
    · rename_i hp
      split at hb
      · split at hb
        · rename_i hnew
          cases q : at? fs p with
          | none => exact h
          | some ls =>
            simp only
            have hm := at_mem q
            have hpm : p ∈ pathsOf fs := List.mem_map_of_mem (f := Prod.fst) hm
            split
            · exact h
            · rename_i i hpl
              split
              · exact h
              · rename_i hlong
                have hi := places_lt (xs := ls) (ys := old) (i := i) (by rw [hpl]; exact List.mem_singleton.mpr rfl)
                exact (h.withf hp (lines_splice (h.lines _ hm) hnew hi (by simpa using hlong)) (own_nob h hpm) (.inr (by rw [q]; rfl))).sort
            · exact h
        · cases hb
      · cases hb
    · cases hb
  | _ => exact h
end K07



namespace K07
open PySem L2 Sa
def RetA (K : PySem.W.Frag) (H : Hp) (Q : VK) (r : PyData × List File) : Prop := ∀ p v t' H', Kp [] H H' → SqT K H' p [v, .ref t'] → Dt K H' v r.1 → TreeG K H' t' r.2 → Q (.ref p) H'
theorem RetA.kp {K : PySem.W.Frag} {H H1 : Hp} {Q : VK} {r : PyData × List File} (h : RetA K H Q r) (e : Kp [] H H1) : RetA K H1 Q r := fun p v t' H' e' h1 h2 h3 => h p v t' H' (e.trans e') h1 h2 h3
section
variable {P : Program} {w : World} {K : PySem.W.Frag} {mg : Str → Option Value} {base : Heap}
end
end K07



namespace K07
open PySem L2 Sa
def pathNames : List Str := ["a", "b", "ab", "x1"]
def lineTexts : List Str := ["x", "y", "x y", "", "todo", "yx", "note the x", "12345678901234567890"]
structure Pth (z : Str) : Prop where
  ex : ∃ ns : List Str, z = Txt.join (PySem.Str.ofString "/") ns ∧ 1 ≤ ns.length ∧ ns.length ≤ 3 ∧ ∀ n ∈ ns, n ∈ pathNames
theorem pathNames_len : ∀ n ∈ pathNames, n.length ≤ 2 := by decide +kernel
theorem sum_le {m : Nat} : ∀ {ns : List Str}, (∀ n ∈ ns, n.length ≤ m) → (ns.map (·.length)).sum ≤ ns.length * m
  | [], _ => Nat.zero_le _
  | n :: r, h => by
    have h1 := h n (List.mem_cons_self ..)
    have h2 := sum_le (ns := r) fun z hz => h z (List.mem_cons_of_mem _ hz)
    simp only [List.map_cons, List.sum_cons, List.length_cons, Nat.add_mul, Nat.one_mul]
    omega
theorem Pth.len {z : Str} (h : Pth z) : z.length ≤ 8 := by
  obtain ⟨ns, rfl, h1, h2, h3⟩ := h.ex
  rw [tjoin, ← join_len]
  have e1 := sum_le (m := 2) fun n hn => pathNames_len n (h3 n hn)
  have e2 : (PySem.Str.ofString "/").length = 1 := by decide
  rw [e2]
  omega
theorem pathNames_pos : ∀ n ∈ pathNames, 1 ≤ n.length := by decide +kernel
theorem Pth.pos {z : Str} (h : Pth z) : 1 ≤ z.length := by
  obtain ⟨ns, rfl, h1, h2, h3⟩ := h.ex
  rw [tjoin, ← join_len]
  cases ns with
  | nil => simp at h1
  | cons n r =>
    have := pathNames_pos n (h3 n (List.mem_cons_self ..))
    simp only [List.map_cons, List.sum_cons]
    omega
section
variable {P : Program} {w : World} {K : PySem.W.Frag} {mg : Str → Option Value} {base : Heap}
theorem sc__law_path : FnScope ["_law_box", "_law_depth", "_law_k"] ["_law_box"] (defScope s__law_path) := ⟨rfl, rfl, rfl, by decide +kernel, rfl, by decide +kernel, by decide +kernel⟩
theorem bn__law_path : BindN "_law_path" s__law_path ["_law_box"] := fun _ _ _ _ _ _ us hl => match us, hl with | [_], _ => rfl
def spPath : Sp := fun vs H Q _ => ∃ (b d : Addr), vs = [.ref b] ∧ Bx H b d ∧ ∀ z H', Pth z → Kp [b] H H' → Bx H' b d → Q (.str z) H'
theorem b__law_path (T : TX K mg) : Body P w K mg base "_law_path" s__law_path ["_law_box", "_law_depth", "_law_k"] 2 spPath := by
  intro cdv A outer s H vs Q E h X hr
  obtain ⟨b, d, rfl, B, q⟩ := h
  have D__law_draw : DefAt P w K mg base CX0 "_law_draw" 2 ["_law_box", "_law_many_here"] spDraw := D__law_draw T
  refine ⟨_, (pss_cons (ps_set (i := 1) sc__law_path.nd rfl (Or.inl rfl) (pe_ix (ix_U (K := K)) (pe_lst (pa_cons pe_int (pa_cons pe_int (pa_cons pe_int (pa_cons pe_int pa_nil))))) (pe_callA D__law_draw hr pass0 (pa_cons (pv 0) (pa_cons pe_int pa_nil))) (fun _ _ => rfl))) (pss_one (ps_ret (pe_joinU (K := K) pe_str (pe_lc (own := [("_law_k", 2)]) rfl sc__law_path.nd (pi_range1 rfl (T.free 19) (pa_cons (pv 1) pa_nil)) (blkOk_by (N := ["_law_box", "_law_depth", "_law_k"]) (sc := defScope s__law_path) (by decide +kernel)) (fun _ _ _ _ _ => (pg_name (i := 2) sc__law_path.nd rfl (Or.inl rfl))) (fun _ _ _ _ _ => pts_nil) (fun _ _ _ _ _ => (pe_ix (ix_U (K := K)) (pe_lst (pa_cons pe_str (pa_cons pe_str (pa_cons pe_str (pa_cons pe_str pa_nil))))) (pe_callA D__law_draw hr pass0 (pa_cons (pv 0) (pa_cons pe_int pa_nil))) (fun _ _ => rfl)))))))), ?_⟩
  walk_at "st"
  walk_at "nw"
  intro p H1 N
  walk_at "st"
  refine ⟨b, d, 4, rfl, B.nw N, by decide, fun i H2 h0 h1 e2 B2 => ?_⟩
  refine c_pickM (u := V.int) [1, 2, 2, 3] (B.pick N e2) h0 h1 fun dp hdp => ?_
  have hdp : 1 ≤ dp ∧ dp ≤ 3 := by
    simp only [List.mem_cons, List.not_mem_nil, or_false] at hdp
    omega
  walk_at "st"
  refine lcR_draw V.str (fun z => z ∈ pathNames) B2 (by omega) (fun i H' R S hi e B3 k => ?_) (fun Dl H' ns hD hlen hP e B3 hacc => ?_)
  · walk_at "st"
    refine ⟨rfl, ?_⟩
    walk_at "st"
    walk_at "nw"
    intro p2 H4 N4
    walk_at "st"
    refine ⟨b, d, 4, rfl, B3.nw N4, by decide, fun j H5 g0 g1 e5 B5 => ?_⟩
    exact c_pickM (u := V.str) pathNames (B3.pick N4 e5) g0 g1 fun z hz => k z H5 hz (N4.kp.trans e5) B5
  · have hp : Pth (Txt.join (PySem.Str.ofString "/") ns) := ⟨ns, rfl, by omega, by omega, hP⟩
    refine c_join (ys := ns) (SqL.of hacc) ?_ (q _ _ hp ((N.kp.trans e2).trans e) B3)
    have e1 := sum_le (m := 2) fun n hn => pathNames_len n (hP n hn)
    have e2 : (PySem.Str.ofString "/").length = 1 := by decide
    rw [e2]
    omega
theorem D__law_path (T : TX K mg) : DefAt P w K mg base CX0 "_law_path" 3 ["_law_box"] spPath :=
  def_of T 9 23 sc__law_path bn__law_path (fun vs H Q E h => by obtain ⟨b, d, rfl, _⟩ := h; rfl) (b__law_path T)
theorem sc__law_line : FnScope ["_law_box"] ["_law_box"] (defScope s__law_line) := ⟨rfl, rfl, rfl, by decide +kernel, rfl, by decide +kernel, by decide +kernel⟩
theorem bn__law_line : BindN "_law_line" s__law_line ["_law_box"] := fun _ _ _ _ _ _ us hl => match us, hl with | [_], _ => rfl
def spLine : Sp := fun vs H Q _ => ∃ (b d : Addr), vs = [.ref b] ∧ Bx H b d ∧ ∀ z H', z ∈ lineTexts → Kp [b] H H' → Bx H' b d → Q (.str z) H'
theorem b__law_line (T : TX K mg) : Body P w K mg base "_law_line" s__law_line ["_law_box"] 2 spLine := by
  intro cdv A outer s H vs Q E h X hr
  obtain ⟨b, d, rfl, B, q⟩ := h
  have D__law_draw : DefAt P w K mg base CX0 "_law_draw" 2 ["_law_box", "_law_many_here"] spDraw := D__law_draw T
  refine ⟨_, (pss_one (ps_ret (pe_ix (ix_U (K := K)) (pe_lst (pa_cons pe_str (pa_cons pe_str (pa_cons pe_str (pa_cons pe_str (pa_cons pe_str (pa_cons pe_str (pa_cons pe_str (pa_cons pe_str pa_nil))))))))) (pe_callA D__law_draw hr pass0 (pa_cons (pv 0) (pa_cons pe_int pa_nil))) (fun _ _ => rfl)))), ?_⟩
  walk_at "st"
  walk_at "nw"
  intro p H1 N
  walk_at "st"
  refine ⟨b, d, 8, rfl, B.nw N, by decide, fun i H2 h0 h1 e2 B2 => ?_⟩
  exact c_pickM (u := V.str) lineTexts (B.pick N e2) h0 h1 fun z hz => q z H2 hz (N.kp.trans e2) B2
theorem D__law_line (T : TX K mg) : DefAt P w K mg base CX0 "_law_line" 3 ["_law_box"] spLine :=
  def_of T 10 24 sc__law_line bn__law_line (fun vs H Q E h => by obtain ⟨b, d, rfl, _⟩ := h; rfl) (b__law_line T)
end
end K07



namespace K07
open PySem L2 Sa
def filesKv (ls : List (Addr × File)) : List (Key × V) := ls.map fun l => ((Sum.inr l.2.1 : Key), V.ref l.1)
structure FilesR (K : PySem.W.Frag) (H : Hp) (d : Addr) (fs : List File) : Prop where
  ex : ∃ ls : List (Addr × File), Rd H d (.dK (filesKv ls)) ∧ (∀ l ∈ ls, SqT K H l.1 (l.2.2.map V.str)) ∧ ls.map Prod.snd = fs
structure FilesAt (K : PySem.W.Frag) (H : Hp) (d : Addr) (fs : List File) : Prop where
  ex : ∃ ls : List (Addr × File), H d = some (.dK (filesKv ls)) ∧ (∀ l ∈ ls, SqT K H l.1 (l.2.2.map V.str)) ∧ ls.map Prod.snd = fs
section
variable {K : PySem.W.Frag} {H H' : Hp} {d b e : Addr} {fs : List File} {p : Str}
theorem FilesAt.r (h : FilesAt K H d fs) : FilesR K H d fs := by
  obtain ⟨ls, h1, h2, h3⟩ := h.ex
  exact ⟨ls, .inl h1, h2, h3⟩
theorem FilesAt.kp (h : FilesAt K H d fs) (e : Kp [] H H') : FilesAt K H' d fs := by
  obtain ⟨ls, h1, h2, h3⟩ := h.ex
  exact ⟨ls, e.at0 h1, fun l hl => SqT.kp e (h2 l hl), h3⟩
theorem FilesAt.ne (h : FilesAt K H d fs) (B : Bx H b e) : d ≠ b := fun z => by
  obtain ⟨ls, h1, _⟩ := h.ex
  obtain ⟨_, _, h2, _⟩ := B.ex
  rw [z, h2] at h1
  cases h1
theorem FilesAt.kb (h : FilesAt K H d fs) (B : Bx H b e) (k : Kp [b] H H') : FilesAt K H' d fs := by
  have n := h.ne B
  obtain ⟨ls, h1, h2, h3⟩ := h.ex
  exact ⟨ls, k.at1 n h1, fun l hl => SqT.kt (B.kt k) (h2 l hl), h3⟩
theorem find_at (ls : List (Addr × File)) (p : Str) : at? (ls.map Prod.snd) p = (ls.find? fun l => decide (l.2.1 = p)).map fun l => l.2.2 := by
  unfold at?
  rw [List.find?_map, Option.map_map]
  rfl
theorem filesKv_val (ls : List (Addr × File)) (p : Str) : valV (filesKv ls) (Sum.inr p) = (ls.find? fun l => decide (l.2.1 = p)).map fun l => V.ref l.1 := by
  unfold valV filesKv
  rw [List.find?_map, Option.map_map]
  congr 1
  congr 1
  funext l
  simp
theorem FilesR.get (h : FilesR K H d fs) {ls : List Str} (g : at? fs p = some ls) : ∃ a, DGet H d (.str p) (some (.ref a)) ∧ SqT K H a (ls.map V.str) := by
  obtain ⟨rs, h1, h2, rfl⟩ := h.ex
  rw [find_at] at g
  obtain ⟨l, hl, rfl⟩ := Option.map_eq_some_iff.mp g
  exact ⟨l.1, .inl ⟨_, Sum.inr p, h1, rfl, by rw [filesKv_val, hl]; rfl⟩, h2 l (List.mem_of_find?_eq_some hl)⟩
theorem FilesR.dget (h : FilesR K H d fs) (p : Str) : ∃ o, DGet H d (.str p) o ∧ o.isSome = (at? fs p).isSome := by
  obtain ⟨rs, h1, h2, rfl⟩ := h.ex
  refine ⟨_, .inl ⟨_, Sum.inr p, h1, rfl, rfl⟩, ?_⟩
  rw [filesKv_val, find_at, Option.isSome_map, Option.isSome_map]
theorem FilesAt.nil {K : PySem.W.Frag} (h : H d = some (.dK [])) : FilesAt K H d [] := ⟨[], h, by simp, rfl⟩
end
theorem c_dinF {K : PySem.W.Frag} {H : Hp} {d : Addr} {fs : List File} {p : Str} {Q : VK} (h : FilesR K H d fs) (q : Q (.bl (at? fs p).isSome) H) : DinK false (.ref d) (.str p) H Q := by
  obtain ⟨o, h1, h2⟩ := h.dget p
  refine ⟨d, o, rfl, h1, ?_⟩
  show Q (.bl o.isSome) H
  rw [h2]; exact q
theorem c_dgetF {K : PySem.W.Frag} {H : Hp} {d : Addr} {fs : List File} {p : Str} {ls : List Str} {Q : VK} (h : FilesR K H d fs) (g : at? fs p = some ls) (q : ∀ a, SqT K H a (ls.map V.str) → Q (.ref a) H) : ∃ a v, V.ref d = .ref a ∧ DGet H a (.str p) (some v) ∧ Q v H := by
  obtain ⟨a, h1, h2⟩ := h.get g
  exact ⟨d, .ref a, rfl, h1, q a h2⟩
theorem c_sortedF {K : PySem.W.Frag} {H : Hp} {d : Addr} {fs : List File} {Q : VK} (h : FilesR K H d fs) (hn : fs.length ≤ 60) (q : ∀ p H', New H p (.lst ((pathsOf (sortF fs)).map V.str)) H' → Q (.ref p) H') : rSortedDU [.ref d] H Q := by
  obtain ⟨ls, h1, h2, rfl⟩ := h.ex
  refine ⟨d, _, pathsOf (ls.map Prod.snd), rfl, h1, ?_, by unfold pathsOf; rw [List.length_map]; omega, fun ys p hp hs hf => ?_⟩
  · unfold filesKv pathsOf
    rw [List.map_map, List.map_map, List.map_map]
    rfl
  · rw [sorted_keys hp hs]
    exact q p _ ⟨hf, rfl⟩
theorem name_no {z : Str} (h : isNameS z = true) : 47 ∉ z.cps.toList := fun hm => by
  unfold isNameS at h
  simp only [Bool.and_eq_true, List.all_eq_true] at h
  have := h.2 47 hm
  revert this
  decide +kernel
theorem name_ok {z : Str} (h : isNameS z = true) : okS z = true := okS_iff.mpr fun c hc => by
  unfold isNameS at h
  simp only [Bool.and_eq_true, List.all_eq_true, decide_eq_true_eq] at h
  have := h.2 c hc
  exact (by decide +kernel : ∀ c ∈ (PySem.Str.ofString "abcdefghijklmnopqrstuvwxyz0123456789").cps.toList, c < 1114112) c this
theorem slash1 : (PySem.Str.ofString "/").cps.toList = [47] := by decide +kernel
theorem slash2 : PySem.Str.ofString "/" = ⟨#[47]⟩ := by decide +kernel
theorem split_join1 {ns : List Str} (h0 : ns ≠ []) (hn : ∀ n ∈ ns, 47 ∉ n.cps.toList) : Txt.split (Txt.join (PySem.Str.ofString "/") ns) (PySem.Str.ofString "/") = ns :=
  TL.split_join (y := PySem.Str.ofString "/") (s := 47) (S := []) slash1 (by rw [slash2]; decide +kernel) h0 hn
theorem path_join {ns : List Str} (h0 : ns ≠ []) (h3 : ns.length ≤ 3) (hn : ∀ n ∈ ns, isNameS n = true) : isPathS (Txt.join (PySem.Str.ofString "/") ns) = true := by
  unfold isPathS
  rw [split_join1 h0 fun n h => name_no (hn n h), decide_eq_true h3, Bool.true_and, List.all_eq_true]
  exact hn
theorem split_ne {p : Str} (h : isPathS p = true) : Txt.split p (PySem.Str.ofString "/") ≠ [] := by
  rcases join_ne_nil (z := p) (y := PySem.Str.ofString "/") with h1 | h1
  · exact h1
  · exact absurd h1 (path_ne h)
theorem path_parts {p : Str} (h : isPathS p = true) : (Txt.split p (PySem.Str.ofString "/")).length ≤ 3 ∧ ∀ n ∈ Txt.split p (PySem.Str.ofString "/"), isNameS n = true := by
  unfold isPathS at h
  rw [Bool.and_eq_true, decide_eq_true_eq, List.all_eq_true] at h
  exact h
theorem name_path {n : Str} (h : isNameS n = true) : isPathS n = true := by
  have := path_join (ns := [n]) (by simp) (by simp) (by simpa using h)
  rw [tjoin] at this
  exact this
theorem mem_join {y : Str} {c : Nat} : ∀ {ys : List Str}, c ∈ (Str.join y ys).cps.toList → c ∈ y.cps.toList ∨ ∃ z ∈ ys, c ∈ z.cps.toList
  | [], h => by cases h
  | [x], h => .inr ⟨x, List.mem_singleton.mpr rfl, h⟩
  | x :: u :: r, h => by
    have h : c ∈ (x ++ y ++ Str.join y (u :: r)).cps.toList := h
    rw [cps_app, cps_app, List.mem_append, List.mem_append] at h
    rcases h with (h | h) | h
    · exact .inr ⟨x, List.mem_cons_self .., h⟩
    · exact .inl h
    · rcases mem_join h with h | ⟨z, hz, h⟩
      · exact .inl h
      · exact .inr ⟨z, List.mem_cons_of_mem _ hz, h⟩
theorem path_ok {p : Str} (h : isPathS p = true) : okS p = true := okS_iff.mpr fun c hc => by
  have j := StrLaws.join_split p (PySem.Str.ofString "/")
  rw [← j] at hc
  rcases mem_join hc with hc | ⟨z, hz, hc⟩
  · rw [slash1, List.mem_singleton] at hc
    omega
  · exact okS_iff.mp (name_ok ((path_parts h).2 z hz)) c hc
theorem Pth.path {z : Str} (h : Pth z) : isPathS z = true := by
  obtain ⟨ns, rfl, h1, h2, h3⟩ := h.ex
  exact path_join (by intro e; rw [e] at h1; simp at h1) h2 fun n hn => (by decide +kernel : ∀ n ∈ pathNames, isNameS n = true) n (h3 n hn)
theorem lineTexts_line : ∀ z ∈ lineTexts, isLineS z = true := by decide +kernel
section
variable {P : Program} {w : World} {K : PySem.W.Frag} {mg : Str → Option Value} {base : Heap}
def spLinesD (K : PySem.W.Frag) : Sp := fun vs H Q _ => ∃ (b d : Addr) (m : Int), vs = [.ref b, .int m] ∧ Bx H b d ∧ 0 ≤ m ∧ m ≤ 12 ∧ ∀ p ls H', isLinesS ls = true → (ls.length : Int) ≤ m → Kp [b] H H' → Bx H' b d → SqT K H' p (ls.map V.str) → Q (.ref p) H'
theorem sc__law_lines : FnScope ["_law_box", "_law_most", "_law_k"] ["_law_box", "_law_most"] (defScope s__law_lines) := ⟨rfl, rfl, rfl, by decide +kernel, rfl, by decide +kernel, by decide +kernel⟩
theorem bn__law_lines : BindN "_law_lines" s__law_lines ["_law_box", "_law_most"] := fun _ _ _ _ _ _ us hl => match us, hl with | [_, _], _ => rfl
theorem b__law_lines (T : TX K mg) : Body P w K mg base "_law_lines" s__law_lines ["_law_box", "_law_most", "_law_k"] 3 (spLinesD K) := by
  intro cdv A outer s H vs Q E h X hr
  obtain ⟨b, d, m, rfl, B, m0, m1, q⟩ := h
  have D__law_draw := D__law_draw (P := P) (w := w) (base := base) T; have D__law_line := D__law_line (P := P) (w := w) (base := base) T
  refine ⟨_, (pss_one (ps_ret (pe_callTy (cr_tuple (K := K)) rfl (T.free 13) (by decide +kernel) (pa_cons (pe_lc (own := [("_law_k", 2)]) rfl sc__law_lines.nd (pi_range1 rfl (T.free 19) (pa_cons (pe_callA D__law_draw hr pass0 (pa_cons (pv 0) (pa_cons (pe_op (op_addU (K := K)) (pv 1) pe_int) pa_nil))) pa_nil)) (blkOk_by (N := ["_law_box", "_law_most", "_law_k"]) (sc := defScope s__law_lines) (by decide +kernel)) (fun _ _ _ _ _ => (pg_name (i := 2) sc__law_lines.nd rfl (Or.inl rfl))) (fun _ _ _ _ _ => pts_nil) (fun _ _ _ _ _ => (pe_callA D__law_line hr pass0 (pa_cons (pv 0) pa_nil)))) pa_nil)))), ?_⟩
  walk_at "st"
  refine ⟨b, d, m + 1, rfl, B, by omega, fun i H1 h0 h1 e1 B1 => ?_⟩
  walk_at "st"
  refine lcR_draw V.str (fun z => z ∈ lineTexts) B1 (by omega) (fun i H' R S hi e B3 k => ?_) (fun Dl H' ns hD hlen hP e B3 hacc => ?_)
  · walk_at "st"
    refine ⟨rfl, ?_⟩
    walk_at "st"
    exact ⟨b, d, rfl, B3, fun z H4 hz e4 B4 => k z H4 hz e4 B4⟩
  · refine c_tupleL (SqL.of hacc) fun p H2 N => ?_
    refine q p ns H2 ?_ (by omega) ((e1.trans e).trans N.kp) (B3.nw N) (SqT.of N.at_)
    unfold isLinesS
    rw [decide_eq_true (by omega), Bool.true_and, List.all_eq_true]
    exact fun z hz => lineTexts_line z (hP z hz)
theorem D__law_lines (T : TX K mg) : DefAt P w K mg base CX0 "_law_lines" 4 ["_law_box", "_law_most"] (spLinesD K) :=
  def_of T 11 25 sc__law_lines bn__law_lines (by walk_at "len") (b__law_lines T)
def spSome (K : PySem.W.Frag) : Sp := fun vs H Q _ => ∃ (b d f : Addr) (fs : List File), vs = [.ref b, .ref f] ∧ Bx H b d ∧ FilesAt K H f fs ∧ GoodP fs ∧ ∀ z H', isPathS z = true → Kp [b] H H' → Bx H' b d → Q (.str z) H'
theorem sc__law_some_path : FnScope ["_law_box", "_law_files_here", "_law_paths"] ["_law_box", "_law_files_here"] (defScope s__law_some_path) := ⟨rfl, rfl, rfl, by decide +kernel, rfl, by decide +kernel, by decide +kernel⟩
theorem bn__law_some_path : BindN "_law_some_path" s__law_some_path ["_law_box", "_law_files_here"] := fun _ _ _ _ _ _ us hl => match us, hl with | [_, _], _ => rfl
theorem b__law_some_path (T : TX K mg) : Body P w K mg base "_law_some_path" s__law_some_path ["_law_box", "_law_files_here", "_law_paths"] 3 (spSome K) := by
  intro cdv A outer s H vs Q E h X hr
  obtain ⟨b, d, f, fs, rfl, B, F, G, q⟩ := h
  have D__law_draw := D__law_draw (P := P) (w := w) (base := base) T; have D__law_path := D__law_path (P := P) (w := w) (base := base) T
  refine ⟨_, (pss_cons (ps_set (i := 2) sc__law_some_path.nd rfl (Or.inl rfl) (pe_callB (cr_sortedDU rfl) rfl (T.free 29) (by decide +kernel) (pa_cons (pv 1) pa_nil))) (pss_cons (ps_if (PW.pt (pw_and (pt_cmpR (op_neU (K := K) hr.units) (pv 2) (pe_lst pa_nil) (nomark _)) (pw_and1 (pt_cmpR op_gtU (pe_callA D__law_draw hr pass0 (pa_cons (pv 0) (pa_cons pe_int pa_nil))) pe_int (nomark _))))) (pss_one (ps_ret (pe_ix (ix_U (K := K)) (pv 2) (pe_callA D__law_draw hr pass0 (pa_cons (pv 0) (pa_cons (pe_callB (cr_len (K := K)) rfl (T.free 2) PySem.boot_len (pa_cons (pv 2) pa_nil)) pa_nil))) (fun _ _ => rfl)))) pss_nil) (pss_one (ps_ret (pe_callA D__law_path hr pass0 (pa_cons (pv 0) pa_nil)))))), ?_⟩
  have gl := G.len
  walk_at "st"
  refine c_sortedF F.r (by omega) fun p H1 N1 => ?_
  walk_at "st"
  walk_at "nw"
  intro p2 H2 N2
  walk_at "st"
  have k2 : Kp [b] H H2 := N1.kp.trans N2.kp
  have B2 := (B.nw N1).nw N2
  have hps : ∀ y ∈ pathsOf (sortF fs), isPathS y = true := fun y hy => by
    obtain ⟨r, hr, rfl⟩ := List.mem_map.mp hy
    exact G.sort.path r hr
  have h1 : SqL K H2 p ((pathsOf (sortF fs)).map V.str) := SqL.of (N2.keep N1.at_)
  refine c_neLS (zs := []) h1 (SqL.of N2.at_) (fun y hy => path_ok (hps y hy)) (by simp) ?_
  walk_at "st"
  have alt : ∀ H3, Kp [b] H H3 → Bx H3 b d → spPath [.ref b] H3 Q E0 := fun H3 e3 B3 => ⟨b, d, rfl, B3, fun z H4 hz e4 B4 => q z H4 hz.path (e3.trans e4) B4⟩
  refine c_iteN (fun g => ?_) (fun g => ?_)
  · walk_at "st"
    refine ⟨b, d, 4, rfl, B2, by decide, fun i H3 h0 h1' e3 B3 => ?_⟩
    walk_at "st"
    have nb : p ≠ b := ((B.ne_new N1.fr).1)
    have h3 : SqL K H3 p ((pathsOf (sortF fs)).map V.str) := SqL.kp1 e3 nb h1
    refine c_ite (fun g1 => ?_) (fun g1 => ?_)
    · walk_at "st"
      have hpos : 0 < (pathsOf (sortF fs)).length := List.length_pos_iff.mpr g
      refine ⟨b, d, _, rfl, B3, by rw [List.length_map]; omega, fun j H4 j0 j1 e4 B4 => ?_⟩
      rw [List.length_map] at j1
      refine c_pickM (pathsOf (sortF fs)) (SqL.kp1 e4 nb h3) j0 j1 fun y hy => ?_
      exact q y H4 (hps y hy) ((k2.trans e3).trans e4) B4
    · walk_at "st"
      exact alt H3 (k2.trans e3) B3
  · walk_at "st"
    exact alt H2 k2 B2
theorem D__law_some_path (T : TX K mg) : DefAt P w K mg base CX0 "_law_some_path" 4 ["_law_box", "_law_files_here"] (spSome K) :=
  def_of T 15 30 sc__law_some_path bn__law_some_path (by walk_at "len") (b__law_some_path T)
def spPlace (K : PySem.W.Frag) : Sp := fun vs H Q _ => ∃ (b d f : Addr) (fs : List File), vs = [.ref b, .ref f] ∧ Bx H b d ∧ FilesAt K H f fs ∧ GoodP fs ∧ ∀ z H', isPlaceS z = true → Kp [b] H H' → Bx H' b d → Q (.str z) H'
theorem sc__law_place : FnScope ["_law_box", "_law_files_here", "_law_path_here", "_law_parts"] ["_law_box", "_law_files_here"] (defScope s__law_place) := ⟨rfl, rfl, rfl, by decide +kernel, rfl, by decide +kernel, by decide +kernel⟩
theorem bn__law_place : BindN "_law_place" s__law_place ["_law_box", "_law_files_here"] := fun _ _ _ _ _ _ us hl => match us, hl with | [_, _], _ => rfl
theorem b__law_place (T : TX K mg) : Body P w K mg base "_law_place" s__law_place ["_law_box", "_law_files_here", "_law_path_here", "_law_parts"] 4 (spPlace K) := by
  intro cdv A outer s H vs Q E h X hr
  obtain ⟨b, d, f, fs, rfl, B, F, G, q⟩ := h
  have D__law_draw := D__law_draw (P := P) (w := w) (base := base) T; have D__law_some_path := D__law_some_path (P := P) (w := w) (base := base) T
  refine ⟨_, (pss_cons (ps_set (i := 2) sc__law_place.nd rfl (Or.inl rfl) (pe_callA D__law_some_path hr pass0 (pa_cons (pv 0) (pa_cons (pv 1) pa_nil)))) (pss_cons (ps_set (i := 3) sc__law_place.nd rfl (Or.inl rfl) (pe_splitU (pv 2) pe_str)) (pss_one (ps_ret (pe_ix (ix_U (K := K)) (pe_lst (pa_cons pe_str (pa_cons (pv 2) (pa_cons (pe_ix (ix_U (K := K)) (pv 3) pe_int (fun _ _ => rfl)) (pa_cons (pe_joinU (K := K) pe_str (pe_slice (sl_U (K := K)) (pv 3) po_none (po_some pe_int))) pa_nil))))) (pe_callA D__law_draw hr pass0 (pa_cons (pv 0) (pa_cons pe_int pa_nil))) (fun _ _ => rfl)))))), ?_⟩
  walk_at "st"
  refine ⟨b, d, f, fs, rfl, B, F, G, fun z H1 hz e1 B1 => ?_⟩
  walk_at "st"
  have zl := path_len hz
  refine c_split (by decide) (by rw [sizeLine_eq]; omega) fun p H2 N2 => ?_
  walk_at "st"
  obtain ⟨n3, nn⟩ := path_parts hz
  have ne := split_ne hz
  generalize Txt.split z (PySem.Str.ofString "/") = ns at *
  cases ns with
  | nil => exact absurd rfl ne
  | cons n0 r =>
    refine c_ixL (v := .str n0) (SqL.of N2.at_) (atI_nat (j := 0) rfl) ?_
    walk_at "st"
    refine c_slL (SqL.of N2.at_) fun p3 H3 N3 => ?_
    have e2 : cutV ((n0 :: r).map V.str) none (some (2 : Int)) = ((n0 :: r).take 2).map V.str := by
      rw [cutV_eq, cutL_map]
      congr 1
      unfold cutL
      have e1 : HT.sIx (n0 :: r).length 0 none = 0 := rfl
      rw [e1, sIx_of (by decide), List.drop_zero, Nat.sub_zero]
      have e3 : (2 : Int).toNat = 2 := rfl
      rw [e3]
      by_cases h : 2 ≤ (n0 :: r).length
      · rw [Nat.min_eq_left h]
      · rw [Nat.min_eq_right (by omega), List.take_of_length_le (Nat.le_refl _), List.take_of_length_le (by omega)]
    have at3 := N3.at_
    rw [e2] at at3
    have nn2 : ∀ n ∈ (n0 :: r).take 2, isNameS n = true := fun n hn => nn n (List.mem_of_mem_take hn)
    refine c_join (ys := (n0 :: r).take 2) (SqL.of at3) ?_ ?_
    · have s := lenSum ((n0 :: r).take 2) 8 fun x hx => by
        have := nn2 x hx
        unfold isNameS at this
        simp only [Bool.and_eq_true, decide_eq_true_eq] at this
        exact this.1.2
      have l2 : ((n0 :: r).take 2).length ≤ 2 := by rw [List.length_take]; omega
      have e1 : (PySem.Str.ofString "/").length = 1 := by decide
      rw [e1]
      omega
    walk_at "st"
    walk_at "nw"
    intro p4 H4 N4
    walk_at "st"
    have k4 : Kp [b] H H4 := e1.trans ((N2.kp.trans N3.kp).trans N4.kp)
    have B4 := ((B1.nw N2).nw N3).nw N4
    refine ⟨b, d, 4, rfl, B4, by decide, fun i H5 h0 h1 e5 B5 => ?_⟩
    refine c_pickM (u := V.str) [PySem.Str.ofString "", z, n0, Txt.join (PySem.Str.ofString "/") ((n0 :: r).take 2)] ((B1.nw N2).nw N3 |>.pick N4 e5) h0 h1 fun y hy => ?_
    refine q y H5 ?_ (k4.trans e5) B5
    unfold isPlaceS
    simp only [List.mem_cons, List.not_mem_nil, or_false] at hy
    rcases hy with rfl | rfl | rfl | rfl
    · rfl
    · rw [hz, Bool.or_true]
    · rw [name_path (nn _ (List.mem_cons_self ..)), Bool.or_true]
    · rw [path_join (by simp) (by rw [List.length_take]; omega) nn2, Bool.or_true]
theorem D__law_place (T : TX K mg) : DefAt P w K mg base CX0 "_law_place" 5 ["_law_box", "_law_files_here"] (spPlace K) :=
  def_of T 16 31 sc__law_place bn__law_place (by walk_at "len") (b__law_place T)
end
end K07



namespace K07
open PySem L2 Sa
theorem place_len {z : Str} (h : isPlaceS z = true) : z.length ≤ 26 := by
  unfold isPlaceS at h
  rw [Bool.or_eq_true, decide_eq_true_eq] at h
  rcases h with rfl | h
  · decide
  · exact path_len h
theorem word_len {z : Str} (h : isWordS z = true) : z.length ≤ 12 := by
  unfold isWordS at h
  simp only [Bool.and_eq_true, decide_eq_true_eq] at h
  exact h.1.2
section
variable {P : Program} {w : World} {K : PySem.W.Frag} {mg : Str → Option Value} {base : Heap}
def spDrawn (K : PySem.W.Frag) (p : Action → Bool) : Sp := fun vs H Q _ => ∃ (b d f : Addr) (fs : List File), vs = [.ref b, .ref f] ∧ Bx H b d ∧ FilesAt K H f fs ∧ GoodP fs ∧ ∀ a x H', x.bad = none → p x = true → Kp [b] H H' → Bx H' b d → ActAt K H' a x → Q (.ref a) H'
theorem sc__law_question : FnScope ["_law_box", "_law_files_here", "_law_word"] ["_law_box", "_law_files_here"] (defScope s__law_question) := ⟨rfl, rfl, rfl, by decide +kernel, rfl, by decide +kernel, by decide +kernel⟩
theorem bn__law_question : BindN "_law_question" s__law_question ["_law_box", "_law_files_here"] := fun _ _ _ _ _ _ us hl => match us, hl with | [_, _], _ => rfl
theorem b__law_question (T : TX K mg) : Body P w K mg base "_law_question" s__law_question ["_law_box", "_law_files_here", "_law_word"] 5 (spDrawn K fun x => x.isQ) := by
  intro cdv A outer s H vs Q E h X hr
  obtain ⟨b, d, f, fs, rfl, B, F, G, q⟩ := h
  have D__law_draw := D__law_draw (P := P) (w := w) (base := base) T; have D__law_place := D__law_place (P := P) (w := w) (base := base) T; have D__law_some_path := D__law_some_path (P := P) (w := w) (base := base) T
  refine ⟨_, (pss_cons (ps_set (i := 2) sc__law_question.nd rfl (Or.inl rfl) (pe_ix (ix_U (K := K)) (pe_lst (pa_cons pe_str (pa_cons pe_str (pa_cons pe_str (pa_cons pe_str (pa_cons pe_str pa_nil)))))) (pe_callA D__law_draw hr pass0 (pa_cons (pv 0) (pa_cons pe_int pa_nil))) (fun _ _ => rfl))) (pss_cons (ps_if (pt_cmpR (op_eqU (K := K) hr.units) (pv 2) pe_str (nomark _)) (pss_one (ps_ret (pe_tup (pa_cons pe_str (pa_cons (pe_callA D__law_some_path hr pass0 (pa_cons (pv 0) (pa_cons (pv 1) pa_nil))) pa_nil))))) pss_nil) (pss_cons (ps_if (pt_cmpR (op_eqU (K := K) hr.units) (pv 2) pe_str (nomark _)) (pss_one (ps_ret (pe_tup (pa_cons pe_str (pa_cons (pe_callA D__law_place hr pass0 (pa_cons (pv 0) (pa_cons (pv 1) pa_nil))) (pa_cons (pe_ix (ix_U (K := K)) (pe_lst (pa_cons pe_str (pa_cons pe_str (pa_cons pe_str (pa_cons pe_str (pa_cons pe_str pa_nil)))))) (pe_callA D__law_draw hr pass0 (pa_cons (pv 0) (pa_cons pe_int pa_nil))) (fun _ _ => rfl)) pa_nil)))))) pss_nil) (pss_one (ps_ret (pe_tup (pa_cons (pv 2) (pa_cons (pe_callA D__law_place hr pass0 (pa_cons (pv 0) (pa_cons (pv 1) pa_nil))) pa_nil)))))))), ?_⟩
  walk_at "st"
  walk_at "nw"
  intro p1 H1 N1
  walk_at "st"
  refine ⟨b, d, 5, rfl, B.nw N1, by decide, fun i H2 h0 h1 e2 B2 => ?_⟩
  have k2 : Kp [b] H H2 := N1.kp.trans e2
  have F2 := F.kb B k2
  have pl : ∀ {Q1 : VK}, (∀ z H', isPlaceS z = true → Kp [b] H H' → Bx H' b d → Q1 (.str z) H') → spPlace K [.ref b, .ref f] H2 Q1 E0 := fun h => ⟨b, d, f, fs, rfl, B2, F2, G, fun z H' hz e' B' => h z H' hz (k2.trans e') B'⟩
  refine c_pickM (u := V.str) ["read", "kind", "list", "find", "count"] (B.pick N1 e2) h0 h1 fun y hy => ?_
  simp only [List.mem_cons, List.not_mem_nil, or_false] at hy
  rcases hy with rfl | rfl | rfl | rfl | rfl
  · walk_at "dc"
    refine ⟨b, d, f, fs, rfl, B2, F2, G, fun z H3 hz e3 B3 => ?_⟩
    walk_at "st"
    walk_at "nw"
    intro p4 H4 N4
    refine q p4 (.read z) H4 (by simp only [Action.bad, hz, if_true]) rfl ((k2.trans e3).trans N4.kp) (B3.nw N4) (SqT.of N4.at_)
  · walk_at "dc"
    refine pl fun z H3 hz e3 B3 => ?_
    walk_at "st"
    walk_at "nw"
    intro p4 H4 N4
    refine q p4 (.kind z) H4 (by simp only [Action.bad, hz, if_true]) rfl (e3.trans N4.kp) (B3.nw N4) (SqT.of N4.at_)
  · walk_at "dc"
    refine pl fun z H3 hz e3 B3 => ?_
    walk_at "st"
    walk_at "nw"
    intro p4 H4 N4
    refine q p4 (.list z) H4 (by simp only [Action.bad, hz, if_true]) rfl (e3.trans N4.kp) (B3.nw N4) (SqT.of N4.at_)
  · walk_at "dc"
    refine pl fun z H3 hz e3 B3 => ?_
    walk_at "st"
    walk_at "nw"
    intro p4 H4 N4
    walk_at "st"
    refine ⟨b, d, 5, rfl, B3.nw N4, by decide, fun j H5 j0 j1 e5 B5 => ?_⟩
    refine c_pickM (u := V.str) ["x", "y", " ", "todo", "x y"] (B3.pick N4 e5) j0 j1 fun y hy => ?_
    have hw : isWordS y = true := (by decide +kernel : ∀ y ∈ (["x", "y", " ", "todo", "x y"] : List Str), isWordS y = true) y hy
    walk_at "st"
    walk_at "nw"
    intro p6 H6 N6
    refine q p6 (.find z y) H6 (by simp only [Action.bad, hz, hw, if_true]) rfl (((e3.trans N4.kp).trans e5).trans N6.kp) (B5.nw N6) (SqT.of N6.at_)
  · walk_at "dc"
    refine pl fun z H3 hz e3 B3 => ?_
    walk_at "st"
    walk_at "nw"
    intro p4 H4 N4
    refine q p4 (.count z) H4 (by simp only [Action.bad, hz, if_true]) rfl (e3.trans N4.kp) (B3.nw N4) (SqT.of N4.at_)
theorem D__law_question (T : TX K mg) : DefAt P w K mg base CX0 "_law_question" 6 ["_law_box", "_law_files_here"] (spDrawn K fun x => x.isQ) :=
  def_of T 17 32 sc__law_question bn__law_question (by walk_at "len") (b__law_question T)
def spPart (K : PySem.W.Frag) : Sp := fun vs H Q _ => ∃ (b d l : Addr) (ls : List Str), vs = [.ref b, .ref l] ∧ Bx H b d ∧ SqT K H l (ls.map V.str) ∧ isLinesS ls = true ∧ ∀ p old H', isLinesS old = true → 0 < old.length → Kp [b] H H' → Bx H' b d → SqT K H' p (old.map V.str) → Q (.ref p) H'
theorem sc__law_part : FnScope ["_law_box", "_law_lines_here", "_law_at"] ["_law_box", "_law_lines_here"] (defScope s__law_part) := ⟨rfl, rfl, rfl, by decide +kernel, rfl, by decide +kernel, by decide +kernel⟩
theorem bn__law_part : BindN "_law_part" s__law_part ["_law_box", "_law_lines_here"] := fun _ _ _ _ _ _ us hl => match us, hl with | [_, _], _ => rfl
theorem b__law_part (T : TX K mg) : Body P w K mg base "_law_part" s__law_part ["_law_box", "_law_lines_here", "_law_at"] 3 (spPart K) := by
  intro cdv A outer s H vs Q E h X hr
  obtain ⟨b, d, l, ls, rfl, B, hl, hls, q⟩ := h
  have D__law_draw := D__law_draw (P := P) (w := w) (base := base) T; have D__law_line := D__law_line (P := P) (w := w) (base := base) T
  refine ⟨_, (pss_cons (ps_if (PW.pt (pw_and (pt_cmpR op_gtU (pe_callB (cr_len (K := K)) rfl (T.free 2) PySem.boot_len (pa_cons (pv 1) pa_nil)) pe_int (nomark _)) (pw_and1 (pt_cmpR op_gtU (pe_callA D__law_draw hr pass0 (pa_cons (pv 0) (pa_cons pe_int pa_nil))) pe_int (nomark _))))) (pss_cons (ps_set (i := 2) sc__law_part.nd rfl (Or.inl rfl) (pe_callA D__law_draw hr pass0 (pa_cons (pv 0) (pa_cons (pe_callB (cr_len (K := K)) rfl (T.free 2) PySem.boot_len (pa_cons (pv 1) pa_nil)) pa_nil)))) (pss_one (ps_ret (pe_slice (sl_U (K := K)) (pv 1) (po_some (pv 2)) (po_some (pe_op (op_addU (K := K)) (pe_op (op_addU (K := K)) (pv 2) pe_int) (pe_callA D__law_draw hr pass0 (pa_cons (pv 0) (pa_cons pe_int pa_nil))))))))) pss_nil) (pss_one (ps_ret (pe_tup (pa_cons (pe_callA D__law_line hr pass0 (pa_cons (pv 0) pa_nil)) pa_nil))))), ?_⟩
  obtain ⟨l1, l2⟩ := lines_len hls
  have alt : ∀ {H1 : Hp} {Q1 : VK}, Kp [b] H H1 → Bx H1 b d → (∀ z H', isLineS z = true → Kp [b] H H' → Bx H' b d → Q1 (.str z) H') → spLine [.ref b] H1 Q1 E0 := fun e1 B1 h => ⟨b, d, rfl, B1, fun z H' hz e' B' => h z H' (lineTexts_line z hz) (e1.trans e') B'⟩
  have one : ∀ z, isLineS z = true → isLinesS [z] = true := fun z hz => by unfold isLinesS; simp [hz]
  walk_at "st"
  refine c_ite (fun g => ?_) (fun g => ?_)
  · walk_at "st"
    refine ⟨b, d, 5, rfl, B, by decide, fun i H1 h0 h1 e1 B1 => ?_⟩
    walk_at "st"
    have hl1 := SqT.kt (B.kt e1) hl
    rw [List.length_map] at g
    refine c_ite (fun g1 => ?_) (fun g1 => ?_)
    · walk_at "st"
      refine ⟨b, d, _, rfl, B1, by rw [List.length_map]; omega, fun j H2 j0 j1 e2 B2 => ?_⟩
      rw [List.length_map] at j1
      walk_at "st"
      refine ⟨b, d, 2, rfl, B2, by decide, fun k H3 k0 k1 e3 B3 => ?_⟩
      walk_at "st"
      have e123 := (e1.trans e2).trans e3
      refine c_slT (SqT.kt (B.kt e123) hl) fun p H4 e4 hp => ?_
      rw [cutL_map] at hp
      refine q p _ H4 ?_ ?_ (e123.trans e4.mono) (B3.kp0 e4) hp
      · unfold isLinesS at hls ⊢
        simp only [Bool.and_eq_true, decide_eq_true_eq, List.all_eq_true] at hls ⊢
        refine ⟨?_, fun y hy => hls.2 y (List.mem_of_mem_drop (List.mem_of_mem_take hy))⟩
        unfold cutL
        rw [List.length_take, List.length_drop]
        omega
      · unfold cutL
        rw [List.length_take, List.length_drop, sIx_of (by omega), sIx_of (by omega)]
        omega
    · walk_at "st"
      refine alt e1 B1 fun z H2 hz e2 B2 => ?_
      walk_at "st"
      walk_at "nw"
      intro p H3 N3
      exact q p [z] H3 (one z hz) (by simp) (e2.trans N3.kp) (B2.nw N3) (SqT.of N3.at_)
  · walk_at "st"
    refine alt Kp.refl B fun z H2 hz e2 B2 => ?_
    walk_at "st"
    walk_at "nw"
    intro p H3 N3
    exact q p [z] H3 (one z hz) (by simp) (e2.trans N3.kp) (B2.nw N3) (SqT.of N3.at_)
theorem D__law_part (T : TX K mg) : DefAt P w K mg base CX0 "_law_part" 4 ["_law_box", "_law_lines_here"] (spPart K) :=
  def_of T 18 33 sc__law_part bn__law_part (by walk_at "len") (b__law_part T)
theorem sc__law_deed : FnScope ["_law_box", "_law_files_here", "_law_word", "_law_path_here", "_law_lines_here"] ["_law_box", "_law_files_here"] (defScope s__law_deed) := ⟨rfl, rfl, rfl, by decide +kernel, rfl, by decide +kernel, by decide +kernel⟩
theorem bn__law_deed : BindN "_law_deed" s__law_deed ["_law_box", "_law_files_here"] := fun _ _ _ _ _ _ us hl => match us, hl with | [_, _], _ => rfl
theorem b__law_deed (T : TX K mg) : Body P w K mg base "_law_deed" s__law_deed ["_law_box", "_law_files_here", "_law_word", "_law_path_here", "_law_lines_here"] 4 (spDrawn K fun x => !x.isQ) := by
  intro cdv A outer s H vs Q E h X hr
  obtain ⟨b, d, f, fs, rfl, B, F, G, q⟩ := h
  have D__law_draw := D__law_draw (P := P) (w := w) (base := base) T; have D__law_lines := D__law_lines (P := P) (w := w) (base := base) T; have D__law_part := D__law_part (P := P) (w := w) (base := base) T; have D__law_some_path := D__law_some_path (P := P) (w := w) (base := base) T
  refine ⟨_, (pss_cons (ps_set (i := 2) sc__law_deed.nd rfl (Or.inl rfl) (pe_ix (ix_U (K := K)) (pe_lst (pa_cons pe_str (pa_cons pe_str (pa_cons pe_str (pa_cons pe_str (pa_cons pe_str (pa_cons pe_str pa_nil))))))) (pe_callA D__law_draw hr pass0 (pa_cons (pv 0) (pa_cons pe_int pa_nil))) (fun _ _ => rfl))) (pss_cons (ps_set (i := 3) sc__law_deed.nd rfl (Or.inl rfl) (pe_callA D__law_some_path hr pass0 (pa_cons (pv 0) (pa_cons (pv 1) pa_nil)))) (pss_cons (ps_if (pt_cmpR (op_eqU (K := K) hr.units) (pv 2) pe_str (nomark _)) (pss_one (ps_ret (pe_tup (pa_cons pe_str (pa_cons (pv 3) (pa_cons (pe_callA D__law_lines hr pass0 (pa_cons (pv 0) (pa_cons pe_int pa_nil))) pa_nil)))))) pss_nil) (pss_cons (ps_if (pt_cmpR (op_eqU (K := K) hr.units) (pv 2) pe_str (nomark _)) (pss_one (ps_ret (pe_tup (pa_cons pe_str (pa_cons (pv 3) pa_nil))))) pss_nil) (pss_cons (ps_if (pt_cmpR (op_eqU (K := K) hr.units) (pv 2) pe_str (nomark _)) (pss_one (ps_ret (pe_tup (pa_cons pe_str (pa_cons (pv 3) (pa_cons (pe_callA D__law_some_path hr pass0 (pa_cons (pv 0) (pa_cons pe_dnewK pa_nil))) pa_nil)))))) pss_nil) (pss_cons (ps_set (i := 4) sc__law_deed.nd rfl (Or.inl rfl) (pe_tup pa_nil)) (Evl.pss_cut (ps_if (pt_cmp (pc_din (hu_of hr) (pv 3) (pv 1)) rfl) (pss_one (ps_set (i := 4) sc__law_deed.nd rfl (Or.inl rfl) (pe_dget (hu_of hr) (pv 1) (pv 3) (fun _ _ => rfl)))) pss_nil) (pss_one (ps_ret (pe_tup (pa_cons pe_str (pa_cons (pv 3) (pa_cons (pe_callA D__law_part hr pass0 (pa_cons (pv 0) (pa_cons (pv 4) pa_nil))) (pa_cons (pe_callA D__law_lines hr pass0 (pa_cons (pv 0) (pa_cons pe_int pa_nil))) pa_nil)))))))))))))), ?_⟩
  walk_at "st"
  walk_at "nw"
  intro p1 H1 N1
  walk_at "st"
  refine ⟨b, d, 6, rfl, B.nw N1, by decide, fun i H2 h0 h1 e2 B2 => ?_⟩
  have k2 : Kp [b] H H2 := N1.kp.trans e2
  have F2 := F.kb B k2
  refine c_pickM (u := V.str) ["write", "write", "remove", "move", "splice", "splice"] (B.pick N1 e2) h0 h1 fun y hy => ?_
  walk_at "st"
  refine ⟨b, d, f, fs, rfl, B2, F2, G, fun p H3 hp e3 B3 => ?_⟩
  have k3 := k2.trans e3
  have F3 := F2.kb B2 e3
  simp only [List.mem_cons, List.not_mem_nil, or_false] at hy
  rcases hy with rfl | rfl | rfl | rfl | rfl | rfl
  · walk_at "dc"
    refine ⟨b, d, 4, rfl, B3, by decide, by decide, fun l ls H4 hls _ e4 B4 hl => ?_⟩
    walk_at "st"
    walk_at "nw"
    intro p5 H5 N5
    refine q p5 (.write p ls) H5 (by simp only [Action.bad, hp, hls, if_true]) rfl ((k3.trans e4).trans N5.kp) (B4.nw N5) ⟨l, SqT.of N5.at_, SqT.kp N5.kp hl⟩
  · walk_at "dc"
    refine ⟨b, d, 4, rfl, B3, by decide, by decide, fun l ls H4 hls _ e4 B4 hl => ?_⟩
    walk_at "st"
    walk_at "nw"
    intro p5 H5 N5
    refine q p5 (.write p ls) H5 (by simp only [Action.bad, hp, hls, if_true]) rfl ((k3.trans e4).trans N5.kp) (B4.nw N5) ⟨l, SqT.of N5.at_, SqT.kp N5.kp hl⟩
  · walk_at "dc"
    walk_at "nw"
    intro p5 H5 N5
    refine q p5 (.remove p) H5 (by simp only [Action.bad, hp, if_true]) rfl (k3.trans N5.kp) (B3.nw N5) (SqT.of N5.at_)
  · walk_at "dc"
    refine c_dnew fun f0 H4 N4 => ?_
    walk_at "st"
    refine ⟨b, d, f0, [], rfl, B3.nw N4, FilesAt.nil N4.at_, ⟨by simp, .nil, by simp, by simp, by simp⟩, fun t H5 ht e5 B5 => ?_⟩
    walk_at "st"
    walk_at "nw"
    intro p6 H6 N6
    refine q p6 (.move p t) H6 (by simp only [Action.bad, hp, ht, if_true]) rfl (((k3.trans N4.kp).trans e5).trans N6.kp) (B5.nw N6) (SqT.of N6.at_)
  all_goals
    walk_at "dc"
    walk_at "nw"
    intro p4 H4 N4
    walk_at "st"
    refine c_cut (fun σ' H' => ∃ l ls, σ' = [some (.ref b), some (.ref f), some (.str "splice"), some (.str p), some (.ref l)] ∧ H4 = H' ∧ SqT K H' l (ls.map V.str) ∧ isLinesS ls = true) ?_ ?_
    · walk_at "st"
      refine c_dinF (F3.kp N4.kp).r ?_
      walk_at "st"
      refine c_iteB (fun g => ?_) (fun g => ?_)
      · obtain ⟨ls, g⟩ := Option.isSome_iff_exists.mp g
        walk_at "st"
        refine c_dgetF (F3.kp N4.kp).r g fun la hla => ?_
        walk_at "st"
        exact ⟨la, ls, rfl, rfl, hla, G.lines _ (at_mem g)⟩
      · walk_at "st"
        exact ⟨p4, [], rfl, rfl, SqT.of N4.at_, rfl⟩
    · rintro _ _ ⟨l, ls, rfl, rfl, hl, hls⟩
      walk_at "st"
      refine ⟨b, d, l, ls, rfl, B3.nw N4, hl, hls, fun po old H5 ho hpos e5 B5 hpo => ?_⟩
      walk_at "st"
      refine ⟨b, d, 3, rfl, B5, by decide, by decide, fun pn new H6 hn _ e6 B6 hpn => ?_⟩
      walk_at "st"
      walk_at "nw"
      intro p7 H7 N7
      refine q p7 (.splice p old new) H7 ?_ rfl ((((k3.trans N4.kp).trans e5).trans e6).trans N7.kp) (B6.nw N7) ⟨po, pn, SqT.of N7.at_, SqT.kp N7.kp (SqT.kt (B5.kt e6) hpo), SqT.kp N7.kp hpn⟩
      simp only [Action.bad, hp, ho, hn, decide_eq_true hpos, Bool.and_self, if_true]
theorem D__law_deed (T : TX K mg) : DefAt P w K mg base CX0 "_law_deed" 5 ["_law_box", "_law_files_here"] (spDrawn K fun x => !x.isQ) :=
  def_of T 19 34 sc__law_deed bn__law_deed (by walk_at "len") (b__law_deed T)
theorem sc__law_action : FnScope ["_law_box", "_law_files_here"] ["_law_box", "_law_files_here"] (defScope s__law_action) := ⟨rfl, rfl, rfl, by decide +kernel, rfl, by decide +kernel, by decide +kernel⟩
theorem bn__law_action : BindN "_law_action" s__law_action ["_law_box", "_law_files_here"] := fun _ _ _ _ _ _ us hl => match us, hl with | [_, _], _ => rfl
theorem b__law_action (T : TX K mg) : Body P w K mg base "_law_action" s__law_action ["_law_box", "_law_files_here"] 6 (spDrawn K fun _ => true) := by
  intro cdv A outer s H vs Q E h X hr
  obtain ⟨b, d, f, fs, rfl, B, F, G, q⟩ := h
  have D__law_deed := D__law_deed (P := P) (w := w) (base := base) T; have D__law_draw := D__law_draw (P := P) (w := w) (base := base) T; have D__law_question := D__law_question (P := P) (w := w) (base := base) T
  refine ⟨_, (pss_cons (ps_if (pt_cmpR (op_eqU (K := K) hr.units) (pe_callA D__law_draw hr pass0 (pa_cons (pv 0) (pa_cons pe_int pa_nil))) pe_int (nomark _)) (pss_one (ps_ret (pe_callA D__law_question hr pass0 (pa_cons (pv 0) (pa_cons (pv 1) pa_nil))))) pss_nil) (pss_one (ps_ret (pe_callA D__law_deed hr pass0 (pa_cons (pv 0) (pa_cons (pv 1) pa_nil)))))), ?_⟩
  walk_at "st"
  refine ⟨b, d, 2, rfl, B, by decide, fun i H1 h0 h1 e1 B1 => ?_⟩
  walk_at "st"
  refine c_ite (fun g => ?_) (fun g => ?_)
  · walk_at "st"
    exact ⟨b, d, f, fs, rfl, B1, F.kb B e1, G, fun a x H2 hb _ e2 B2 ha => q a x H2 hb rfl (e1.trans e2) B2 ha⟩
  · walk_at "st"
    exact ⟨b, d, f, fs, rfl, B1, F.kb B e1, G, fun a x H2 hb _ e2 B2 ha => q a x H2 hb rfl (e1.trans e2) B2 ha⟩
theorem D__law_action (T : TX K mg) : DefAt P w K mg base CX0 "_law_action" 7 ["_law_box", "_law_files_here"] (spDrawn K fun _ => true) :=
  def_of T 20 35 sc__law_action bn__law_action (by walk_at "len") (b__law_action T)
end
end K07



namespace K07
open PySem L2 Sa
structure Fit (n w : Nat) (d : PyData) : Prop where
  lay : PyData.canLay0 d = true
  dep : PyData.depth d ≤ n
  wt : PyData.weight d ≤ w
  shrt : PyData.intsShort 13 d = true
  show_ : PyData.showable d = true
structure FitAll (n w : Nat) (ds : List PyData) : Prop where
  lay : PyData.canLayAll0 ds = true
  dep : PyData.depthAll ds ≤ n
  wt : PyData.weightAll ds ≤ w
  shrt : PyData.intsShortAll 13 ds = true
  show_ : PyData.showableAll ds = true
theorem Fit.mono {n w n' w' : Nat} {d : PyData} (h : Fit n w d) (h1 : n ≤ n') (h2 : w ≤ w') : Fit n' w' d := ⟨h.lay, Nat.le_trans h.dep h1, Nat.le_trans h.wt h2, h.shrt, h.show_⟩
theorem Fit.none : Fit 0 0 .none := ⟨rfl, Nat.le_refl _, Nat.le_refl _, rfl, rfl⟩
theorem Fit.bool (b : Bool) : Fit 0 0 (.bool b) := ⟨rfl, Nat.le_refl _, Nat.le_refl _, rfl, rfl⟩
theorem Fit.str {z : Str} {w : Nat} (h : okS z = true) (hw : z.length ≤ w) : Fit 0 w (.str z) := ⟨by unfold PyData.canLay0; exact h, Nat.le_refl _, by unfold PyData.weight; exact hw, by simp only [PyData.intsShort], by simp only [PyData.showable]⟩
theorem FitAll.nil {n : Nat} : FitAll n 0 [] := ⟨by simp only [PyData.canLayAll0], Nat.zero_le _, Nat.le_refl _, by simp only [PyData.intsShortAll], by simp only [PyData.showableAll]⟩
theorem FitAll.cons {n w v : Nat} {d : PyData} {ds : List PyData} (h : Fit n w d) (g : FitAll n v ds) : FitAll n (w + 1 + v) (d :: ds) :=
  ⟨by simp only [PyData.canLayAll0, h.lay, g.lay, Bool.and_self], by simp only [PyData.depthAll]; exact Nat.max_le.mpr ⟨h.dep, g.dep⟩, by simp only [PyData.weightAll]; have := h.wt; have := g.wt; omega, by simp only [PyData.intsShortAll, h.shrt, g.shrt, Bool.and_self], by simp only [PyData.showableAll, h.show_, g.show_, Bool.and_self]⟩
theorem FitAll.of {n w : Nat} : ∀ {ds : List PyData}, (∀ d ∈ ds, Fit n w d) → FitAll n ((w + 1) * ds.length) ds
  | [], _ => FitAll.nil
  | d :: r, h => by
    have g := FitAll.cons (h d (List.mem_cons_self ..)) (FitAll.of fun e he => h e (List.mem_cons_of_mem _ he))
    rw [List.length_cons, Nat.mul_add, Nat.mul_one]
    exact ⟨g.lay, g.dep, by have := g.wt; omega, g.shrt, g.show_⟩
theorem FitAll.mono {n w n' w' : Nat} {ds : List PyData} (h : FitAll n w ds) (h1 : n ≤ n') (h2 : w ≤ w') : FitAll n' w' ds := ⟨h.lay, Nat.le_trans h.dep h1, Nat.le_trans h.wt h2, h.shrt, h.show_⟩
theorem FitAll.tup {n w : Nat} {ds : List PyData} (h : FitAll n w ds) : Fit (n + 1) w (.tuple ds) :=
  ⟨by simp only [PyData.canLay0, h.lay], by simp only [PyData.depth]; have := h.dep; omega, by simp only [PyData.weight]; exact h.wt, by simp only [PyData.intsShort, h.shrt], by simp only [PyData.showable, h.show_]⟩
theorem FitAll.lst {n w : Nat} {ds : List PyData} (h : FitAll n w ds) : Fit (n + 1) w (.list ds) :=
  ⟨by simp only [PyData.canLay0, h.lay], by simp only [PyData.depth]; have := h.dep; omega, by simp only [PyData.weight]; exact h.wt, by simp only [PyData.intsShort, h.shrt], by simp only [PyData.showable, h.show_]⟩
theorem Fit.tup {n w m : Nat} {ds : List PyData} (h : ∀ d ∈ ds, Fit n w d) (hl : ds.length ≤ m) : Fit (n + 1) ((w + 1) * m) (.tuple ds) := ((FitAll.of h).mono (Nat.le_refl _) (Nat.mul_le_mul_left _ hl)).tup
theorem Fit.shaped {n w : Nat} {d : PyData} (h : Fit n w d) (hn : n ≤ 64) : SeqAt.shaped d = true := by
  unfold SeqAt.shaped
  rw [h.lay, decide_eq_true (Nat.le_trans h.dep hn)]
  rfl
theorem Fit.word {z : Str} (h : okS z = true) (hl : z.length ≤ 11) : Fit 1 12 (wordD z) := Fit.tup (m := 1) (fun d hd => by rw [List.mem_singleton.mp hd]; exact Fit.str h hl) (by simp)
end K07




namespace K07
open PySem L2 Sa
theorem law_cut (x y : Str) : decide (cutS x none (some ((y.length : Int) + 1)) = y ++ PySem.Str.ofString "/") = Txt.startswith x (y ++ PySem.Str.ofString "/") := by
  rw [← cut_starts, str_app_len]
  have e1 : (PySem.Str.ofString "/").length = 1 := by decide
  rw [e1]
  rfl
def lawBlocked (ps : List Str) (p : Str) : Bool := ps.any fun o => !decide (o = p) && (isInsideS o p || isInsideS p o)
theorem lawBlocked_eq {fs : List File} {p : Str} (hp : isPathS p = true) : lawBlocked (pathsOf fs) p = blockedF fs p := by
  unfold lawBlocked blockedF insideF aboveF
  have e : ∀ q : Str → Bool, decide (0 < ((pathsOf fs).filter q).length) = (pathsOf fs).any q := fun q => by
    rw [Bool.eq_iff_iff, decide_eq_true_eq, List.any_eq_true, List.length_pos_iff_exists_mem]
    constructor
    · rintro ⟨a, ha⟩; exact ⟨a, (List.mem_filter.mp ha).1, (List.mem_filter.mp ha).2⟩
    · rintro ⟨a, h1, h2⟩; exact ⟨a, List.mem_filter.mpr ⟨h1, h2⟩⟩
  rw [e, e, Bool.eq_iff_iff, Bool.or_eq_true, List.any_eq_true, List.any_eq_true, List.any_eq_true]
  have so := self_out hp
  constructor
  · rintro ⟨o, h1, h2⟩
    rw [Bool.and_eq_true, Bool.or_eq_true] at h2
    exact h2.2.elim (fun h => .inl ⟨o, h1, h⟩) (fun h => .inr ⟨o, h1, h⟩)
  · have ne : ∀ o, isInsideS o p = true ∨ isInsideS p o = true → o ≠ p := fun o h e => by
      subst e
      rw [so] at h
      rcases h with h | h <;> cases h
    rintro (⟨o, h1, h2⟩ | ⟨o, h1, h2⟩)
    · exact ⟨o, h1, by rw [h2, decide_eq_false (ne o (.inl h2))]; rfl⟩
    · exact ⟨o, h1, by rw [h2, decide_eq_false (ne o (.inr h2)), Bool.or_true]; rfl⟩
theorem itn_ks {d : Addr} {od : Obj} {ls : List (Addr × File)} : Itn (Itk d od (filesKv ls)) ls.length (fun H => H d = some (.frz od (.dK (filesKv ls)))) (Yq ls fun l => V.str l.2.1) := itn_k (f := fun l : Addr × File => (Sum.inr l.2.1 : Key)) (g := fun l => V.ref l.1)
section
variable {P : Program} {w : World} {K : PySem.W.Frag} {mg : Str → Option Value} {base : Heap}
def spLInside : Sp := fun vs H Q _ => ∃ x y : Str, vs = [.str x, .str y] ∧ x.length ≤ 1000 ∧ y.length ≤ 1000 ∧ Q (.bl (isInsideS x y)) H
theorem sc__law_inside : FnScope ["_law_path_here", "_law_place_here"] ["_law_path_here", "_law_place_here"] (defScope s__law_inside) := ⟨rfl, rfl, rfl, by decide +kernel, rfl, by decide +kernel, by decide +kernel⟩
theorem bn__law_inside : BindN "_law_inside" s__law_inside ["_law_path_here", "_law_place_here"] := fun _ _ _ _ _ _ us hl => match us, hl with | [_, _], _ => rfl
theorem b__law_inside (T : TX K mg) : Body P w K mg base "_law_inside" s__law_inside ["_law_path_here", "_law_place_here"] 1 (spLInside) := by
  intro cdv A outer s H vs Q E h X hr
  obtain ⟨x, y, rfl, hx, hy, q⟩ := h
  refine ⟨_, (pss_one (ps_ret (pe_or (pe_cmpR (op_eqU (K := K) hr.units) (pv 1) pe_str (nomark _)) (pe_one (pe_cmpR (op_eqU (K := K) hr.units) (pe_slice (sl_U (K := K)) (pv 0) po_none (po_some (pe_op (op_addU (K := K)) (pe_callB (cr_len (K := K)) rfl (T.free 2) PySem.boot_len (pa_cons (pv 1) pa_nil)) pe_int))) (pe_op (op_addU (K := K)) (pv 1) pe_str) (nomark _)))))), ?_⟩
  unfold isInsideS at q
  have e1 : (PySem.Str.ofString "/").length = 1 := by decide
  walk_at "st"
  refine c_ite (fun g => ?_) (fun g => ?_)
  · walk_at "st"
    rw [decide_eq_true g, Bool.true_or] at q
    exact q
  · walk_at "st"
    rw [decide_eq_false g, Bool.false_or, ← law_cut] at q
    refine c_slS (by rw [sizeLine_eq]; omega) ?_
    walk_at "st"
    refine c_addS (by rw [sizeLine_eq]; omega) ?_
    walk_at "st"
    exact q
theorem D__law_inside (T : TX K mg) : DefAt P w K mg base CX0 "_law_inside" 2 ["_law_path_here", "_law_place_here"] (spLInside) :=
  def_of T 12 26 sc__law_inside bn__law_inside (by walk_at "len") (b__law_inside T)
def spLBlocked (K : PySem.W.Frag) : Sp := fun vs H Q _ => ∃ (f : Addr) (p : Str) (fs : List File), vs = [.ref f, .str p] ∧ FilesAt K H f fs ∧ (∀ o ∈ pathsOf fs, o.length ≤ 1000) ∧ p.length ≤ 1000 ∧ Q (.bl (lawBlocked (pathsOf fs) p)) H
theorem lb_yes {ps : List Str} {p o : Str} (h : o ∈ ps) (h1 : o ≠ p) (h2 : (isInsideS o p || isInsideS p o) = true) : lawBlocked ps p = true := List.any_eq_true.mpr ⟨o, h, by rw [h2, decide_eq_false h1]; rfl⟩
theorem lb_snoc {ps : List Str} {p o : Str} {i : Nat} (h : ps[i]? = some o) (g : lawBlocked (ps.take i) p = false) (n : (!decide (o = p) && (isInsideS o p || isInsideS p o)) = false) : lawBlocked (ps.take (i + 1)) p = false := by
  unfold lawBlocked at g ⊢
  rw [take_succ' h, List.any_append, g, Bool.false_or, List.any_cons, n]
  rfl
theorem sc__law_blocked : FnScope ["_law_files_here", "_law_path_here", "_law_other"] ["_law_files_here", "_law_path_here"] (defScope s__law_blocked) := ⟨rfl, rfl, rfl, by decide +kernel, rfl, by decide +kernel, by decide +kernel⟩
theorem bn__law_blocked : BindN "_law_blocked" s__law_blocked ["_law_files_here", "_law_path_here"] := fun _ _ _ _ _ _ us hl => match us, hl with | [_, _], _ => rfl
theorem b__law_blocked (T : TX K mg) : Body P w K mg base "_law_blocked" s__law_blocked ["_law_files_here", "_law_path_here", "_law_other"] 2 (spLBlocked K) := by
  intro cdv A outer s H vs Q E h X hr
  obtain ⟨f, p, fs, rfl, F, hps, hp, q⟩ := h
  have D__law_inside := D__law_inside (P := P) (w := w) (base := base) T
  refine ⟨_, (pss_cons (ps_lock (ps_for PassesOwn.never rfl (pi_keys (pv 0)) (pg_name (i := 2) sc__law_blocked.nd rfl (Or.inl rfl)) (pss_one (ps_if (PW.pt (pw_and (pt_cmpR (op_neU (K := K) hr.units) (pv 2) (pv 1) (nomark _)) (pw_and1 (PW.pt (pw_or (pt_tru (K := K) (pe_callA D__law_inside hr pass0 (pa_cons (pv 2) (pa_cons (pv 1) pa_nil)))) (pw_or1 (pt_tru (K := K) (pe_callA D__law_inside hr pass0 (pa_cons (pv 1) (pa_cons (pv 2) pa_nil)))))))))) (pss_one (ps_ret pe_bl)) pss_nil)))) (pss_one (ps_ret pe_bl))), ?_⟩
  obtain ⟨ls, hf, hl, rfl⟩ := F.ex
  walk_at "st"
  refine c_lockF hf fun od => ?_
  have back : upd (upd H f (.frz od (.dK (filesKv ls)))) f (.dK (filesKv ls)) = H := by rw [lock_back, upd_self hf]
  walk_at "st"
  refine c_keysAt upd_same ?_
  refine forQ (itn_ks (ls := ls)) (fun i σ H' => ∃ v, σ = [some (.ref f), some (.str p), v] ∧ H' = upd H f (.frz od (.dK (filesKv ls))) ∧ lawBlocked ((pathsOf (ls.map Prod.snd)).take i) p = false) ⟨_, rfl, rfl, rfl⟩ (by rintro i σ H' ⟨_, _, rfl, _⟩; exact upd_same) ?_ ?_
  · rintro i x σ H' _ hi ⟨v, rfl, rfl, hg⟩ ⟨rfl, l, hl1, rfl⟩
    have ho : (pathsOf (ls.map Prod.snd))[i]? = some l.2.1 := by unfold pathsOf; rw [List.getElem?_map, List.getElem?_map, hl1]; rfl
    have hm := List.mem_of_getElem? ho
    have hlen := hps _ hm
    walk_at "st"
    have yes : l.2.1 ≠ p → (isInsideS l.2.1 p || isInsideS p l.2.1) = true → Q (.bl true) H := fun h1 h2 => by rw [lb_yes hm h1 h2] at q; exact q
    refine c_iteN (fun g1 => ?_) (fun g1 => ?_)
    · walk_at "st"
      refine ⟨_, _, rfl, hlen, hp, ?_⟩
      walk_at "st"
      refine c_iteB (fun g2 => ?_) (fun g2 => ?_)
      · walk_at "st"
        refine ⟨upd_same, ?_⟩
        rw [back]
        exact yes g1 (by rw [g2]; rfl)
      · walk_at "st"
        refine ⟨_, _, rfl, hp, hlen, ?_⟩
        walk_at "st"
        refine c_iteB (fun g3 => ?_) (fun g3 => ?_)
        · walk_at "st"
          refine ⟨upd_same, ?_⟩
          rw [back]
          exact yes g1 (by rw [g3, Bool.or_true])
        · walk_at "st"
          exact ⟨_, rfl, rfl, lb_snoc ho hg (by rw [g2, g3]; simp)⟩
    · walk_at "st"
      exact ⟨_, rfl, rfl, lb_snoc ho hg (by rw [decide_eq_true g1]; rfl)⟩
  · rintro σ H' ⟨v, rfl, rfl, hg⟩
    refine ⟨upd_same, ?_⟩
    rw [back]
    walk_at "st"
    rw [List.take_of_length_le (by unfold pathsOf; rw [List.length_map, List.length_map]; exact Nat.le_refl _)] at hg
    rw [hg] at q
    exact q
theorem D__law_blocked (T : TX K mg) : DefAt P w K mg base CX0 "_law_blocked" 3 ["_law_files_here", "_law_path_here"] (spLBlocked K) :=
  def_of T 13 27 sc__law_blocked bn__law_blocked (by walk_at "len") (b__law_blocked T)

end
def putR (fs : List File) (p : Str) (ls : List Str) : List File := if fs.any (fun f => decide (f.1 = p)) = true then fs.map (fun f => if f.1 = p then (p, ls) else f) else fs ++ [(p, ls)]
def putA (rs : List (Addr × File)) (p : Str) (a : Addr) (ls : List Str) : List (Addr × File) := if rs.any (fun r => decide (r.2.1 = p)) = true then rs.map (fun r => if r.2.1 = p then (a, (p, ls)) else r) else rs ++ [(a, (p, ls))]
theorem putA_snd (rs : List (Addr × File)) (p : Str) (a : Addr) (ls : List Str) : (putA rs p a ls).map Prod.snd = putR (rs.map Prod.snd) p ls := by
  unfold putA putR
  rw [List.any_map]
  have e : ((fun f : File => decide (f.1 = p)) ∘ Prod.snd) = fun r : Addr × File => decide (r.2.1 = p) := rfl
  rw [e]
  split
  · rw [List.map_map, List.map_map]
    congr 1
    funext r
    simp only [Function.comp]
    split <;> rfl
  · rw [List.map_append]; rfl
theorem putA_kv (rs : List (Addr × File)) (p : Str) (a : Addr) (ls : List Str) : filesKv (putA rs p a ls) = putK (filesKv rs) (Sum.inr p) (.ref a) := by
  unfold putA putK filesKv
  rw [List.any_map]
  have e : ((fun kv : Key × V => decide (kv.1 = (Sum.inr p : Key))) ∘ fun l : Addr × File => ((Sum.inr l.2.1 : Key), V.ref l.1)) = fun r : Addr × File => decide (r.2.1 = p) := by
    funext r
    simp
  rw [e]
  split
  · rw [List.map_map, List.map_map]
    congr 1
    funext r
    simp only [Function.comp, Sum.inr.injEq]
    split
    · rename_i h; rw [h]
    · rfl
  · rw [List.map_append]; rfl
theorem putR_perm {fs : List File} (h : Once fs) (p : Str) (ls : List Str) : (putR fs p ls).Perm (withF fs p ls) := by
  unfold putR withF withoutF
  split
  · rename_i hp
    induction fs with
    | nil => simp at hp
    | cons f r ih =>
      obtain ⟨h1, h2⟩ := List.nodup_cons.mp (show (f.1 :: r.map Prod.fst).Nodup from h)
      by_cases e : f.1 = p
      · have hr : ∀ g ∈ r, ¬ g.1 = p := fun g hg e2 => h1 (by rw [e, ← e2]; exact List.mem_map_of_mem (f := Prod.fst) hg)
        rw [List.map_cons, if_pos e, List.filter_cons_of_neg (by simp [e])]
        have e1 : r.map (fun f => if f.1 = p then (p, ls) else f) = r := by
          conv => rhs; rw [← List.map_id r]
          exact List.map_congr_left fun g hg => by rw [if_neg (hr g hg)]; rfl
        have e2 : r.filter (fun f => !decide (f.1 = p)) = r := List.filter_eq_self.mpr fun g hg => by rw [decide_eq_false (hr g hg)]; rfl
        rw [e1, e2]
        exact (List.perm_append_singleton (p, ls) r).symm
      · rw [List.map_cons, if_neg e, List.filter_cons_of_pos (by simp [e]), List.cons_append]
        refine List.Perm.cons f (ih h2 ?_)
        rw [List.any_cons, decide_eq_false e, Bool.false_or] at hp
        exact hp
  · rename_i hp
    have e2 : fs.filter (fun f => !decide (f.1 = p)) = fs := List.filter_eq_self.mpr fun g hg => by
      rw [List.any_eq_true] at hp
      cases q : decide (g.1 = p) with
      | false => rfl
      | true => exact absurd ⟨g, hg, q⟩ hp
    rw [e2]
theorem GoodP.put {fs : List File} {p : Str} {ls : List Str} (h : GoodP fs) (hp : isPathS p = true) (hl : isLinesS ls = true) (nb : lawBlocked (pathsOf fs) p = false) (hn : fs.length < 20 ∨ (at? fs p).isSome = true) : GoodP (putR fs p ls) :=
  (h.withf hp hl (nob (by rw [← lawBlocked_eq hp]; exact nb)) hn).perm (putR_perm h.once p ls).symm
theorem putR_len (fs : List File) (p : Str) (ls : List Str) : (putR fs p ls).length ≤ fs.length + 1 := by
  unfold putR
  split
  · rw [List.length_map]; omega
  · rw [List.length_append]; exact Nat.le_refl _
section
variable {K : PySem.W.Frag} {H : Hp} {f la : Addr} {fs : List File} {p : Str} {ls : List Str} {R : Hp → Prop}
theorem c_putF (h : FilesAt K H f fs) (hn : fs.length ≤ 1000) (hl : SqT K H la (ls.map V.str)) (q : ∀ H', Kp [f] H H' → Kt H H' → FilesAt K H' f (putR fs p ls) → (∀ a o, a ≠ f → H' a = some o → H a = some o) → R H') : ∃ a H4, V.ref f = .ref a ∧ DPut H a (.str p) (.ref la) H4 ∧ R H4 := by
  obtain ⟨rs, h1, h2, rfl⟩ := h.ex
  have kt : ∀ o, Kt H (upd H f o) := fun o => Kt.upd1 (NoT.dK h1)
  refine c_dputAt h1 (by rw [sizeLine_eq]; unfold filesKv; rw [List.length_map] at hn ⊢; omega) ?_
  rw [← putA_kv rs p la ls]
  refine q _ (Kp.mut (by simp)) (kt _) ⟨putA rs p la ls, upd_same, fun r hr => ?_, putA_snd rs p la ls⟩ (fun a o ha ho => by rw [upd_ne ha] at ho; exact ho)
  unfold putA at hr
  split at hr
  · obtain ⟨r0, hr0, rfl⟩ := List.mem_map.mp hr
    split
    · exact SqT.kt (kt _) hl
    · exact SqT.kt (kt _) (h2 r0 hr0)
  · rcases List.mem_append.mp hr with hr | hr
    · exact SqT.kt (kt _) (h2 r hr)
    · rw [List.mem_singleton.mp hr]; exact SqT.kt (kt _) hl
end
section
variable {P : Program} {w : World} {K : PySem.W.Frag} {mg : Str → Option Value} {base : Heap}
def spFiles (K : PySem.W.Frag) : Sp := fun vs H Q _ => ∃ (b d : Addr) (m : Int), vs = [.ref b, .int m] ∧ Bx H b d ∧ 0 ≤ m ∧ m ≤ 12 ∧ ∀ f fs H', GoodP fs → (fs.length : Int) ≤ m → FilesAt K H' f fs → Kp [b] H H' → Bx H' b d → H f = none → Q (.ref f) H'
theorem sc__law_files : FnScope ["_law_box", "_law_most", "_law_files_here", "_law_turn", "_law_path_here", "_law_lines_here"] ["_law_box", "_law_most"] (defScope s__law_files) := ⟨rfl, rfl, rfl, by decide +kernel, rfl, by decide +kernel, by decide +kernel⟩
theorem bn__law_files : BindN "_law_files" s__law_files ["_law_box", "_law_most"] := fun _ _ _ _ _ _ us hl => match us, hl with | [_, _], _ => rfl
theorem b__law_files (T : TX K mg) : Body P w K mg base "_law_files" s__law_files ["_law_box", "_law_most", "_law_files_here", "_law_turn", "_law_path_here", "_law_lines_here"] 4 (spFiles K) := by
  intro cdv A outer s H vs Q E h X hr
  obtain ⟨b, d, m, rfl, B, m0, m1, q⟩ := h
  have D__law_blocked := D__law_blocked (P := P) (w := w) (base := base) T; have D__law_draw := D__law_draw (P := P) (w := w) (base := base) T; have D__law_lines := D__law_lines (P := P) (w := w) (base := base) T; have D__law_path := D__law_path (P := P) (w := w) (base := base) T
  refine ⟨_, (pss_cons (ps_set (i := 2) sc__law_files.nd rfl (Or.inl rfl) pe_dnewK) (pss_cons (ps_for PassesOwn.never rfl (pi_range1 rfl (T.free 19) (pa_cons (pe_callA D__law_draw hr pass0 (pa_cons (pv 0) (pa_cons (pe_op (op_addU (K := K)) (pv 1) pe_int) pa_nil))) pa_nil)) (pg_name (i := 3) sc__law_files.nd rfl (Or.inl rfl)) (pss_cons (ps_set (i := 4) sc__law_files.nd rfl (Or.inl rfl) (pe_callA D__law_path hr pass0 (pa_cons (pv 0) pa_nil))) (pss_cons (ps_set (i := 5) sc__law_files.nd rfl (Or.inl rfl) (pe_callA D__law_lines hr pass0 (pa_cons (pv 0) (pa_cons pe_int pa_nil)))) (pss_one (ps_if (pt_not (pt_tru (K := K) (pe_callA D__law_blocked hr pass0 (pa_cons (pv 2) (pa_cons (pv 4) pa_nil))))) (pss_one (ps_dput (hu_of hr) (pv 2) (pv 4) (pv 5) rfl)) pss_nil))))) (pss_one (ps_ret (pv 2))))), ?_⟩
  walk_at "st"
  refine c_dnew fun f H1 N1 => ?_
  walk_at "st"
  refine ⟨b, d, m + 1, rfl, B.nw N1, by omega, fun n H2 n0 n1 e2 B2 => ?_⟩
  walk_at "st"
  have nf := B.ne_new N1.fr
  have F1 : FilesAt K H1 f [] := FilesAt.nil N1.at_
  have F2 := F1.kb (B.nw N1) e2
  refine forR (fun i σ H' => ∃ v3 v4 v5 fs, σ = [some (.ref b), some (.int m), some (.ref f), v3, v4, v5] ∧ FilesAt K H' f fs ∧ GoodP fs ∧ fs.length ≤ i ∧ Kp [b] H H' ∧ Bx H' b d) ⟨_, _, _, [], rfl, F2, ⟨by simp, .nil, by simp, by simp, by simp⟩, Nat.le_refl _, (N1.kp (ms := [b])).trans e2, B2⟩ ?_ ?_
  · rintro i σ H3 hi ⟨v3, v4, v5, fs, rfl, F3, G3, hl, e3, B3⟩
    have gl := G3.len
    walk_at "st"
    refine ⟨b, d, rfl, B3, fun z H4 hz e4 B4 => ?_⟩
    walk_at "st"
    refine ⟨b, d, 4, rfl, B4, by decide, by decide, fun la lns H5 hls _ e5 B5 hla => ?_⟩
    walk_at "st"
    have F5 := (F3.kb B3 e4).kb B4 e5
    have hz8 := hz.len
    refine ⟨f, z, fs, rfl, F5, fun o ho => by
      obtain ⟨r, hr, rfl⟩ := List.mem_map.mp ho
      have := path_len (G3.path r hr)
      omega, by omega, ?_⟩
    walk_at "st"
    refine c_iteNB (fun g => ?_) (fun g => ?_)
    · walk_at "st"
      refine c_putF F5 (by omega) hla fun H6 e6 kt6 F6 back => ?_
      walk_at "st"
      refine ⟨_, _, _, _, rfl, F6, G3.put hz.path hls g (.inl (by omega)), by have := putR_len fs z lns; omega, ?_, ?_⟩
      · intro a o ha ho
        have hne : a ≠ f := fun e => by rw [e, N1.fr] at ho; cases ho
        exact e6 a o (by simpa using hne) (((e3.trans e4).trans e5) a o ha ho)
      · obtain ⟨at_, ds, b1, b2, b3⟩ := B5.ex
        exact ⟨at_, ds, e6 b _ (by simpa using (Ne.symm nf.1)) b1, e6 d _ (by simpa using (Ne.symm nf.2)) b2, b3⟩
    · walk_at "st"
      exact ⟨_, _, _, _, rfl, F5, G3, by omega, (e3.trans e4).trans e5, B5⟩
  · rintro σ H3 ⟨v3, v4, v5, fs, rfl, F3, G3, hl, e3, B3⟩
    walk_at "st"
    exact q f fs H3 G3 (by omega) F3 e3 B3 N1.fr
theorem D__law_files (T : TX K mg) : DefAt P w K mg base CX0 "_law_files" 5 ["_law_box", "_law_most"] (spFiles K) :=
  def_of T 14 28 sc__law_files bn__law_files (by walk_at "len") (b__law_files T)
end
end K07



namespace K07
open PySem L2 Sa
local macro_rules | `(tactic| walk_at "s1") => `(tactic| first | (with_reducible apply c_dgetK))
local macro_rules | `(tactic| walk_at "s1") => `(tactic| (with_reducible apply c_raiseO))
def Action.d : Action → PyData
  | .read p => .tuple [.str "read", .str p]
  | .kind z => .tuple [.str "kind", .str z]
  | .list z => .tuple [.str "list", .str z]
  | .find z w => .tuple [.str "find", .str z, .str w]
  | .count z => .tuple [.str "count", .str z]
  | .write p ls => .tuple [.str "write", .str p, strsD ls]
  | .remove p => .tuple [.str "remove", .str p]
  | .move p t => .tuple [.str "move", .str p, .str t]
  | .splice p old new => .tuple [.str "splice", .str p, strsD old, strsD new]
theorem ActAt.dt {K : PySem.W.Frag} {H : Hp} {a : Addr} {x : Action} (h : ActAt K H a x) : Dt K H (.ref a) x.d := by
  cases x with
  | write p ls => obtain ⟨l, h1, h2⟩ := h; exact .tup h1 (.cons (.str _) (.cons (.str _) (.cons (dt_strs h2) .nil)))
  | splice p old new => obtain ⟨l, m, h1, h2, h3⟩ := h; exact .tup h1 (.cons (.str _) (.cons (.str _) (.cons (dt_strs h2) (.cons (dt_strs h3) .nil))))
  | find z w => exact .tup h (.cons (.str _) (.cons (.str _) (.cons (.str _) .nil)))
  | move z w => exact .tup h (.cons (.str _) (.cons (.str _) (.cons (.str _) .nil)))
  | _ => exact .tup h (.cons (.str _) (.cons (.str _) .nil))
theorem dta_one {K : PySem.W.Frag} {H : Hp} {xs : List V} {s : Str} {ds : List PyData} (h : DtAll K H xs (.str s :: ds)) : ∃ vs, xs = .str s :: vs ∧ DtAll K H vs ds := by
  obtain ⟨v, vs, rfl, h1, h2⟩ := dta_cons h
  rw [dt_str h1]
  exact ⟨vs, rfl, h2⟩
theorem dta_strsD {K : PySem.W.Frag} {H : Hp} {xs : List V} {ys : List Str} {ds : List PyData} (h : DtAll K H xs (strsD ys :: ds)) : ∃ l vs, xs = .ref l :: vs ∧ SqT K H l (ys.map V.str) ∧ DtAll K H vs ds := by
  obtain ⟨v, vs, rfl, h1, h2⟩ := dta_cons h
  obtain ⟨l, rfl, h3⟩ := strsD_of h1
  exact ⟨l, vs, rfl, h3, h2⟩
theorem two_inv {K : PySem.W.Frag} {H : Hp} {v : V} {s z : Str} (h : Dt K H v (.tuple [.str s, .str z])) : ∃ a, v = .ref a ∧ SqT K H a [.str s, .str z] := by
  obtain ⟨a, xs, e, h1, h2⟩ := dt_tup h
  obtain ⟨ys, e2, h3⟩ := dta_one h2
  obtain ⟨zs, e3, h4⟩ := dta_one h3
  have e4 := dta_nil h4
  rw [e4] at e3
  rw [e3] at e2
  rw [e2] at h1
  exact ⟨a, e, h1⟩
theorem three_inv {K : PySem.W.Frag} {H : Hp} {v : V} {s z w : Str} (h : Dt K H v (.tuple [.str s, .str z, .str w])) : ∃ a, v = .ref a ∧ SqT K H a [.str s, .str z, .str w] := by
  obtain ⟨a, xs, e, h1, h2⟩ := dt_tup h
  obtain ⟨ys, e2, h3⟩ := dta_one h2
  obtain ⟨zs, e3, h4⟩ := dta_one h3
  obtain ⟨us, e4, h5⟩ := dta_one h4
  have e5 := dta_nil h5
  rw [e5] at e4
  rw [e4] at e3
  rw [e3] at e2
  rw [e2] at h1
  exact ⟨a, e, h1⟩
theorem ActAt.of {K : PySem.W.Frag} {H : Hp} {v : V} {x : Action} (h : Dt K H v x.d) : ∃ a, v = .ref a ∧ ActAt K H a x := by
  cases x with
  | write p ls =>
    obtain ⟨a, xs, e, h1, h2⟩ := dt_tup h
    obtain ⟨ys, e2, h3⟩ := dta_one h2
    obtain ⟨zs, e3, h4⟩ := dta_one h3
    obtain ⟨l, us, e4, g1, h5⟩ := dta_strsD h4
    have e5 := dta_nil h5
    rw [e5] at e4
    rw [e4] at e3
    rw [e3] at e2
    rw [e2] at h1
    exact ⟨a, e, l, h1, g1⟩
  | splice p old new =>
    obtain ⟨a, xs, e, h1, h2⟩ := dt_tup h
    obtain ⟨ys, e2, h3⟩ := dta_one h2
    obtain ⟨zs, e3, h4⟩ := dta_one h3
    obtain ⟨l, us, e4, g1, h5⟩ := dta_strsD h4
    obtain ⟨m, ws, e5, g2, h6⟩ := dta_strsD h5
    have e6 := dta_nil h6
    rw [e6] at e5
    rw [e5] at e4
    rw [e4] at e3
    rw [e3] at e2
    rw [e2] at h1
    exact ⟨a, e, l, m, h1, g1, g2⟩
  | find z w => exact three_inv h
  | move z w => exact three_inv h
  | _ => exact two_inv h
theorem place_ok {z : Str} (h : isPlaceS z = true) : okS z = true := by
  unfold isPlaceS at h
  rw [Bool.or_eq_true, decide_eq_true_eq] at h
  rcases h with rfl | h
  · decide +kernel
  · exact path_ok h
end K07



namespace K07
open PySem L2 Sa
section
variable {P : Program} {w : World} {K : PySem.W.Frag} {mg : Str → Option Value} {base : Heap}
theorem sc_TextFault___init__ : FnScope ["self", "line", "column", "words"] ["self", "line", "column", "words"] (defScope s_TextFault___init__) := ⟨rfl, rfl, rfl, by decide +kernel, rfl, by decide +kernel, by decide +kernel⟩
theorem bn_TextFault___init__ : BindM "__init__" "TextFault.__init__" s_TextFault___init__ ["self", "line", "column", "words"] := fun _ _ _ _ _ _ us hl => match us, hl with | [_, _, _, _], _ => rfl
theorem b_tft (T : TX K mg) : BodyM P w K mg base "TextFault" "__init__" "TextFault.__init__" s_TextFault___init__ ["self", "line", "column", "words"] 1 (spInit3 K (He.ga K "TextFault") "line" "column" "words") := by
  intro cdv A outer s H vs Q E h X hr
  obtain ⟨a, u, v, x, rfl, ha, q⟩ := h
  refine ⟨_, (pss_cons (ps_ost (pv 0) (pv 1)) (pss_cons (ps_ost (pv 0) (pv 2)) (pss_one (ps_ost (pv 0) (pv 3))))), ?_⟩
  have hc := T.oex 4
  have n1 := He.noat_ok (T.fact 70)
  have n2 := He.noat_ok (T.fact 71)
  have n3 := He.noat_ok (T.fact 72)
  walk_at "st"
  refine c_ost ?_
  walk_at "st"
  refine ⟨a, He.ga K "TextFault", rfl, hc, n1, .inl ⟨ha, fun dx h1 h2 => ?_⟩⟩
  walk_at "st"
  refine c_ost ?_
  walk_at "st"
  refine ⟨a, He.ga K "TextFault", rfl, hc, n2, .inr ⟨dx, _, upd_same, by rw [upd_ne h2, upd_same], by simp, ?_⟩⟩
  dsimp only
  refine c_ost ?_
  walk_at "st"
  refine ⟨a, He.ga K "TextFault", rfl, hc, n3, .inr ⟨dx, _, by rw [upd_ne h2.symm, upd_same], upd_same, by simp, ?_⟩⟩
  exact q dx h1 h2
theorem E_TextFault (T : TX K mg) : ErrC3 P w K mg base "TextFault" "line" "column" "words" :=
  ⟨T.glo 7, T.oex 4, T.xfc 5, He.noat_ok (T.fact 70), He.noat_ok (T.fact 71), He.noat_ok (T.fact 72), _,
    meth_of T 30 47 sc_TextFault___init__ bn_TextFault___init__ (fun vs H Q E h => by obtain ⟨b, d, _, _, rfl, _⟩ := h; rfl) (b_tft T)⟩
end
local macro_rules | `(tactic| walk_at "s1") => `(tactic| (with_reducible apply c_raiseE3))
end K07



namespace K07
open PySem L2 Sa
structure Tok where
  kind : Str
  text : Str
  line : Int
  col : Int
structure Flt where
  line : Int
  col : Int
  words : Str
def signsL : List Nat := (PySem.Str.ofString "()[]").cps.toList
def endsL : List Nat := (PySem.Str.ofString " \n()[]\"").cps.toList
inductive Md where
  | nrm | wd (w : List Nat) (l c : Int) | quo (q : List Nat) (l c : Int)
def wordT (w : List Nat) (l c : Int) : Tok := ⟨"word", txt w, l, c⟩
def quoT (w : List Nat) (l c : Int) : Tok := ⟨"quoted", txt w, l, c⟩
def signT (x : Nat) (l c : Int) : Tok := ⟨"sign", txt [x], l, c⟩
def endT (l c : Int) : Tok := ⟨"end", "", l, c⟩
def fresh (x : Nat) (l c : Int) : List Tok × Md :=
  if x = 10 then ([], .nrm) else if x = 34 then ([], .quo [] l c) else if x ∈ signsL then ([signT x l c], .nrm) else if x = 32 then ([], .nrm) else ([], .wd [x] l c)
def stepM (m : Md) (x : Nat) (l c : Int) : Option (List Tok × Md) := match m with
  | .nrm => some (fresh x l c)
  | .wd w l0 c0 => if x ∈ endsL then some (wordT w l0 c0 :: (fresh x l c).1, (fresh x l c).2) else some ([], .wd (w ++ [x]) l0 c0)
  | .quo q l0 c0 => if x = 34 then some ([quoT q l0 c0], .nrm) else if x = 10 then none else some ([], .quo (q ++ [x]) l0 c0)
def lastM (m : Md) (l c : Int) : Except Flt (List Tok) := match m with
  | .nrm => .ok [endT l c]
  | .wd w l0 c0 => .ok [wordT w l0 c0, endT l c]
  | .quo _ _ _ => .error ⟨l, c, "text is not closed"⟩
def nxL (x : Nat) (l : Int) : Int := if x = 10 then l + 1 else l
def nxC (x : Nat) (c : Int) : Int := if x = 10 then 1 else c + 1
def spl : Md → List Nat → Int → Int → Except Flt (List Tok)
  | m, [], l, c => lastM m l c
  | m, x :: r, l, c => match stepM m x l c with
    | none => .error ⟨l, c, "text is not closed"⟩
    | some (es, m') => (spl m' r (nxL x l) (nxC x c)).map (es ++ ·)
theorem map_nil (e : Except Flt (List Tok)) : e.map (([] : List Tok) ++ ·) = e := by cases e <;> rfl
theorem map_app (e : Except Flt (List Tok)) (a b : List Tok) : (e.map (b ++ ·)).map (a ++ ·) = e.map ((a ++ b) ++ ·) := by
  cases e with
  | error f => rfl
  | ok ts => show Except.ok (a ++ (b ++ ts)) = Except.ok ((a ++ b) ++ ts); rw [List.append_assoc]
def quoB (x : Nat) : Bool := decide (x ≠ 34) && decide (x ≠ 10)
def wdB (x : Nat) : Bool := !decide (x ∈ endsL)
theorem spl_step {m m' : Md} {x : Nat} {r : List Nat} {l c : Int} {es : List Tok} (e : stepM m x l c = some (es, m')) : spl m (x :: r) l c = (spl m' r (nxL x l) (nxC x c)).map (es ++ ·) := by rw [spl, e]
theorem spl_none {m : Md} {x : Nat} {r : List Nat} {l c : Int} (e : stepM m x l c = none) : spl m (x :: r) l c = .error ⟨l, c, "text is not closed"⟩ := by rw [spl, e]
theorem spl_nl {r : List Nat} {l c : Int} : spl .nrm (10 :: r) l c = spl .nrm r (l + 1) 1 := by
  show (spl .nrm r (l + 1) 1).map ([] ++ ·) = _
  exact map_nil _
theorem spl_sp {r : List Nat} {l c : Int} : spl .nrm (32 :: r) l c = spl .nrm r l (c + 1) := by
  have e : stepM .nrm 32 l c = some ([], .nrm) := by
    show some (fresh 32 l c) = _
    unfold fresh
    rw [if_neg (by decide), if_neg (by decide), if_neg (by decide +kernel), if_pos rfl]
  rw [spl_step e]
  exact map_nil _
theorem signs_ne {x : Nat} (h : x ∈ signsL) : x ≠ 10 ∧ x ≠ 34 ∧ x ≠ 32 := (by decide +kernel : ∀ x ∈ signsL, x ≠ 10 ∧ x ≠ 34 ∧ x ≠ 32) x h
theorem spl_sg {x : Nat} {r : List Nat} {l c : Int} (h : x ∈ signsL) : spl .nrm (x :: r) l c = (spl .nrm r l (c + 1)).map ([signT x l c] ++ ·) := by
  obtain ⟨h1, h2, h3⟩ := signs_ne h
  have e : stepM .nrm x l c = some ([signT x l c], .nrm) := by
    show some (fresh x l c) = _
    unfold fresh
    rw [if_neg h1, if_neg h2, if_pos h]
  rw [spl_step e]
  show (spl .nrm r (nxL x l) (nxC x c)).map _ = _
  unfold nxL nxC
  rw [if_neg h1, if_neg h1]
theorem spl_q0 {r : List Nat} {l c : Int} : spl .nrm (34 :: r) l c = spl (.quo [] l c) r l (c + 1) := by
  show (spl (.quo [] l c) r l (c + 1)).map ([] ++ ·) = _
  exact map_nil _
theorem ends_iff {x : Nat} : x ∈ endsL ↔ x = 32 ∨ x = 10 ∨ x = 34 ∨ x ∈ signsL := by
  have e1 : endsL = [32, 10, 40, 41, 91, 93, 34] := by decide +kernel
  have e2 : signsL = [40, 41, 91, 93] := by decide +kernel
  rw [e1, e2]
  simp only [List.mem_cons, List.not_mem_nil, or_false]
  omega
theorem spl_w0 {x : Nat} {r : List Nat} {l c : Int} (h : x ∉ endsL) : spl .nrm (x :: r) l c = spl (.wd [x] l c) r l (c + 1) := by
  have h' := h
  rw [ends_iff] at h'
  simp only [not_or] at h'
  obtain ⟨h1, h2, h3, h4⟩ := h'
  have e : stepM .nrm x l c = some ([], .wd [x] l c) := by
    show some (fresh x l c) = _
    unfold fresh
    rw [if_neg h2, if_neg h3, if_neg h4, if_neg h1]
  rw [spl_step e]
  show (spl (.wd [x] l c) r (nxL x l) (nxC x c)).map ([] ++ ·) = _
  rw [map_nil]
  unfold nxL nxC
  rw [if_neg h2, if_neg h2]
theorem spl_wd : ∀ (r w : List Nat) (l0 c0 l c : Int), spl (.wd w l0 c0) r l c = (spl .nrm (r.dropWhile wdB) l (c + (r.takeWhile wdB).length)).map ([wordT (w ++ r.takeWhile wdB) l0 c0] ++ ·)
  | [], w, l0, c0, l, c => by
    show lastM _ l c = _
    rw [List.takeWhile_nil, List.dropWhile_nil, List.append_nil]
    show Except.ok [wordT w l0 c0, endT l c] = Except.ok ([wordT w l0 c0] ++ [endT l (c + ((0 : Nat) : Int))])
    rw [show c + ((0 : Nat) : Int) = c from by omega]
    rfl
  | x :: r, w, l0, c0, l, c => by
    by_cases h : x ∈ endsL
    · have hb : wdB x = false := by unfold wdB; simp [h]
      rw [List.takeWhile_cons, List.dropWhile_cons, hb]
      simp only [Bool.false_eq_true, if_false, List.append_nil, List.length_nil]
      rw [show c + ((0 : Nat) : Int) = c from by omega]
      have e : stepM (.wd w l0 c0) x l c = some (wordT w l0 c0 :: (fresh x l c).1, (fresh x l c).2) := by
        show (if x ∈ endsL then _ else _) = _
        rw [if_pos h]
      rw [spl_step e]
      show (spl (fresh x l c).2 r (nxL x l) (nxC x c)).map ((wordT w l0 c0 :: (fresh x l c).1) ++ ·) = ((spl (fresh x l c).2 r (nxL x l) (nxC x c)).map ((fresh x l c).1 ++ ·)).map ([wordT w l0 c0] ++ ·)
      rw [map_app]
      rfl
    · have hb : wdB x = true := by unfold wdB; simp [h]
      have hx : x ≠ 10 := fun e => h (ends_iff.mpr (.inr (.inl e)))
      rw [List.takeWhile_cons, List.dropWhile_cons, hb]
      simp only [if_true]
      have e : stepM (.wd w l0 c0) x l c = some ([], .wd (w ++ [x]) l0 c0) := by
        show (if x ∈ endsL then _ else _) = _
        rw [if_neg h]
      rw [spl_step e]
      show (spl (.wd (w ++ [x]) l0 c0) r (nxL x l) (nxC x c)).map ([] ++ ·) = _
      rw [map_nil, spl_wd r (w ++ [x]) l0 c0]
      unfold nxL nxC
      rw [if_neg hx, if_neg hx, List.append_assoc, List.length_cons]
      have : c + 1 + ((r.takeWhile wdB).length : Int) = c + (((r.takeWhile wdB).length + 1 : Nat) : Int) := by omega
      rw [this]
      rfl
def quoR (q r : List Nat) (l0 c0 l c : Int) : Except Flt (List Tok) := match r.dropWhile quoB with
  | 34 :: r' => (spl .nrm r' l (c + (r.takeWhile quoB).length + 1)).map ([quoT (q ++ r.takeWhile quoB) l0 c0] ++ ·)
  | _ => .error ⟨l, c + (r.takeWhile quoB).length, "text is not closed"⟩
theorem spl_quo : ∀ (r q : List Nat) (l0 c0 l c : Int), spl (.quo q l0 c0) r l c = quoR q r l0 c0 l c
  | [], q, l0, c0, l, c => by
    show Except.error (⟨l, c, _⟩ : Flt) = Except.error (⟨l, c + ((0 : Nat) : Int), _⟩ : Flt)
    rw [show c + ((0 : Nat) : Int) = c from by omega]
  | x :: r, q, l0, c0, l, c => by
    unfold quoR
    by_cases h : x = 34
    · subst h
      have hb : quoB 34 = false := rfl
      rw [List.takeWhile_cons, List.dropWhile_cons, hb]
      simp only [Bool.false_eq_true, if_false, List.append_nil, List.length_nil]
      show (spl .nrm r l (c + 1)).map ([quoT q l0 c0] ++ ·) = _
      rw [show c + ((0 : Nat) : Int) + 1 = c + 1 from by omega]
    · by_cases h2 : x = 10
      · subst h2
        have hb : quoB 10 = false := rfl
        rw [List.takeWhile_cons, List.dropWhile_cons, hb]
        show Except.error (⟨l, c, _⟩ : Flt) = Except.error (⟨l, c + ((0 : Nat) : Int), _⟩ : Flt)
        rw [show c + ((0 : Nat) : Int) = c from by omega]
      · have hb : quoB x = true := by unfold quoB; simp [h, h2]
        rw [List.takeWhile_cons, List.dropWhile_cons, hb]
        simp only [if_true]
        have e : stepM (.quo q l0 c0) x l c = some ([], .quo (q ++ [x]) l0 c0) := by
          show (if x = 34 then _ else if x = 10 then _ else _) = _
          rw [if_neg h, if_neg h2]
        rw [spl_step e]
        show (spl (.quo (q ++ [x]) l0 c0) r (nxL x l) (nxC x c)).map ([] ++ ·) = _
        rw [map_nil, spl_quo r (q ++ [x]) l0 c0]
        unfold nxL nxC quoR
        rw [if_neg h2, if_neg h2, List.append_assoc, List.length_cons]
        have : c + 1 + ((r.takeWhile quoB).length : Int) = c + (((r.takeWhile quoB).length + 1 : Nat) : Int) := by omega
        rw [this]
        rfl
def Fin (ts : List Tok) : Prop := ∃ (us : List Tok) (l c : Int), ts = us ++ [endT l c]
theorem Fin.app {us ts : List Tok} (h : Fin ts) : Fin (us ++ ts) := by
  obtain ⟨vs, l, c, rfl⟩ := h
  exact ⟨us ++ vs, l, c, by rw [List.append_assoc]⟩
theorem Fin.ne {ts : List Tok} (h : Fin ts) : ts ≠ [] := by
  obtain ⟨vs, l, c, rfl⟩ := h
  simp
theorem Fin.tail {t : Tok} {ts : List Tok} (h : Fin (t :: ts)) (hk : t.kind ≠ "end") : Fin ts := by
  obtain ⟨vs, l, c, e⟩ := h
  cases vs with
  | nil =>
    simp only [List.nil_append, List.cons.injEq] at e
    rw [e.1] at hk
    exact absurd rfl hk
  | cons v r =>
    simp only [List.cons_append, List.cons.injEq] at e
    exact ⟨r, l, c, e.2⟩
theorem spl_fin : ∀ {m : Md} {r : List Nat} {l c : Int} {ts : List Tok}, spl m r l c = .ok ts → Fin ts
  | m, [], l, c, ts, h => by
    have h : lastM m l c = .ok ts := h
    cases m with
    | nrm => injection h with h; exact ⟨[], l, c, h.symm⟩
    | wd w l0 c0 => injection h with h; exact ⟨[wordT w l0 c0], l, c, h.symm⟩
    | quo q l0 c0 => cases h
  | m, x :: r, l, c, ts, h => by
    cases e : stepM m x l c with
    | none => rw [spl_none e] at h; cases h
    | some p =>
      obtain ⟨es, m'⟩ := p
      rw [spl_step e] at h
      cases e2 : spl m' r (nxL x l) (nxC x c) with
      | error f => rw [e2] at h; cases h
      | ok us =>
        rw [e2] at h
        injection h with h
        rw [← h]
        exact (spl_fin e2).app
end K07



namespace K07
open PySem L2 Sa
local macro_rules | `(tactic| walk_at "s1") => `(tactic| first | (with_reducible apply c_dgetK))
local macro_rules | `(tactic| walk_at "s1") => `(tactic| (with_reducible apply c_raiseO))
local macro_rules | `(tactic| walk_at "s1") => `(tactic| first | (with_reducible apply c_dgetK))
local macro_rules | `(tactic| walk_at "s1") => `(tactic| (with_reducible apply c_raiseO))
local macro_rules | `(tactic| walk_at "s1") => `(tactic| first | (with_reducible apply c_un) | (with_reducible apply c_negI))
local macro_rules | `(tactic| walk_at "s1") => `(tactic| (with_reducible apply c_raiseE3))
set_option pp.maxSteps 1500
def fltX (f : Flt) : List (Str × V) := [("words", .str f.words), ("column", .int f.col), ("line", .int f.line)]
def FltE (K : PySem.W.Frag) (E : XK) (ms : List Addr) (H : Hp) (f : Flt) : Prop := ∀ H1 d H', Kp ms H H1 → Kt H H1 → New H1 d (.xd (fltX f)) H' → E (.ref (He.ga K "TextFault")) (some d) H'
theorem FltE.kp {K : PySem.W.Frag} {E : XK} {ms : List Addr} {H H1 : Hp} {f : Flt} (h : FltE K E ms H f) (e : Kp ms H H1) (t : Kt H H1) : FltE K E ms H1 f := fun H2 d H3 e2 t2 N => h H2 d H3 (e.trans e2) (t.trans t2) N
theorem FltE.kp0 {K : PySem.W.Frag} {E : XK} {ms : List Addr} {H H1 : Hp} {f : Flt} (h : FltE K E ms H f) (e : Kp [] H H1) : FltE K E ms H1 f := h.kp e.mono e.kt
theorem tw_at {p : Nat → Bool} : ∀ {r : List Nat} {k : Nat}, k ≤ (r.takeWhile p).length →
    (k < (r.takeWhile p).length ∧ ∃ x, r[k]? = some x ∧ p x = true) ∨ (k = (r.takeWhile p).length ∧ ((r[k]? = none ∧ r.dropWhile p = []) ∨ ∃ x, r[k]? = some x ∧ p x = false ∧ ∃ r', r.dropWhile p = x :: r'))
  | [], k, h => .inr ⟨by simpa using h, .inl ⟨rfl, rfl⟩⟩
  | x :: r, k, h => by
    cases e : p x with
    | false =>
      rw [List.takeWhile_cons, e] at h ⊢
      simp only [Bool.false_eq_true, if_false, List.length_nil, Nat.le_zero_eq] at h
      subst h
      exact .inr ⟨rfl, .inr ⟨x, rfl, e, r, by rw [List.dropWhile_cons, e]; rfl⟩⟩
    | true =>
      have e1 : (x :: r).takeWhile p = x :: r.takeWhile p := by rw [List.takeWhile_cons, e]; rfl
      have e2 : (x :: r).dropWhile p = r.dropWhile p := by rw [List.dropWhile_cons, e]; rfl
      rw [e1] at h ⊢
      rw [e2]
      cases k with
      | zero => exact .inl ⟨by simp, x, rfl, e⟩
      | succ k =>
        rw [List.length_cons] at h
        rw [List.length_cons]
        rcases tw_at (p := p) (r := r) (k := k) (by omega) with ⟨h1, h2⟩ | ⟨h1, h2⟩
        · exact .inl ⟨by omega, h2⟩
        · exact .inr ⟨by omega, h2⟩
theorem tw_len {p : Nat → Bool} : ∀ r : List Nat, (r.takeWhile p).length ≤ r.length
  | [] => Nat.le_refl _
  | x :: r => by
    cases e : p x with
    | false => rw [List.takeWhile_cons, e]; simp
    | true => rw [List.takeWhile_cons, e]; simp only [if_true, List.length_cons]; have := tw_len (p := p) r; omega
theorem at_drop {xs : List Nat} {n k : Nat} : (xs.drop n)[k]? = xs[n + k]? := by rw [List.getElem?_drop]
theorem one_inj {x y : Nat} (e : (⟨#[x]⟩ : Str) = ⟨#[y]⟩) : x = y := by injection e with e; injection e with e; injection e
section
variable {P : Program} {w : World} {K : PySem.W.Frag} {mg : Str → Option Value} {base : Heap}
def spQE (K : PySem.W.Frag) : Sp := fun vs H Q E => ∃ (z : Str) (n : Nat) (l f : Int), vs = [.str z, .int n, .int l, .int f] ∧ z.length ≤ 8000 ∧ n < z.length ∧
  ((∃ r', (z.cps.toList.drop (n + 1)).dropWhile quoB = 34 :: r') → Q (.int ((n + 1 + ((z.cps.toList.drop (n + 1)).takeWhile quoB).length : Nat) : Int)) H) ∧
  ((¬ ∃ r', (z.cps.toList.drop (n + 1)).dropWhile quoB = 34 :: r') → FltE K E [] H ⟨l, ((n + 1 + ((z.cps.toList.drop (n + 1)).takeWhile quoB).length : Nat) : Int) - f + 1, "text is not closed"⟩)
theorem sc__quote_end : FnScope ["text", "at", "line", "first", "end"] ["text", "at", "line", "first"] (defScope s__quote_end) := ⟨rfl, rfl, rfl, by decide +kernel, rfl, by decide +kernel, by decide +kernel⟩
theorem bn__quote_end : BindN "_quote_end" s__quote_end ["text", "at", "line", "first"] := fun _ _ _ _ _ _ us hl => match us, hl with | [_, _, _, _], _ => rfl
theorem b__quote_end (T : TX K mg) : BodyX P w K mg base "_quote_end" s__quote_end ["text", "at", "line", "first", "end"] 3 (spQE K) := by
  intro cdv A outer s H vs Q E h X hr tk
  obtain ⟨z, n, l, f, rfl, hz, hn, q, qe⟩ := h
  have E_TextFault := E_TextFault (P := P) (w := w) (base := base) T
  refine ⟨_, (pss_cons (ps_set (i := 4) sc__quote_end.nd rfl (Or.inl rfl) (pe_op (op_addU (K := K)) (pv 1) pe_int)) (Evl.pss_cut (ps_while (passes_of rfl) (PW.pt (pw_and (pt_cmpR op_ltU (pv 4) (pe_callB (cr_len (K := K)) rfl (T.free 2) PySem.boot_len (pa_cons (pv 0) pa_nil)) (nomark _)) (pw_and (pt_cmpR (op_neU (K := K) hr.units) (pe_ix (ix_U (K := K)) (pv 0) (pv 4) (fun _ _ => rfl)) pe_str (nomark _)) (pw_and1 (pt_cmpR (op_neU (K := K) hr.units) (pe_ix (ix_U (K := K)) (pv 0) (pv 4) (fun _ _ => rfl)) pe_str (nomark _)))))) (pss_one (ps_set (i := 4) sc__quote_end.nd rfl (Or.inl rfl) (pe_op (op_addU (K := K)) (pv 4) pe_int)))) (pss_cons (ps_if (PW.pt (pw_or (pt_cmpR (op_eqU (K := K) hr.units) (pv 4) (pe_callB (cr_len (K := K)) rfl (T.free 2) PySem.boot_len (pa_cons (pv 0) pa_nil)) (nomark _)) (pw_or1 (pt_cmpR (op_neU (K := K) hr.units) (pe_ix (ix_U (K := K)) (pv 0) (pv 4) (fun _ _ => rfl)) pe_str (nomark _))))) (pss_one (ps_raiseE3 (K := K) E_TextFault hr tk (pa_cons (pv 2) (pa_cons (pe_op (op_addU (K := K)) (pe_op op_subU (pv 4) (pv 3)) pe_int) (pa_cons pe_str pa_nil))))) pss_nil) (pss_one (ps_ret (pv 4)))))), ?_⟩
  have zl : z.length = z.cps.toList.length := rfl
  have hs : z.length ≤ sizeLine := by rw [sizeLine_eq]; omega
  generalize er : z.cps.toList.drop (n + 1) = r at q qe
  have rl : r.length = z.length - (n + 1) := by rw [← er, List.length_drop, zl]
  have hat : ∀ {k x : Nat}, r[k]? = some x → atI z.cps.toList ((n + 1 + k : Nat) : Int) = some x := fun h => atI_nat (by rw [← at_drop, er]; exact h)
  walk_at "st"
  refine c_cut (fun σ' H' => σ' = [some (.str z), some (.int n), some (.int l), some (.int f), some (.int ((n + 1 + (r.takeWhile quoB).length : Nat) : Int))] ∧ H' = H) ?_ ?_
  · refine c_while (fun m σ' H' => ∃ k : Nat, k ≤ (r.takeWhile quoB).length ∧ m + k = (r.takeWhile quoB).length ∧ σ' = [some (.str z), some (.int n), some (.int l), some (.int f), some (.int ((n + 1 + k : Nat) : Int))] ∧ H' = H) (r.takeWhile quoB).length ⟨0, Nat.zero_le _, rfl, rfl, rfl⟩ ?_
    rintro m _ _ ⟨k, hk, hm, rfl, rfl⟩
    walk_at "st"
    have twl := tw_len (p := quoB) r
    rcases tw_at hk with ⟨h1, x, h2, h3⟩ | ⟨h1, ⟨h2, h3⟩ | ⟨x, h2, h3, r', h4⟩⟩
    · have : k < r.length := by omega
      refine c_iteT (by rw [decide_eq_true_eq]; omega) ?_
      unfold quoB at h3
      simp only [Bool.and_eq_true, decide_eq_true_eq] at h3
      walk_at "st"
      refine c_ixS hs (hat h2) ?_
      walk_at "st"
      refine c_iteT (by simp only [Bool.not_eq_true', decide_eq_false_iff_not]; exact fun e => h3.1 (one_inj e)) ?_
      walk_at "st"
      refine c_ixS hs (hat h2) ?_
      walk_at "st"
      refine c_iteT (by simp only [Bool.not_eq_true', decide_eq_false_iff_not]; exact fun e => h3.2 (one_inj e)) ?_
      refine c_turn ?_
      walk_at "st"
      exact ⟨m - 1, by omega, k + 1, by omega, by omega, by rw [show ((n + 1 + k : Nat) : Int) + 1 = ((n + 1 + (k + 1) : Nat) : Int) from by omega]; rfl, rfl⟩
    · have : r.length ≤ k := List.getElem?_eq_none_iff.mp h2
      refine c_iteF (by rw [decide_eq_false_iff_not]; omega) ?_
      walk_at "st"
      exact ⟨by rw [h1], rfl⟩
    · have hkr : k < r.length := (List.getElem?_eq_some_iff.mp h2).1
      refine c_iteT (by rw [decide_eq_true_eq]; omega) ?_
      walk_at "st"
      refine c_ixS hs (hat h2) ?_
      walk_at "st"
      by_cases hx : x = 34
      · subst hx
        refine c_iteF (by rfl) ?_
        walk_at "st"
        exact ⟨by rw [h1], rfl⟩
      · refine c_iteT (by simp only [Bool.not_eq_true', decide_eq_false_iff_not]; exact fun e => hx (one_inj e)) ?_
        walk_at "st"
        refine c_ixS hs (hat h2) ?_
        walk_at "st"
        have hx2 : x = 10 := by
          unfold quoB at h3
          simp only [Bool.and_eq_false_iff, decide_eq_false_iff_not, Decidable.not_not] at h3
          exact h3.resolve_left hx
        subst hx2
        refine c_iteF (by rfl) ?_
        walk_at "st"
        exact ⟨by rw [h1], rfl⟩
  · rintro _ _ ⟨rfl, rfl⟩
    walk_at "st"
    rcases tw_at (p := quoB) (Nat.le_refl (r.takeWhile quoB).length) with ⟨h1, _⟩ | ⟨_, ⟨h2, h3⟩ | ⟨x, h2, h3, r', h4⟩⟩
    · omega
    · have : r.length ≤ (r.takeWhile quoB).length := List.getElem?_eq_none_iff.mp h2
      have := tw_len (p := quoB) r
      refine c_iteT (by rw [decide_eq_true_eq]; omega) ?_
      walk_at "st"
      refine c_err3 fun d H1 N => ?_
      exact qe (fun ⟨r', e⟩ => by rw [h3] at e; cases e) _ d H1 Kp.refl Kt.refl N
    · have hkr := (List.getElem?_eq_some_iff.mp h2).1
      refine c_iteF (by rw [decide_eq_false_iff_not]; omega) ?_
      walk_at "st"
      refine c_ixS hs (hat h2) ?_
      walk_at "st"
      by_cases hx : x = 34
      · subst hx
        refine c_iteF (by rfl) ?_
        walk_at "st"
        exact q ⟨r', h4⟩
      · refine c_iteT (by simp only [Bool.not_eq_true', decide_eq_false_iff_not]; exact fun e => hx (one_inj e)) ?_
        walk_at "st"
        refine c_err3 fun d H1 N => ?_
        exact qe (fun ⟨r'', e⟩ => by rw [h4] at e; injection e with e1 _; exact hx e1) _ d H1 Kp.refl Kt.refl N
theorem D__quote_end (T : TX K mg) : DefAt P w K mg base (L2.CX P w) "_quote_end" 4 ["text", "at", "line", "first"] (spQE K) :=
  def_ofX T 2 8 sc__quote_end bn__quote_end (by walk_at "len") (b__quote_end T)
def spWE : Sp := fun vs H Q _ => ∃ (z : Str) (n : Nat), vs = [.str z, .int n] ∧ z.length ≤ 8000 ∧ n ≤ z.length ∧ Q (.int ((n + ((z.cps.toList.drop n).takeWhile wdB).length : Nat) : Int)) H
theorem sc__word_end : FnScope ["text", "at"] ["text", "at"] (defScope s__word_end) := ⟨rfl, rfl, rfl, by decide +kernel, rfl, by decide +kernel, by decide +kernel⟩
theorem bn__word_end : BindN "_word_end" s__word_end ["text", "at"] := fun _ _ _ _ _ _ us hl => match us, hl with | [_, _], _ => rfl
theorem b__word_end (T : TX K mg) : Body P w K mg base "_word_end" s__word_end ["text", "at"] 1 (spWE) := by
  intro cdv A outer s H vs Q E h X hr
  obtain ⟨z, n, rfl, hz, hn, q⟩ := h
  refine ⟨_, (pss_cons (ps_while PassesOwn.never (PW.pt (pw_and (pt_cmpR op_ltU (pv 1) (pe_callB (cr_len (K := K)) rfl (T.free 2) PySem.boot_len (pa_cons (pv 0) pa_nil)) (nomark _)) (pw_and1 (pt_cmpR (op_notInU (K := K)) (pe_ix (ix_U (K := K)) (pv 0) (pv 1) (fun _ _ => rfl)) (pe_gStr (T.str 9)) rfl)))) (pss_one (ps_set (i := 1) sc__word_end.nd rfl (Or.inl rfl) (pe_op (op_addU (K := K)) (pv 1) pe_int)))) (pss_one (ps_ret (pv 1)))), ?_⟩
  have zl : z.length = z.cps.toList.length := rfl
  have hs : z.length ≤ sizeLine := by rw [sizeLine_eq]; omega
  generalize er : z.cps.toList.drop n = r at q
  have rl : r.length = z.length - n := by rw [← er, List.length_drop, zl]
  have hat : ∀ {k x : Nat}, r[k]? = some x → atI z.cps.toList ((n + k : Nat) : Int) = some x := fun h => atI_nat (by rw [← at_drop, er]; exact h)
  have twl := tw_len (p := wdB) r
  walk_at "st"
  refine c_while (fun m σ' H' => ∃ k : Nat, k ≤ (r.takeWhile wdB).length ∧ m + k = (r.takeWhile wdB).length ∧ σ' = [some (.str z), some (.int ((n + k : Nat) : Int))] ∧ H' = H) (r.takeWhile wdB).length ⟨0, Nat.zero_le _, rfl, rfl, rfl⟩ ?_
  rintro m _ _ ⟨k, hk, hm, rfl, rfl⟩
  walk_at "st"
  rcases tw_at hk with ⟨h1, x, h2, h3⟩ | ⟨h1, ⟨h2, h3⟩ | ⟨x, h2, h3, r', h4⟩⟩
  · refine c_iteT (by rw [decide_eq_true_eq]; omega) ?_
    unfold wdB at h3
    walk_at "st"
    refine c_ixS hs (hat h2) ?_
    walk_at "st"
    refine c_iteT h3 ?_
    refine c_turn ?_
    walk_at "st"
    exact ⟨m - 1, by omega, k + 1, by omega, by omega, by rw [show ((n + k : Nat) : Int) + 1 = ((n + (k + 1) : Nat) : Int) from by omega]; rfl, rfl⟩
  · have : r.length ≤ k := List.getElem?_eq_none_iff.mp h2
    refine c_iteF (by rw [decide_eq_false_iff_not]; omega) ?_
    walk_at "st"
    rw [h1]
    exact q
  · have hkr : k < r.length := (List.getElem?_eq_some_iff.mp h2).1
    refine c_iteT (by rw [decide_eq_true_eq]; omega) ?_
    walk_at "st"
    refine c_ixS hs (hat h2) ?_
    walk_at "st"
    refine c_iteF h3 ?_
    walk_at "st"
    rw [h1]
    exact q
theorem D__word_end (T : TX K mg) : DefAt P w K mg base CX0 "_word_end" 2 ["text", "at"] (spWE) :=
  def_of T 3 10 sc__word_end bn__word_end (by walk_at "len") (b__word_end T)
def TokAt (K : PySem.W.Frag) (H : Hp) (v : V) (t : Tok) : Prop := ∃ p, v = .ref p ∧ SqT K H p [.str t.kind, .str t.text, .int t.line, .int t.col] ∧ okS t.kind = true ∧ okS t.text = true ∧ t.text.length ≤ 8000
inductive TkAll (K : PySem.W.Frag) (H : Hp) : List V → List Tok → Prop
  | nil : TkAll K H [] []
  | cons {v : V} {t : Tok} {xs : List V} {ts : List Tok} : TokAt K H v t → TkAll K H xs ts → TkAll K H (v :: xs) (t :: ts)
theorem TkAll.kt {H H' : Hp} (e : Kt H H') : ∀ {xs : List V} {ts : List Tok}, TkAll K H xs ts → TkAll K H' xs ts
  | _, _, .nil => .nil
  | _, _, .cons ⟨p, h1, h2, h3⟩ h => .cons ⟨p, h1, SqT.kt e h2, h3⟩ (h.kt e)
theorem TkAll.snoc {H : Hp} {v : V} {t : Tok} (h : TokAt K H v t) : ∀ {xs : List V} {ts : List Tok}, TkAll K H xs ts → TkAll K H (xs ++ [v]) (ts ++ [t])
  | _, _, .nil => .cons h .nil
  | _, _, .cons h1 h2 => .cons h1 (h2.snoc h)
theorem TkAll.len {H : Hp} : ∀ {xs : List V} {ts : List Tok}, TkAll K H xs ts → xs.length = ts.length
  | _, _, .nil => rfl
  | _, _, .cons _ h => by rw [List.length_cons, List.length_cons, h.len]
theorem TkAll.get {H : Hp} {t : Tok} {r : List Tok} : ∀ {xs : List V} {ts : List Tok} {k : Nat}, TkAll K H xs ts → ts.drop k = t :: r → ∃ v, xs[k]? = some v ∧ TokAt K H v t
  | _, _, 0, .cons h1 _, e => by
    simp only [List.drop_zero, List.cons.injEq] at e
    rw [← e.1]
    exact ⟨_, rfl, h1⟩
  | _, _, k + 1, .cons _ h2, e => h2.get (k := k) e
  | _, _, k, .nil, e => by simp at e
structure SplI (K : PySem.W.Frag) (z : Str) (H : Hp) (l : Addr) (n : Nat) (ln f : Int) (xs : List V) (H' : Hp) : Prop where
  fr : H l = none
  at_ : H' l = some (.lst xs)
  kp : Kp [] H H'
  ts : ∃ ts, TkAll K H' xs ts ∧ ts.length ≤ n ∧ spl .nrm z.cps.toList 1 1 = (spl .nrm (z.cps.toList.drop n) ln ((n : Int) - f + 1)).map (ts ++ ·)
  le : n ≤ z.length
theorem SplI.skip {z : Str} {H H' : Hp} {l : Addr} {n n' : Nat} {ln ln' f f' : Int} {xs : List V} (I : SplI K z H l n ln f xs H') (e : spl .nrm (z.cps.toList.drop n) ln ((n : Int) - f + 1) = spl .nrm (z.cps.toList.drop n') ln' ((n' : Int) - f' + 1))
    (h1 : n ≤ n') (h2 : n' ≤ z.length) : SplI K z H l n' ln' f' xs H' := by
  obtain ⟨ts, t1, t2, t3⟩ := I.ts
  exact ⟨I.fr, I.at_, I.kp, ⟨ts, t1, by omega, by rw [t3, e]⟩, h2⟩
theorem SplI.tok {z : Str} {H H' H2 : Hp} {l p : Addr} {n n' : Nat} {ln f : Int} {xs : List V} {t : Tok} (I : SplI K z H l n ln f xs H') (N : New H' p (.tup [.str t.kind, .str t.text, .int t.line, .int t.col]) H2)
    (k1 : okS t.kind = true) (k2 : okS t.text = true) (k3 : t.text.length ≤ 8000)
    (e : spl .nrm (z.cps.toList.drop n) ln ((n : Int) - f + 1) = (spl .nrm (z.cps.toList.drop n') ln ((n' : Int) - f + 1)).map ([t] ++ ·)) (h1 : n < n') (h2 : n' ≤ z.length) :
    SplI K z H l n' ln f (xs ++ [.ref p]) (upd H2 l (.lst (xs ++ [.ref p]))) := by
  obtain ⟨ts, t1, t2, t3⟩ := I.ts
  have hl : H2 l = some (.lst xs) := N.keep I.at_
  have kt : Kt H2 (upd H2 l (.lst (xs ++ [.ref p]))) := Kt.upd1 (NoT.lst hl)
  refine ⟨I.fr, upd_same, (I.kp.trans N.kp).fresh_mut I.fr, ⟨ts ++ [t], ?_, by rw [List.length_append, List.length_singleton]; omega, by rw [t3, e, map_app]⟩, h2⟩
  exact TkAll.snoc ⟨p, rfl, SqT.kt kt (SqT.of N.at_), k1, k2, k3⟩ ((t1.kt N.kp.kt).kt kt)
theorem okS_txt {w : List Nat} (h : ∀ x ∈ w, x < 1114112) : okS (txt w) = true := okS_iff.mpr (by rw [txt_cps]; exact h)
theorem tw_mem {p : Nat → Bool} {x : Nat} : ∀ {r : List Nat}, x ∈ r.takeWhile p → x ∈ r
  | [], h => h
  | y :: r, h => by
    rw [List.takeWhile_cons] at h
    split at h
    · rcases List.mem_cons.mp h with rfl | h
      · exact List.mem_cons_self ..
      · exact List.mem_cons_of_mem _ (tw_mem h)
    · cases h
theorem tw_drop {p : Nat → Bool} : ∀ {r : List Nat}, r.drop (r.takeWhile p).length = r.dropWhile p
  | [] => rfl
  | y :: r => by
    rw [List.takeWhile_cons, List.dropWhile_cons]
    split
    · rw [List.length_cons, List.drop_succ_cons]; exact tw_drop
    · rfl
theorem tw_take {p : Nat → Bool} : ∀ {r : List Nat}, r.take (r.takeWhile p).length = r.takeWhile p
  | [] => rfl
  | y :: r => by
    rw [List.takeWhile_cons]
    split
    · rw [List.length_cons, List.take_succ_cons, tw_take]
    · rfl
theorem cutS_mid {z : Str} {i j : Nat} (h1 : i ≤ j) (h2 : j ≤ z.length) : cutS z (some (i : Int)) (some (j : Int)) = txt ((z.cps.toList.drop i).take (j - i)) := by
  rw [txt_of z, cutS_txt, txt_cps]
  have zl : z.length = z.cps.toList.length := rfl
  rw [sIx_of (by omega), sIx_of (by omega)]
  congr 2
  · rw [Int.toNat_natCast, Int.toNat_natCast, Nat.min_eq_left (by omega), Nat.min_eq_left (by omega)]
  · rw [Int.toNat_natCast, Nat.min_eq_left (by omega)]
theorem ok_kinds : okS "quoted" = true ∧ okS "sign" = true ∧ okS "word" = true ∧ okS "end" = true ∧ okS "" = true := by decide +kernel
def spSplit (K : PySem.W.Frag) : Sp := fun vs H Q E => ∃ z : Str, vs = [.str z] ∧ z.length ≤ 8000 ∧ okS z = true ∧
  (∀ ts, spl .nrm z.cps.toList 1 1 = .ok ts → ∀ H' l xs, Kp [] H H' → H l = none → H' l = some (.lst xs) → TkAll K H' xs ts → Q (.ref l) H') ∧ (∀ f, spl .nrm z.cps.toList 1 1 = .error f → FltE K E [] H f)
theorem sc__split : FnScope ["text", "tokens", "at", "line", "first", "sign", "end"] ["text"] (defScope s__split) := ⟨rfl, rfl, rfl, by decide +kernel, rfl, by decide +kernel, by decide +kernel⟩
theorem bn__split : BindN "_split" s__split ["text"] := fun _ _ _ _ _ _ us hl => match us, hl with | [_], _ => rfl
theorem b__split (T : TX K mg) : BodyX P w K mg base "_split" s__split ["text", "tokens", "at", "line", "first", "sign", "end"] 4 (spSplit K) := by
  intro cdv A outer s H vs Q E h X hr tk
  obtain ⟨z, rfl, hz, hok, q, qe⟩ := h
  have D__quote_end := D__quote_end (P := P) (w := w) (base := base) T; have D__word_end := D__word_end (P := P) (w := w) (base := base) T
  refine ⟨_, (pss_cons (ps_set (i := 1) sc__split.nd rfl (Or.inl rfl) (pe_lst pa_nil)) (pss_cons (ps_set (i := 2) sc__split.nd rfl (Or.inl rfl) pe_int) (pss_cons (ps_set (i := 3) sc__split.nd rfl (Or.inl rfl) pe_int) (pss_cons (ps_set (i := 4) sc__split.nd rfl (Or.inl rfl) pe_int) (Evl.pss_cut (ps_while (passes_of rfl) (pt_cmpR op_ltU (pv 2) (pe_callB (cr_len (K := K)) rfl (T.free 2) PySem.boot_len (pa_cons (pv 0) pa_nil)) (nomark _)) (pss_cons (ps_set (i := 5) sc__split.nd rfl (Or.inl rfl) (pe_ix (ix_U (K := K)) (pv 0) (pv 2) (fun _ _ => rfl))) (pss_cons (ps_set (i := 6) sc__split.nd rfl (Or.inl rfl) (pe_op (op_addU (K := K)) (pv 2) pe_int)) (pss_cons (ps_if (pt_cmpR (op_eqU (K := K) hr.units) (pv 5) pe_str (nomark _)) (pss_cons (ps_set (i := 3) sc__split.nd rfl (Or.inl rfl) (pe_op (op_addU (K := K)) (pv 3) pe_int)) (pss_one (ps_set (i := 4) sc__split.nd rfl (Or.inl rfl) (pv 6)))) (pss_one (ps_if (pt_cmpR (op_eqU (K := K) hr.units) (pv 5) pe_str (nomark _)) (pss_cons (ps_set (i := 6) sc__split.nd rfl (Or.inl rfl) (pe_op (op_addU (K := K)) (pe_callX D__quote_end hr tk (pa_cons (pv 0) (pa_cons (pv 2) (pa_cons (pv 3) (pa_cons (pv 4) pa_nil))))) pe_int)) (pss_one (ps_expr (pe_appendU (K := K) (pv 1) (pe_tup (pa_cons pe_str (pa_cons (pe_slice (sl_U (K := K)) (pv 0) (po_some (pe_op (op_addU (K := K)) (pv 2) pe_int)) (po_some (pe_op op_subU (pv 6) pe_int))) (pa_cons (pv 3) (pa_cons (pe_op (op_addU (K := K)) (pe_op op_subU (pv 2) (pv 4)) pe_int) pa_nil))))))))) (pss_one (ps_if (pt_cmpR (op_inU (K := K)) (pv 5) (pe_gStr (T.str 11)) rfl) (pss_one (ps_expr (pe_appendU (K := K) (pv 1) (pe_tup (pa_cons pe_str (pa_cons (pv 5) (pa_cons (pv 3) (pa_cons (pe_op (op_addU (K := K)) (pe_op op_subU (pv 2) (pv 4)) pe_int) pa_nil)))))))) (pss_one (ps_if (pt_cmpR (op_neU (K := K) hr.units) (pv 5) pe_str (nomark _)) (pss_cons (ps_set (i := 6) sc__split.nd rfl (Or.inl rfl) (pe_callA D__word_end hr pass0 (pa_cons (pv 0) (pa_cons (pv 2) pa_nil)))) (pss_one (ps_expr (pe_appendU (K := K) (pv 1) (pe_tup (pa_cons pe_str (pa_cons (pe_slice (sl_U (K := K)) (pv 0) (po_some (pv 2)) (po_some (pv 6))) (pa_cons (pv 3) (pa_cons (pe_op (op_addU (K := K)) (pe_op op_subU (pv 2) (pv 4)) pe_int) pa_nil))))))))) pss_nil))))))) (pss_one (ps_set (i := 2) sc__split.nd rfl (Or.inl rfl) (pv 6))))))) (pss_cons (ps_expr (pe_appendU (K := K) (pv 1) (pe_tup (pa_cons pe_str (pa_cons pe_str (pa_cons (pv 3) (pa_cons (pe_op (op_addU (K := K)) (pe_op op_subU (pe_callB (cr_len (K := K)) rfl (T.free 2) PySem.boot_len (pa_cons (pv 0) pa_nil)) (pv 4)) pe_int) pa_nil))))))) (pss_one (ps_ret (pv 1))))))))), ?_⟩
  have zl : z.length = z.cps.toList.length := rfl
  have hs : z.length ≤ sizeLine := by rw [sizeLine_eq]; omega
  have hok' := okS_iff.mp hok
  walk_at "st"
  walk_at "nw"
  intro l H0 N0
  walk_at "st"
  refine c_cut (fun σ' H' => ∃ ln f xs o1 o2, SplI K z H l z.length ln f xs H' ∧ σ' = [some (.str z), some (.ref l), some (.int (z.length : Int)), some (.int ln), some (.int f), o1, o2]) ?_ ?_
  · refine c_while (fun m σ' H' => ∃ (n : Nat) (ln f : Int) (xs : List V) (o1 o2 : Option V), m + n = z.length ∧ SplI K z H l n ln f xs H' ∧ σ' = [some (.str z), some (.ref l), some (.int (n : Int)), some (.int ln), some (.int f), o1, o2]) z.length
      ⟨0, 1, 0, [], none, none, rfl, ⟨N0.fr, N0.at_, N0.kp, ⟨[], .nil, Nat.le_refl _, by rw [map_nil]; rfl⟩, Nat.zero_le _⟩, rfl⟩ ?_
    rintro m _ H1 ⟨n, ln, f, xs, o1, o2, hm, I, rfl⟩
    walk_at "st"
    refine c_ite (fun g => ?_) (fun g => ?_)
    · have hn : n < z.cps.toList.length := by omega
      obtain ⟨x, hx⟩ : ∃ x, z.cps.toList[n]? = some x := ⟨_, List.getElem?_eq_getElem hn⟩
      have hd : z.cps.toList.drop n = x :: z.cps.toList.drop (n + 1) := by rw [List.drop_eq_getElem_cons hn]; congr 1; exact (List.getElem?_eq_some_iff.mp hx).2
      have hxl : x < 1114112 := hok' x (List.mem_of_getElem? hx)
      refine c_turn ?_
      walk_at "st"
      refine c_ixS hs (atI_nat hx) ?_
      walk_at "st"
      have nx : ∀ (n' : Nat) (ln' f' : Int) (xs' : List V) (o1' o2' : Option V) (H' : Hp), n < n' → SplI K z H l n' ln' f' xs' H' → ∃ m', m' < m ∧ ∃ (n'' : Nat) (ln f : Int) (xs : List V) (o1 o2 : Option V), m' + n'' = z.length ∧ SplI K z H l n'' ln f xs H' ∧
          [some (V.str z), some (.ref l), some (.int (n' : Int)), some (.int ln'), some (.int f'), o1', o2'] = [some (.str z), some (.ref l), some (.int (n'' : Int)), some (.int ln), some (.int f), o1, o2] := fun n' ln' f' xs' o1' o2' H' h I' => by
        have := I'.le
        exact ⟨z.length - n', by omega, n', ln', f', xs', o1', o2', by omega, I', rfl⟩
      have hl1 := I.at_
      have I0 := I
      obtain ⟨ts, t1, t2, t3⟩ := I0.ts
      have xl : xs.length < sizeLine := by rw [sizeLine_eq, t1.len]; omega
      have n1 : (n : Int) + 1 = ((n + 1 : Nat) : Int) := by omega
      rw [n1]
      by_cases x1 : x = 10
      · subst x1
        refine c_iteT (by rfl) ?_
        walk_at "st"
        refine nx (n + 1) _ _ _ _ _ _ (by omega) (I.skip (by rw [hd, spl_nl]; congr 1; omega) (by omega) (by omega))
      refine c_iteF (by rw [decide_eq_false_iff_not]; exact fun e => x1 (one_inj e)) ?_
      walk_at "st"
      by_cases x2 : x = 34
      · subst x2
        refine c_iteT (by rfl) ?_
        walk_at "st"
        have sq : spl .nrm (z.cps.toList.drop n) ln ((n : Int) - f + 1) = quoR [] (z.cps.toList.drop (n + 1)) ln ((n : Int) - f + 1) ln ((n : Int) - f + 1 + 1) := by rw [hd, spl_q0, spl_quo]
        refine ⟨z, n, ln, f, rfl, hz, by omega, fun ⟨r', hr'⟩ => ?_, fun hno => ?_⟩
        · have dl : (z.cps.toList.drop (n + 1)).drop ((z.cps.toList.drop (n + 1)).takeWhile quoB).length = 34 :: r' := by rw [tw_drop, hr']
          generalize ew : (z.cps.toList.drop (n + 1)).takeWhile quoB = u at dl ⊢
          rw [List.drop_drop] at dl
          have ul : n + 1 + u.length < z.cps.toList.length := by
            have := congrArg List.length dl
            rw [List.length_drop, List.length_cons] at this
            omega
          have dr : z.cps.toList.drop (n + 1 + u.length + 1) = r' := by rw [← List.drop_drop, dl]; rfl
          walk_at "st"
          refine c_slS hs ?_
          have ec : cutS z (some ((n : Int) + 1)) (some (((n + 1 + u.length : Nat) : Int) + 1 - 1)) = txt u := by
            rw [n1, show ((n + 1 + u.length : Nat) : Int) + 1 - 1 = ((n + 1 + u.length : Nat) : Int) from by omega, cutS_mid (by omega) (by omega), show n + 1 + u.length - (n + 1) = u.length from by omega, ← ew, tw_take]
          rw [ec]
          walk_at "st"
          walk_at "nw"
          intro p H2 N2
          walk_at "st"
          rw [show ((n + 1 + u.length : Nat) : Int) + 1 = ((n + 1 + u.length + 1 : Nat) : Int) from by omega]
          refine nx _ _ _ _ _ _ _ (by omega) (I.tok (t := quoT u ln ((n : Int) - f + 1)) N2 ok_kinds.1 (okS_txt fun y hy => hok' y (List.mem_of_mem_drop (tw_mem (by rw [ew]; exact hy)))) (by show (txt u).length ≤ 8000; rw [txt_len]; omega) ?_ (by omega) (by omega))
          rw [sq]
          unfold quoR
          rw [hr', ew, dr]
          show (spl .nrm r' ln _).map _ = _
          congr 2
          omega
        · refine qe ⟨ln, _, _⟩ ?_ |>.kp0 I.kp
          rw [t3, sq]
          unfold quoR
          split
          · exact absurd ⟨_, ‹_›⟩ hno
          · show Except.error _ = Except.error _
            congr 2
            omega
      refine c_iteF (by rw [decide_eq_false_iff_not]; exact fun e => x2 (one_inj e)) ?_
      walk_at "st"
      by_cases x3 : x ∈ signsL
      · refine c_iteT (by rw [decide_eq_true_eq]; exact x3) ?_
        walk_at "st"
        walk_at "nw"
        intro p H2 N2
        walk_at "st"
        refine nx (n + 1) _ _ _ _ _ _ (by omega) (I.tok (t := signT x ln ((n : Int) - f + 1)) N2 ok_kinds.2.1 (okS_txt fun y hy => by rw [List.mem_singleton] at hy; rw [hy]; exact hxl) (by show (txt [x]).length ≤ 8000; rw [txt_len]; show 1 ≤ 8000; decide) ?_ (by omega) (by omega))
        rw [hd, spl_sg x3]
        congr 2
        omega
      refine c_iteF (by rw [decide_eq_false_iff_not]; exact x3) ?_
      walk_at "st"
      by_cases x4 : x = 32
      · subst x4
        refine c_iteF (by rfl) ?_
        walk_at "st"
        exact nx (n + 1) _ _ _ _ _ _ (by omega) (I.skip (by rw [hd, spl_sp]; congr 1; omega) (by omega) (by omega))
      refine c_iteT (by simp only [Bool.not_eq_true', decide_eq_false_iff_not]; exact fun e => x4 (one_inj e)) ?_
      have xe : x ∉ endsL := fun h => by
        rcases ends_iff.mp h with h | h | h | h
        · exact x4 h
        · exact x1 h
        · exact x2 h
        · exact x3 h
      have wb : wdB x = true := by unfold wdB; simp [xe]
      walk_at "st"
      refine ⟨z, n, rfl, hz, by omega, ?_⟩
      have twl := tw_len (p := wdB) (z.cps.toList.drop n)
      rw [List.length_drop] at twl
      generalize ew : (z.cps.toList.drop n).takeWhile wdB = u at twl ⊢
      have up : 0 < u.length := by rw [← ew, hd, List.takeWhile_cons, wb]; simp
      have dr : z.cps.toList.drop (n + u.length) = (z.cps.toList.drop (n + 1)).dropWhile wdB := by
        rw [← List.drop_drop, ← ew, tw_drop, hd, List.dropWhile_cons, wb]
        rfl
      walk_at "st"
      refine c_slS hs ?_
      rw [cutS_mid (by omega) (by omega), show n + u.length - n = u.length from by omega, ← ew, tw_take, ew]
      walk_at "st"
      walk_at "nw"
      intro p H2 N2
      walk_at "st"
      refine nx _ _ _ _ _ _ _ (by omega) (I.tok (t := wordT u ln ((n : Int) - f + 1)) N2 ok_kinds.2.2.1 (okS_txt fun y hy => hok' y (List.mem_of_mem_drop (tw_mem (by rw [ew]; exact hy)))) (by show (txt u).length ≤ 8000; rw [txt_len]; omega) ?_ (by omega) (by omega))
      have eu : u = x :: (z.cps.toList.drop (n + 1)).takeWhile wdB := by rw [← ew, hd, List.takeWhile_cons, wb]; rfl
      rw [hd, spl_w0 xe, spl_wd, dr, eu]
      rw [List.length_cons]
      show (spl .nrm _ ln _).map _ = (spl .nrm _ ln _).map _
      congr 2
      omega
    · have : n = z.length := by have := I.le; omega
      subst this
      exact ⟨_, _, _, _, _, I, rfl⟩
  · rintro _ H1 ⟨ln, f, xs, o1, o2, I, rfl⟩
    have hl1 := I.at_
    obtain ⟨ts, t1, t2, t3⟩ := I.ts
    have xl : xs.length < sizeLine := by rw [sizeLine_eq, t1.len]; omega
    walk_at "st"
    walk_at "nw"
    intro p H2 N2
    walk_at "st"
    have hl : H2 l = some (.lst xs) := N2.keep I.at_
    have kt : Kt H2 (upd H2 l (.lst (xs ++ [.ref p]))) := Kt.upd1 (NoT.lst hl)
    refine q (ts ++ [endT ln ((z.length : Int) - f + 1)]) ?_ _ l _ ((I.kp.trans N2.kp).fresh_mut I.fr) I.fr upd_same (TkAll.snoc ⟨p, rfl, SqT.kt kt (SqT.of N2.at_), ok_kinds.2.2.2.1, ok_kinds.2.2.2.2, Nat.zero_le _⟩ ((t1.kt N2.kp.kt).kt kt))
    rw [t3, List.drop_of_length_le (by omega)]
    rfl
theorem D__split (T : TX K mg) : DefAt P w K mg base (L2.CX P w) "_split" 5 ["text"] (spSplit K) :=
  def_ofX T 4 12 sc__split bn__split (by walk_at "len") (b__split T)
end
end K07



namespace K07
open PySem L2 Sa
abbrev RdF (α : Type) := Except Flt (α × List Tok)
def RdF.go {α β : Type} (e : RdF α) (f : α → List Tok → RdF β) : RdF β := match e with
  | .error x => .error x
  | .ok (x, r) => f x r
def fltAt (t : Tok) (w : Str) : Flt := ⟨t.line, t.col, w⟩
def noF : Flt := ⟨0, 0, ""⟩
def isSg (s : Str) (t : Tok) : Bool := decide ([t.kind, t.text] = ([PySem.Str.ofString "sign", s] : List Str))
def expF (s : Str) : List Tok → RdF Unit
  | [] => .error noF
  | t :: r => if isSg s t = true then .ok ((), r) else .error (fltAt t (PySem.Str.ofString "expected " ++ s))
def takeP (kind : Str) (p : Str → Bool) (words : Str) : List Tok → RdF Str
  | [] => .error noF
  | t :: r => if t.kind = kind then (if p t.text = true then .ok (t.text, r) else .error (fltAt t words)) else .error (fltAt t words)
def questL : List Str := ["read", "kind", "list", "find", "count"]
def deedL : List Str := ["write", "remove", "move", "splice"]
def wordB (z : Str) : Bool := decide (z ∈ questL) || decide (z ∈ deedL)
def placeB (z : Str) : Bool := decide (z = PySem.Str.ofString ".") || isPathS z
def quoWB (z : Str) : Bool := decide (1 ≤ z.length) && decide (z.length ≤ 12)
def toPlace (z : Str) : Str := if z = PySem.Str.ofString "." then "" else z
def wordF : List Tok → RdF Str := takeP "word" wordB "expected an action"
def pathF : List Tok → RdF Str := takeP "word" isPathS "expected a path"
def placeF (ts : List Tok) : RdF Str := (takeP "word" placeB "expected a place" ts).go fun z r => .ok (toPlace z, r)
def quoWF : List Tok → RdF Str := takeP "quoted" quoWB "expected a word"
def linesL (least : Nat) : List Str → List Tok → RdF (List Str)
  | _, [] => .error noF
  | found, t :: r =>
    if found.length < least ∨ isSg "]" t = false then
      if t.kind = "quoted" then
        if 20 < t.text.length then .error (fltAt t "expected a line")
        else if found.length = 12 then .error (fltAt t "too many lines")
        else linesL least (found ++ [t.text]) r
      else .error (fltAt t "expected a line")
    else .ok (found, r)
def linesF (least : Nat) (ts : List Tok) : RdF (List Str) := (expF "[" ts).go fun _ r => linesL least [] r
def restP (w p : Str) (ts : List Tok) : RdF Action :=
  if w = "write" then (linesF 0 ts).go fun ls r => .ok (.write p ls, r)
  else if w = "move" then (pathF ts).go fun q r => .ok (.move p q, r)
  else if w = "splice" then (linesF 1 ts).go fun old r => (linesF 0 r).go fun new r => .ok (.splice p old new, r)
  else if w = "remove" then .ok (.remove p, ts)
  else .ok (.read p, ts)
def restF (w : Str) (ts : List Tok) : RdF Action :=
  if w = "find" then (placeF ts).go fun z r => (quoWF r).go fun u r => .ok (.find z u, r)
  else if w = "kind" then (placeF ts).go fun z r => .ok (.kind z, r)
  else if w = "list" then (placeF ts).go fun z r => .ok (.list z, r)
  else if w = "count" then (placeF ts).go fun z r => .ok (.count z, r)
  else (pathF ts).go fun p r => restP w p r
def actRF (ts : List Tok) : RdF Action := (expF "(" ts).go fun _ r => (wordF r).go fun w r => (restF w r).go fun x r => (expF ")" r).go fun _ r => .ok (x, r)
def readN : Nat → List Tok → Except Flt (List Action)
  | 0, _ => .error noF
  | _ + 1, [] => .error noF
  | n + 1, t :: r => if t.kind = "end" then .ok [] else match actRF (t :: r) with
    | .error f => .error f
    | .ok (x, r') => (readN n r').map (x :: ·)
def readTx (z : Str) : Except Flt (List Action) := match spl .nrm z.cps.toList 1 1 with
  | .error f => .error f
  | .ok ts => readN ts.length ts
theorem go_ok {α β : Type} {e : RdF α} {f : α → List Tok → RdF β} {y : β} {r : List Tok} (h : e.go f = .ok (y, r)) : ∃ x r1, e = .ok (x, r1) ∧ f x r1 = .ok (y, r) := by
  cases e with
  | error x => cases h
  | ok p => exact ⟨p.1, p.2, rfl, h⟩
theorem exp_len {s : Str} {ts r : List Tok} {u : Unit} (h : expF s ts = .ok (u, r)) : r.length < ts.length := by
  cases ts with
  | nil => cases h
  | cons t r' =>
    simp only [expF] at h
    split at h
    · injection h with h; injection h with _ h; subst h; simp
    · cases h
theorem take_len {k w : Str} {p : Str → Bool} {ts r : List Tok} {u : Str} (h : takeP k p w ts = .ok (u, r)) : r.length < ts.length := by
  cases ts with
  | nil => cases h
  | cons t r' =>
    simp only [takeP] at h
    split at h
    · split at h
      · injection h with h; injection h with _ h; subst h; simp
      · cases h
    · cases h
theorem place_len' {ts r : List Tok} {u : Str} (h : placeF ts = .ok (u, r)) : r.length < ts.length := by
  obtain ⟨x, r1, h1, h2⟩ := go_ok h
  injection h2 with h2
  injection h2 with _ h2
  have := take_len h1
  rw [← h2]; exact this
theorem linesL_len {n : Nat} : ∀ {ts r : List Tok} {f ls : List Str}, linesL n f ts = .ok (ls, r) → r.length < ts.length
  | [], _, _, _, h => by cases h
  | t :: ts, r, f, ls, h => by
    rw [linesL] at h
    split at h
    · split at h
      · split at h
        · cases h
        · split at h
          · cases h
          · have := linesL_len h; rw [List.length_cons]; omega
      · cases h
    · injection h with h; injection h with _ h; subst h; simp
theorem lines_len' {n : Nat} {ts r : List Tok} {ls : List Str} (h : linesF n ts = .ok (ls, r)) : r.length < ts.length := by
  obtain ⟨x, r1, h1, h2⟩ := go_ok h
  have := exp_len h1
  have := linesL_len h2
  omega
theorem restP_len {w p : Str} {ts r : List Tok} {x : Action} (h : restP w p ts = .ok (x, r)) : r.length ≤ ts.length := by
  unfold restP at h
  split at h
  · obtain ⟨_, _, h1, h2⟩ := go_ok h
    injection h2 with h2; injection h2 with _ h2; subst h2
    exact Nat.le_of_lt (lines_len' h1)
  split at h
  · obtain ⟨_, _, h1, h2⟩ := go_ok h
    injection h2 with h2; injection h2 with _ h2; subst h2
    exact Nat.le_of_lt (take_len h1)
  split at h
  · obtain ⟨_, _, h1, h2⟩ := go_ok h
    obtain ⟨_, _, h3, h4⟩ := go_ok h2
    injection h4 with h4; injection h4 with _ h4; subst h4
    have := lines_len' h1
    have := lines_len' h3
    omega
  split at h
  · injection h with h; injection h with _ h; subst h; exact Nat.le_refl _
  · injection h with h; injection h with _ h; subst h; exact Nat.le_refl _
theorem restF_len {w : Str} {ts r : List Tok} {x : Action} (h : restF w ts = .ok (x, r)) : r.length ≤ ts.length := by
  unfold restF at h
  split at h
  · obtain ⟨_, _, h1, h2⟩ := go_ok h
    obtain ⟨_, _, h3, h4⟩ := go_ok h2
    injection h4 with h4; injection h4 with _ h4; subst h4
    have := place_len' h1
    have := take_len h3
    omega
  split at h
  · obtain ⟨_, _, h1, h2⟩ := go_ok h
    injection h2 with h2; injection h2 with _ h2; subst h2
    exact Nat.le_of_lt (place_len' h1)
  split at h
  · obtain ⟨_, _, h1, h2⟩ := go_ok h
    injection h2 with h2; injection h2 with _ h2; subst h2
    exact Nat.le_of_lt (place_len' h1)
  split at h
  · obtain ⟨_, _, h1, h2⟩ := go_ok h
    injection h2 with h2; injection h2 with _ h2; subst h2
    exact Nat.le_of_lt (place_len' h1)
  · obtain ⟨_, _, h1, h2⟩ := go_ok h
    have := take_len h1
    have := restP_len h2
    omega
theorem act_len {ts r : List Tok} {x : Action} (h : actRF ts = .ok (x, r)) : r.length < ts.length := by
  obtain ⟨_, _, h1, h2⟩ := go_ok h
  obtain ⟨_, _, h3, h4⟩ := go_ok h2
  obtain ⟨_, _, h5, h6⟩ := go_ok h4
  obtain ⟨_, _, h7, h8⟩ := go_ok h6
  injection h8 with h8; injection h8 with _ h8; subst h8
  have := exp_len h1
  have := take_len h3
  have := restF_len h5
  have := exp_len h7
  omega
end K07



namespace K07
open PySem L2 Sa
local macro_rules | `(tactic| walk_at "s1") => `(tactic| first | (with_reducible apply c_dgetK))
local macro_rules | `(tactic| walk_at "s1") => `(tactic| (with_reducible apply c_raiseO))
local macro_rules | `(tactic| walk_at "s1") => `(tactic| first | (with_reducible apply c_dgetK))
local macro_rules | `(tactic| walk_at "s1") => `(tactic| (with_reducible apply c_raiseO))
local macro_rules | `(tactic| walk_at "s1") => `(tactic| first | (with_reducible apply c_un) | (with_reducible apply c_negI))
def rdF (a1 a2 : V) : List (Str × V) := ([("_tokens", a1), ("_at", a2)] : List (Str × V))
section
variable {a1 a2 x v : V}
theorem rd_get1 : (rdF a1 a2).lookup ("_tokens" : Str) = some a1 := by kernel_rfl
theorem rd_put1 : putF "_tokens" x (rdF a1 a2) = rdF x a2 := by kernel_rfl
theorem rd_ini1 : putF "_tokens" a1 ([] : List (Str × V)) = ([("_tokens", a1)] : List (Str × V)) := by kernel_rfl
theorem rd_get2 : (rdF a1 a2).lookup ("_at" : Str) = some a2 := by kernel_rfl
theorem rd_put2 : putF "_at" x (rdF a1 a2) = rdF a1 x := by kernel_rfl
theorem rd_ini2 : putF "_at" a2 ([("_tokens", a1)] : List (Str × V)) = rdF a1 a2 := by kernel_rfl
end
section
variable {K : PySem.W.Frag} {mg : Str → Option Value}
theorem C_Reader (T : TX K mg) : ClsAt K mg "Reader" := ⟨T.glo 14, He.cls_ok (T.fact 73)⟩
theorem Mk_Reader (T : TX K mg) : Mk K (He.ga K "Reader") (He.ma K (He.ga K "Reader") "__init__") := He.mkr_ok (T.fact 74)
theorem rd_N1 (T : TX K mg) : NoAttr K (He.ga K "Reader") "_tokens" := He.noat_ok (T.fact 75)
theorem rd_N2 (T : TX K mg) : NoAttr K (He.ga K "Reader") "_at" := He.noat_ok (T.fact 76)
variable {H : Hp} {Q : VK} {R : Hp → Prop} {x dx : Addr} {a1 a2 v : V}
theorem rd_g1 (T : TX K mg) (h : H x = some (.ins (He.ga K "Reader") dx (rdF a1 a2))) (q : Q a1 H) : FldK K "_tokens" (.ref x) H Q := c_fldAt h (C_Reader T).cls (rd_N1 T) rd_get1 q
theorem rd_p1 (T : TX K mg) (h : H x = some (.ins (He.ga K "Reader") dx (rdF a1 a2))) (q : R (upd H x (.ins (He.ga K "Reader") dx (rdF v a2)))) : SetFldK K "_tokens" (.ref x) v H R := c_setFAt h (C_Reader T).cls (rd_N1 T) (by show 2 < 1000; decide) (by rw [rd_put1]; exact q)
theorem rd_i1 (T : TX K mg) (h : H x = some (.ins (He.ga K "Reader") dx ([] : List (Str × V)))) (q : R (upd H x (.ins (He.ga K "Reader") dx ([("_tokens", v)] : List (Str × V))))) : SetFldK K "_tokens" (.ref x) v H R := c_setFAt h (C_Reader T).cls (rd_N1 T) (by show 0 < 1000; decide) (by rw [rd_ini1]; exact q)
theorem rd_g2 (T : TX K mg) (h : H x = some (.ins (He.ga K "Reader") dx (rdF a1 a2))) (q : Q a2 H) : FldK K "_at" (.ref x) H Q := c_fldAt h (C_Reader T).cls (rd_N2 T) rd_get2 q
theorem rd_p2 (T : TX K mg) (h : H x = some (.ins (He.ga K "Reader") dx (rdF a1 a2))) (q : R (upd H x (.ins (He.ga K "Reader") dx (rdF a1 v)))) : SetFldK K "_at" (.ref x) v H R := c_setFAt h (C_Reader T).cls (rd_N2 T) (by show 2 < 1000; decide) (by rw [rd_put2]; exact q)
theorem rd_i2 (T : TX K mg) (h : H x = some (.ins (He.ga K "Reader") dx ([("_tokens", a1)] : List (Str × V)))) (q : R (upd H x (.ins (He.ga K "Reader") dx (rdF a1 v)))) : SetFldK K "_at" (.ref x) v H R := c_setFAt h (C_Reader T).cls (rd_N2 T) (by show 1 < 1000; decide) (by rw [rd_ini2]; exact q)
theorem rd_no {m : Str} {a1 a2 : V} (h : m ∉ (["_tokens", "_at"] : List Str)) : (rdF a1 a2).lookup m = none := by
  unfold rdF
  have n : ∀ z ∈ (["_tokens", "_at"] : List Str), (m == z) = false := fun z hz => by
    rw [beq_eq_false_iff_ne]
    exact fun e => h (e ▸ hz)
  simp only [List.lookup, n "_tokens" (by simp), n "_at" (by simp)]
theorem rd_r {m : Str} (h : H x = some (.ins (He.ga K "Reader") dx (rdF a1 a2))) (hm : m ∉ (["_tokens", "_at"] : List Str)) (q : R H) : RecvK K "Reader" m (.ref x) H R := c_recv h (rd_no hm) q
end
local macro_rules | `(tactic| walk_at "s1") => `(tactic| first | ((with_reducible apply rd_g1 (by assumption)); (· walk_at "lk")) | ((with_reducible apply rd_p1 (by assumption)); (· walk_at "lk")) | ((with_reducible apply rd_g2 (by assumption)); (· walk_at "lk")) | ((with_reducible apply rd_p2 (by assumption)); (· walk_at "lk")) | ((with_reducible apply rd_r); (· walk_at "lk"); (· decide +kernel)))
local macro_rules | `(tactic| walk_at "s1") => `(tactic| (with_reducible apply c_raiseE3))
set_option pp.maxSteps 1500
section
variable {P : Program} {w : World} {K : PySem.W.Frag} {mg : Str → Option Value} {base : Heap}
structure RdAt (K : PySem.W.Frag) (H : Hp) (a L : Addr) (us ts : List Tok) : Prop where
  ex : ∃ dx l xs, H a = some (.ins (He.ga K "Reader") dx (rdF (.ref l) (.int (us.length : Int)))) ∧ H l = some (.lst xs) ∧ TkAll K H xs (us ++ ts)
  fin : Fin ts
  lk : ∀ dx l i, H a = some (.ins (He.ga K "Reader") dx (rdF (.ref l) i)) → l = L
theorem lk_of {H : Hp} {a L C dx : Addr} {j : V} (h : H a = some (.ins C dx (rdF (.ref L) j))) : ∀ dx l i, H a = some (.ins (He.ga K "Reader") dx (rdF (.ref l) i)) → l = L := fun dx l i e => by
  rw [h] at e
  injection e with e
  injection e with _ _ e
  unfold rdF at e
  injection e with e _
  injection e with _ e
  injection e with e
  exact e.symm
theorem RdAt.kp0 {H H' : Hp} {a L : Addr} {us ts : List Tok} (h : RdAt K H a L us ts) (e : Kp [] H H') : RdAt K H' a L us ts := by
  obtain ⟨dx, l, xs, h1, h2, h3⟩ := h.ex
  obtain rfl := (h.lk _ _ _ h1).symm
  exact ⟨⟨dx, L, xs, e.at0 h1, e.at0 h2, h3.kt e.kt⟩, h.fin, lk_of (e.at0 h1)⟩
theorem RdAt.kp {ms : List Addr} {H H' : Hp} {a L : Addr} {us ts : List Tok} (h : RdAt K H a L us ts) (hm : ∀ b ∈ ms, H b = none) (e : Kp ms H H') : RdAt K H' a L us ts := by
  have e0 : Kp [] H H' := fun b o _ hb => e b o (fun hm' => by rw [hm b hm'] at hb; cases hb) hb
  exact h.kp0 e0
theorem RdAt.noT {H : Hp} {a L : Addr} {us ts : List Tok} (h : RdAt K H a L us ts) : NoT H a := by
  obtain ⟨dx, l, xs, h1, _⟩ := h.ex
  exact NoT.ins h1
theorem RdAt.tok {H : Hp} {a L : Addr} {us r : List Tok} {t : Tok} (h : RdAt K H a L us (t :: r)) : ∃ dx l xs p, H a = some (.ins (He.ga K "Reader") dx (rdF (.ref l) (.int (us.length : Int)))) ∧ H l = some (.lst xs) ∧ SqL K H l xs ∧ TkAll K H xs (us ++ t :: r) ∧
    atI xs (us.length : Int) = some (.ref p) ∧ SqT K H p [.str t.kind, .str t.text, .int t.line, .int t.col] ∧ okS t.kind = true ∧ okS t.text = true ∧ t.text.length ≤ 8000 := by
  obtain ⟨dx, l, xs, h1, h2, h3⟩ := h.ex
  obtain ⟨v, hv, p, rfl, hp⟩ := h3.get (k := us.length) (by rw [List.drop_left])
  exact ⟨dx, l, xs, p, h1, h2, SqL.of h2, h3, atI_nat hv, hp⟩
theorem rd_next {H : Hp} {a l dx C dx0 : Addr} {fs : List (Str × V)} {xs : List V} {us r : List Tok} {t : Tok} {i : Int} (h1 : H a = some (.ins C dx0 fs)) (h2 : H l = some (.lst xs)) (h3 : TkAll K H xs (us ++ t :: r)) (hf : Fin (t :: r)) (hk : t.kind ≠ "end") (hi : i = (us.length : Int) + 1) :
    RdAt K (upd H a (.ins (He.ga K "Reader") dx (rdF (.ref l) (.int i)))) a l (us ++ [t]) r ∧ Kp [a] H (upd H a (.ins (He.ga K "Reader") dx (rdF (.ref l) (.int i)))) ∧ Kt H (upd H a (.ins (He.ga K "Reader") dx (rdF (.ref l) (.int i)))) := by
  have kt : Kt H (upd H a (.ins (He.ga K "Reader") dx (rdF (.ref l) (.int i)))) := Kt.upd1 (NoT.ins h1)
  have ne : l ≠ a := fun e => by rw [e, h1] at h2; cases h2
  refine ⟨⟨⟨dx, l, xs, ?_, by rw [upd_ne ne]; exact h2, ?_⟩, hf.tail hk, lk_of upd_same⟩, Kp.mut (by simp), kt⟩
  · rw [upd_same, hi, List.length_append, List.length_singleton]
    rfl
  · rw [List.append_assoc]
    exact h3.kt kt
theorem rd_back {H : Hp} {a l dx C dx0 : Addr} {fs : List (Str × V)} {xs : List V} {us r : List Tok} {t : Tok} {i : Int} (h1 : H a = some (.ins C dx0 fs)) (h2 : H l = some (.lst xs)) (h3 : TkAll K H xs ((us ++ [t]) ++ r)) (hf : Fin r) (hi : i = (us.length : Int)) :
    RdAt K (upd H a (.ins (He.ga K "Reader") dx (rdF (.ref l) (.int i)))) a l us (t :: r) ∧ Kp [a] H (upd H a (.ins (He.ga K "Reader") dx (rdF (.ref l) (.int i)))) ∧ Kt H (upd H a (.ins (He.ga K "Reader") dx (rdF (.ref l) (.int i)))) := by
  have kt : Kt H (upd H a (.ins (He.ga K "Reader") dx (rdF (.ref l) (.int i)))) := Kt.upd1 (NoT.ins h1)
  have ne : l ≠ a := fun e => by rw [e, h1] at h2; cases h2
  refine ⟨⟨⟨dx, l, xs, by rw [upd_same, hi], by rw [upd_ne ne]; exact h2, ?_⟩, Fin.app (us := [t]) hf, lk_of upd_same⟩, Kp.mut (by simp), kt⟩
  rw [List.append_assoc] at h3
  exact h3.kt kt
def RetR {α : Type} (K : PySem.W.Frag) (Q : VK) (E : XK) (a L : Addr) (H : Hp) (rep : Hp → V → α → Prop) : RdF α → Prop
  | .ok (x, r) => ∀ v H' us', Kp [a] H H' → Kt H H' → RdAt K H' a L us' r → rep H' v x → Q v H'
  | .error f => FltE K E [a] H f
theorem RetR.kp {α : Type} {Q : VK} {E : XK} {a L : Addr} {H H1 : Hp} {rep : Hp → V → α → Prop} {e : RdF α} (h : RetR K Q E a L H rep e) (k : Kp [a] H H1) (t : Kt H H1) : RetR K Q E a L H1 rep e := by
  cases e with
  | error f => exact FltE.kp h k t
  | ok p => exact fun v H' us' k' t' h' r' => h v H' us' (k.trans k') (t.trans t') h' r'
theorem fin_cons {ts : List Tok} (h : Fin ts) : ∃ t r, ts = t :: r := by
  cases ts with
  | nil => exact absurd rfl h.ne
  | cons t r => exact ⟨t, r, rfl⟩
def spRdInit (K : PySem.W.Frag) : Sp := fun vs H Q E => ∃ (x dx : Addr) (z : Str), vs = [.ref x, .str z] ∧ H x = some (.ins (He.ga K "Reader") dx []) ∧ z.length ≤ 8000 ∧ okS z = true ∧
  (∀ ts, spl .nrm z.cps.toList 1 1 = .ok ts → ∀ H' L, Kp [x] H H' → RdAt K H' x L [] ts → Q .non H') ∧ (∀ f, spl .nrm z.cps.toList 1 1 = .error f → FltE K E [] H f)
theorem sc_Reader___init__ : FnScope ["self", "text"] ["self", "text"] (defScope s_Reader___init__) := ⟨rfl, rfl, rfl, by decide +kernel, rfl, by decide +kernel, by decide +kernel⟩
theorem bn_Reader___init__ : BindM "__init__" "Reader.__init__" s_Reader___init__ ["self", "text"] := fun _ _ _ _ _ _ us hl => match us, hl with | [_, _], _ => rfl
theorem b_Reader___init__ (T : TX K mg) : BodyMX P w K mg base "Reader" "__init__" "Reader.__init__" s_Reader___init__ ["self", "text"] 5 (spRdInit K) := by
  intro cdv A outer s H vs Q E h X hr tk
  obtain ⟨x, dx, z, rfl, hx, hz, hok, q, qe⟩ := h
  have D__split := D__split (P := P) (w := w) (base := base) T
  refine ⟨_, (pss_cons (ps_fldU (K := K) (pv 0) (pe_callX D__split hr tk (pa_cons (pv 1) pa_nil))) (pss_one (ps_fldU (K := K) (pv 0) pe_int))), ?_⟩
  walk_at "st"
  refine ⟨z, rfl, hz, hok, fun ts e H1 l xs k1 f1 h1 h2 => ?_, qe⟩
  have hx1 := k1.at0 hx
  walk_at "st"
  refine rd_i1 T hx1 ?_
  walk_at "st"
  refine rd_i2 T upd_same ?_
  have ne : l ≠ x := fun e => by rw [e, hx] at f1; cases f1
  rw [upd_upd]
  have kt : Kt H1 (upd H1 x (.ins (He.ga K "Reader") dx (rdF (.ref l) (.int 0)))) := Kt.upd1 (NoT.ins hx1)
  exact q ts e _ l (k1.mono.trans (Kp.mut (by simp))) ⟨⟨dx, l, xs, upd_same, by rw [upd_ne ne]; exact h1, h2.kt kt⟩, spl_fin e, lk_of upd_same⟩
theorem M_Reader___init__ (T : TX K mg) : MethAt P w K mg base (L2.CX P w) "Reader" "__init__" 6 ["self", "text"] (spRdInit K) :=
  meth_ofX T 32 49 sc_Reader___init__ bn_Reader___init__ (by walk_at "len") (b_Reader___init__ T)
def spRdKind (K : PySem.W.Frag) : Sp := fun vs H Q _ => ∃ (a L : Addr) (us r : List Tok) (t : Tok), vs = [.ref a] ∧ RdAt K H a L us (t :: r) ∧ Q (.str t.kind) H
theorem sc_Reader_kind : FnScope ["self"] ["self"] (defScope s_Reader_kind) := ⟨rfl, rfl, rfl, by decide +kernel, rfl, by decide +kernel, by decide +kernel⟩
theorem bn_Reader_kind : BindM "kind" "Reader.kind" s_Reader_kind ["self"] := fun _ _ _ _ _ _ us hl => match us, hl with | [_], _ => rfl
theorem b_Reader_kind (T : TX K mg) : BodyM P w K mg base "Reader" "kind" "Reader.kind" s_Reader_kind ["self"] 1 (spRdKind K) := by
  intro cdv A outer s H vs Q E h X hr
  obtain ⟨a, L, us, r, t, rfl, h, q⟩ := h
  refine ⟨_, (pss_one (ps_ret (pe_ix (ix_U (K := K)) (pe_ix (ix_U (K := K)) (pe_fldU (K := K) (pv 0)) (pe_fldU (K := K) (pv 0)) (fun _ _ => rfl)) pe_int (fun _ _ => rfl)))), ?_⟩
  obtain ⟨dx, l, xs, p, h1, h2, hl, h3, hat, hp, _⟩ := h.tok
  walk_at "st"
  refine c_ixL hl hat ?_
  walk_at "st"
  exact q
theorem M_Reader_kind (T : TX K mg) : MethAt P w K mg base CX0 "Reader" "kind" 2 ["self"] (spRdKind K) :=
  meth_of T 33 50 sc_Reader_kind bn_Reader_kind (by walk_at "len") (b_Reader_kind T)
def spRdSign (K : PySem.W.Frag) : Sp := fun vs H Q _ => ∃ (a L : Addr) (us r : List Tok) (t : Tok) (s : Str), vs = [.ref a, .str s] ∧ RdAt K H a L us (t :: r) ∧ okS s = true ∧ ∀ H', Kp [] H H' → Q (.bl (isSg s t)) H'
theorem sc_Reader_is_sign : FnScope ["self", "sign"] ["self", "sign"] (defScope s_Reader_is_sign) := ⟨rfl, rfl, rfl, by decide +kernel, rfl, by decide +kernel, by decide +kernel⟩
theorem bn_Reader_is_sign : BindM "is_sign" "Reader.is_sign" s_Reader_is_sign ["self", "sign"] := fun _ _ _ _ _ _ us hl => match us, hl with | [_, _], _ => rfl
theorem b_Reader_is_sign (T : TX K mg) : BodyM P w K mg base "Reader" "is_sign" "Reader.is_sign" s_Reader_is_sign ["self", "sign"] 1 (spRdSign K) := by
  intro cdv A outer s H vs Q E h X hr
  obtain ⟨a, L, us, r, t, s, rfl, h, hs, q⟩ := h
  refine ⟨_, (pss_one (ps_ret (pe_cmpR (op_eqU (K := K) hr.units) (pe_slice (sl_U (K := K)) (pe_ix (ix_U (K := K)) (pe_fldU (K := K) (pv 0)) (pe_fldU (K := K) (pv 0)) (fun _ _ => rfl)) po_none (po_some pe_int)) (pe_tup (pa_cons pe_str (pa_cons (pv 1) pa_nil))) (nomark _)))), ?_⟩
  obtain ⟨dx, l, xs, p, h1, h2, hl, h3, hat, hp, k1, k2, k3⟩ := h.tok
  walk_at "st"
  refine c_ixL hl hat ?_
  walk_at "st"
  refine c_slT hp fun p2 H2 e2 hp2 => ?_
  walk_at "st"
  walk_at "nw"
  intro p3 H3 N3
  have ec : cutL [V.str t.kind, .str t.text, .int t.line, .int t.col] none (some 2) = ([t.kind, t.text] : List Str).map V.str := by kernel_rfl
  rw [ec] at hp2
  refine c_eqTS (ys := [t.kind, t.text]) (zs := ["sign", s]) (SqT.kp N3.kp hp2) (SqT.of N3.at_) ?_ ?_ ?_
  · intro y hy
    simp only [List.mem_cons, List.not_mem_nil, or_false] at hy
    rcases hy with rfl | rfl
    · exact k1
    · exact k2
  · intro y hy
    simp only [List.mem_cons, List.not_mem_nil, or_false] at hy
    rcases hy with rfl | rfl
    · exact ok_kinds.2.1
    · exact hs
  · exact q H3 (e2.trans N3.kp)
theorem M_Reader_is_sign (T : TX K mg) : MethAt P w K mg base CX0 "Reader" "is_sign" 2 ["self", "sign"] (spRdSign K) :=
  meth_of T 35 52 sc_Reader_is_sign bn_Reader_is_sign (by walk_at "len") (b_Reader_is_sign T)
def spRdRefuse (K : PySem.W.Frag) : Sp := fun vs H _ E => ∃ (a L : Addr) (us r : List Tok) (t : Tok) (s : Str), vs = [.ref a, .str s] ∧ RdAt K H a L us (t :: r) ∧ FltE K E [a] H (fltAt t s)
theorem sc_Reader_refuse : FnScope ["self", "words", "_", "line", "column"] ["self", "words"] (defScope s_Reader_refuse) := ⟨rfl, rfl, rfl, by decide +kernel, rfl, by decide +kernel, by decide +kernel⟩
theorem bn_Reader_refuse : BindM "refuse" "Reader.refuse" s_Reader_refuse ["self", "words"] := fun _ _ _ _ _ _ us hl => match us, hl with | [_, _], _ => rfl
theorem b_Reader_refuse (T : TX K mg) : BodyMX P w K mg base "Reader" "refuse" "Reader.refuse" s_Reader_refuse ["self", "words", "_", "line", "column"] 3 (spRdRefuse K) := by
  intro cdv A outer s H vs Q E h X hr tk
  obtain ⟨a, L, us, r, t, s, rfl, h, q⟩ := h
  have E_TextFault := E_TextFault (P := P) (w := w) (base := base) T
  refine ⟨_, (pss_cons (ps_asg (pe_ix (ix_U (K := K)) (pe_fldU (K := K) (pv 0)) (pe_fldU (K := K) (pv 0)) (fun _ _ => rfl)) (pg_tupU (K := K) (n := 4) rfl (pgs_cons (pg_name (i := 2) sc_Reader_refuse.nd rfl (Or.inl rfl)) (pgs_cons (pg_name (i := 2) sc_Reader_refuse.nd rfl (Or.inl rfl)) (pgs_cons (pg_name (i := 3) sc_Reader_refuse.nd rfl (Or.inl rfl)) (pgs_cons (pg_name (i := 4) sc_Reader_refuse.nd rfl (Or.inl rfl)) pgs_nil)))))) (pss_one (ps_raiseE3 (K := K) E_TextFault hr tk (pa_cons (pv 3) (pa_cons (pv 4) (pa_cons (pv 1) pa_nil)))))), ?_⟩
  obtain ⟨dx, l, xs, p, h1, h2, hl, h3, hat, hp, k1, k2, k3⟩ := h.tok
  walk_at "st"
  refine c_ixL hl hat ?_
  walk_at "st"
  refine c_err3 fun d H1 N => ?_
  exact q _ d H1 Kp.refl Kt.refl N
theorem M_Reader_refuse (T : TX K mg) : MethAt P w K mg base (L2.CX P w) "Reader" "refuse" 4 ["self", "words"] (spRdRefuse K) :=
  meth_ofX T 34 51 sc_Reader_refuse bn_Reader_refuse (by walk_at "len") (b_Reader_refuse T)
def spRdBack (K : PySem.W.Frag) : Sp := fun vs H _ E => ∃ (a L : Addr) (us r : List Tok) (t : Tok) (s : Str), vs = [.ref a, .str s] ∧ RdAt K H a L (us ++ [t]) r ∧ FltE K E [a] H (fltAt t s)
theorem sc_Reader_back : FnScope ["self", "words"] ["self", "words"] (defScope s_Reader_back) := ⟨rfl, rfl, rfl, by decide +kernel, rfl, by decide +kernel, by decide +kernel⟩
theorem bn_Reader_back : BindM "back" "Reader.back" s_Reader_back ["self", "words"] := fun _ _ _ _ _ _ us hl => match us, hl with | [_, _], _ => rfl
theorem b_Reader_back (T : TX K mg) : BodyMX P w K mg base "Reader" "back" "Reader.back" s_Reader_back ["self", "words"] 4 (spRdBack K) := by
  intro cdv A outer s H vs Q E h X hr tk
  obtain ⟨a, L, us, r, t, s, rfl, h, q⟩ := h
  have C_Reader := C_Reader T; have M_Reader_refuse := M_Reader_refuse (P := P) (w := w) (base := base) T
  refine ⟨_, (pss_cons (ps_fldU (K := K) (pv 0) (pe_op op_subU (pe_fldU (K := K) (pv 0)) pe_int)) (pss_one (ps_expr (pe_methS1 M_Reader_refuse C_Reader hr (atW tk) (pv 0) (pa_cons (pv 1) pa_nil))))), ?_⟩
  obtain ⟨dx, l, xs, h1, h2, h3⟩ := h.ex
  walk_at "st"
  obtain rfl := (h.lk _ _ _ h1).symm
  obtain ⟨b1, b2, b3⟩ := rd_back (dx := dx) (i := ((us ++ [t]).length : Int) - 1) h1 h2 h3 h.fin (by rw [List.length_append, List.length_singleton]; omega)
  exact ⟨a, L, us, r, t, s, rfl, b1, q.kp b2 b3⟩
theorem M_Reader_back (T : TX K mg) : MethAt P w K mg base (L2.CX P w) "Reader" "back" 5 ["self", "words"] (spRdBack K) :=
  meth_ofX T 38 55 sc_Reader_back bn_Reader_back (by walk_at "len") (b_Reader_back T)
def spRdExp (K : PySem.W.Frag) : Sp := fun vs H Q E => ∃ (a L : Addr) (us ts : List Tok) (s : Str), vs = [.ref a, .str s] ∧ RdAt K H a L us ts ∧ okS s = true ∧ s.length ≤ 1000 ∧ RetR K Q E a L H (fun _ v _ => v = .non) (expF s ts)
theorem sc_Reader_expect : FnScope ["self", "sign"] ["self", "sign"] (defScope s_Reader_expect) := ⟨rfl, rfl, rfl, by decide +kernel, rfl, by decide +kernel, by decide +kernel⟩
theorem bn_Reader_expect : BindM "expect" "Reader.expect" s_Reader_expect ["self", "sign"] := fun _ _ _ _ _ _ us hl => match us, hl with | [_, _], _ => rfl
theorem b_Reader_expect (T : TX K mg) : BodyMX P w K mg base "Reader" "expect" "Reader.expect" s_Reader_expect ["self", "sign"] 4 (spRdExp K) := by
  intro cdv A outer s H vs Q E h X hr tk
  obtain ⟨a, L, us, ts, s, rfl, h, hs, hsl, q⟩ := h
  have C_Reader := C_Reader T; have M_Reader_is_sign := M_Reader_is_sign (P := P) (w := w) (base := base) T; have M_Reader_refuse := M_Reader_refuse (P := P) (w := w) (base := base) T
  refine ⟨_, (pss_cons (ps_if (pt_not (pt_tru (K := K) (pe_methS1 M_Reader_is_sign C_Reader hr at0 (pv 0) (pa_cons (pv 1) pa_nil)))) (pss_one (ps_expr (pe_methS1 M_Reader_refuse C_Reader hr (atW tk) (pv 0) (pa_cons (pe_op (op_addU (K := K)) pe_str (pv 1)) pa_nil)))) pss_nil) (pss_one (ps_fldU (K := K) (pv 0) (pe_op (op_addU (K := K)) (pe_fldU (K := K) (pv 0)) pe_int)))), ?_⟩
  obtain ⟨t, r, rfl⟩ := fin_cons h.fin
  obtain ⟨dx0, l0, xs0, p0, h10, _⟩ := h.tok
  walk_at "st"
  refine ⟨a, L, us, r, t, s, rfl, h, hs, fun H1 e1 => ?_⟩
  have h' := h.kp0 e1
  have q := q.kp e1.mono e1.kt
  obtain ⟨dx, l, xs, p, h1, h2, hl, h3, hat, hp, k1, k2, k3⟩ := h'.tok
  walk_at "st"
  refine c_iteNB (fun g => ?_) (fun g => ?_)
  · walk_at "st"
    refine c_addS (by rw [sizeLine_eq, show (PySem.Str.ofString "expected ").length = 9 from by decide +kernel]; omega) ?_
    walk_at "st"
    refine ⟨a, L, us, r, t, _, rfl, h', ?_⟩
    simp only [expF, g, Bool.false_eq_true, if_false] at q
    exact q
  · walk_at "st"
    simp only [expF, g, if_true] at q
    have hk : t.kind ≠ "end" := fun e => by
      unfold isSg at g
      rw [decide_eq_true_eq, List.cons.injEq, e] at g
      exact absurd g.1 (by decide +kernel)
    obtain rfl := (h'.lk _ _ _ h1).symm
    obtain ⟨b1, b2, b3⟩ := rd_next (dx := dx) (i := (us.length : Int) + 1) h1 h2 h3 h'.fin hk rfl
    exact q _ _ _ b2 b3 b1 rfl
theorem M_Reader_expect (T : TX K mg) : MethAt P w K mg base (L2.CX P w) "Reader" "expect" 5 ["self", "sign"] (spRdExp K) :=
  meth_ofX T 36 53 sc_Reader_expect bn_Reader_expect (by walk_at "len") (b_Reader_expect T)
def spRdTake (K : PySem.W.Frag) : Sp := fun vs H Q E => ∃ (a L : Addr) (us r : List Tok) (t : Tok) (k s : Str), vs = [.ref a, .str k, .str s] ∧ RdAt K H a L us (t :: r) ∧ k ≠ "end" ∧
  (t.kind = k → ∀ H', Kp [a] H H' → Kt H H' → RdAt K H' a L (us ++ [t]) r → okS t.text = true → t.text.length ≤ 8000 → Q (.str t.text) H') ∧ (t.kind ≠ k → FltE K E [a] H (fltAt t s))
theorem sc_Reader_take : FnScope ["self", "kind", "words"] ["self", "kind", "words"] (defScope s_Reader_take) := ⟨rfl, rfl, rfl, by decide +kernel, rfl, by decide +kernel, by decide +kernel⟩
theorem bn_Reader_take : BindM "take" "Reader.take" s_Reader_take ["self", "kind", "words"] := fun _ _ _ _ _ _ us hl => match us, hl with | [_, _, _], _ => rfl
theorem b_Reader_take (T : TX K mg) : BodyMX P w K mg base "Reader" "take" "Reader.take" s_Reader_take ["self", "kind", "words"] 4 (spRdTake K) := by
  intro cdv A outer s H vs Q E h X hr tk
  obtain ⟨a, L, us, r, t, k, s, rfl, h, hk, q, qe⟩ := h
  have C_Reader := C_Reader T; have M_Reader_kind := M_Reader_kind (P := P) (w := w) (base := base) T; have M_Reader_refuse := M_Reader_refuse (P := P) (w := w) (base := base) T
  refine ⟨_, (pss_cons (ps_if (pt_cmpR (op_neU (K := K) hr.units) (pe_methS0 M_Reader_kind C_Reader hr at0 (pv 0)) (pv 1) (nomark _)) (pss_one (ps_expr (pe_methS1 M_Reader_refuse C_Reader hr (atW tk) (pv 0) (pa_cons (pv 2) pa_nil)))) pss_nil) (pss_cons (ps_fldU (K := K) (pv 0) (pe_op (op_addU (K := K)) (pe_fldU (K := K) (pv 0)) pe_int)) (pss_one (ps_ret (pe_ix (ix_U (K := K)) (pe_ix (ix_U (K := K)) (pe_fldU (K := K) (pv 0)) (pe_op op_subU (pe_fldU (K := K) (pv 0)) pe_int) (fun _ _ => rfl)) pe_int (fun _ _ => rfl)))))), ?_⟩
  obtain ⟨dx, l, xs, p, h1, h2, hl, h3, hat, hp, k1, k2, k3⟩ := h.tok
  walk_at "st"
  refine ⟨a, L, us, r, t, rfl, h, ?_⟩
  walk_at "st"
  refine c_iteN (fun g => ?_) (fun g => ?_)
  · walk_at "st"
    exact ⟨a, L, us, r, t, s, rfl, h, qe g⟩
  · walk_at "st"
    obtain rfl := (h.lk _ _ _ h1).symm
    obtain ⟨b1, b2, b3⟩ := rd_next (dx := dx) (i := (us.length : Int) + 1) h1 h2 h3 h.fin (by rw [g]; exact hk) rfl
    have ne : L ≠ a := fun e => by rw [e, h1] at h2; cases h2
    refine c_ixL (SqL.of (by rw [upd_ne ne]; exact h2)) (by rw [show (us.length : Int) + 1 - 1 = us.length from by omega]; exact hat) ?_
    have hp' := SqT.kt b3 hp
    walk_at "st"
    exact q g _ b2 b3 b1 k2 k3
theorem M_Reader_take (T : TX K mg) : MethAt P w K mg base (L2.CX P w) "Reader" "take" 5 ["self", "kind", "words"] (spRdTake K) :=
  meth_ofX T 37 54 sc_Reader_take bn_Reader_take (by walk_at "len") (b_Reader_take T)
end
end K07



namespace K07
open PySem L2 Sa
local macro_rules | `(tactic| walk_at "s1") => `(tactic| first | (with_reducible apply c_dgetK))
local macro_rules | `(tactic| walk_at "s1") => `(tactic| (with_reducible apply c_raiseO))
local macro_rules | `(tactic| walk_at "s1") => `(tactic| first | (with_reducible apply c_dgetK))
local macro_rules | `(tactic| walk_at "s1") => `(tactic| (with_reducible apply c_raiseO))
local macro_rules | `(tactic| walk_at "s1") => `(tactic| first | (with_reducible apply c_un) | (with_reducible apply c_negI))
local macro_rules | `(tactic| walk_at "s1") => `(tactic| first | ((with_reducible apply rd_g1 (by assumption)); (· walk_at "lk")) | ((with_reducible apply rd_p1 (by assumption)); (· walk_at "lk")) | ((with_reducible apply rd_g2 (by assumption)); (· walk_at "lk")) | ((with_reducible apply rd_p2 (by assumption)); (· walk_at "lk")) | ((with_reducible apply rd_r); (· walk_at "lk"); (· decide +kernel)))
local macro_rules | `(tactic| walk_at "s1") => `(tactic| (with_reducible apply c_raiseE3))
set_option pp.maxSteps 1500
section
variable {P : Program} {w : World} {K : PySem.W.Frag} {mg : Str → Option Value} {base : Heap}
structure TxOk (x : Str) (n : Nat) : Prop where
  ok : okS x = true
  len : x.length ≤ n
def repS : Hp → V → Str → Prop := fun _ v x => v = .str x ∧ TxOk x 8000
theorem q_error {α : Type} {Q : VK} {E : XK} {a L : Addr} {H : Hp} {rep : Hp → V → α → Prop} {e : RdF α} {f : Flt} (q : RetR K Q E a L H rep e) (h : e = .error f) : FltE K E [a] H f := by subst h; exact q
theorem q_ok {α : Type} {Q : VK} {E : XK} {a L : Addr} {H H' : Hp} {us' : List Tok} {rep : Hp → V → α → Prop} {e : RdF α} {x : α} {r : List Tok} {v : V} (q : RetR K Q E a L H rep e) (h : e = .ok (x, r)) (k : Kp [a] H H') (t : Kt H H') (R : RdAt K H' a L us' r) (p : rep H' v x) : Q v H' := by
  subst h; exact q v H' us' k t R p
theorem take_ok {k w : Str} {p : Str → Bool} {t : Tok} {r : List Tok} (h1 : t.kind = k) (h2 : p t.text = true) : takeP k p w (t :: r) = .ok (t.text, r) := by simp only [takeP, h1, h2, if_true]
theorem take_bad {k w : Str} {p : Str → Bool} {t : Tok} {r : List Tok} (h : t.kind = k → p t.text = false) : takeP k p w (t :: r) = .error (fltAt t w) := by
  simp only [takeP]
  by_cases hk : t.kind = k
  · rw [if_pos hk, h hk, if_neg Bool.false_ne_true]
  · rw [if_neg hk]
theorem atQ (T : TX K mg) (H : Hp) : SqT K H (He.ga K "QUESTIONS") (questL.map V.str) := strsD_at (Dt.of (T.cst 0 rfl H) rfl)
theorem atDd (T : TX K mg) (H : Hp) : SqT K H (He.ga K "DEEDS") (deedL.map V.str) := strsD_at (Dt.of (T.cst 1 rfl H) rfl)
def spRdS (K : PySem.W.Frag) (f : List Tok → RdF Str) : Sp := fun vs H Q E => ∃ (a L : Addr) (us ts : List Tok), vs = [.ref a] ∧ RdAt K H a L us ts ∧ RetR K Q E a L H repS (f ts)
theorem sc_Reader_word : FnScope ["self", "word"] ["self"] (defScope s_Reader_word) := ⟨rfl, rfl, rfl, by decide +kernel, rfl, by decide +kernel, by decide +kernel⟩
theorem bn_Reader_word : BindM "word" "Reader.word" s_Reader_word ["self"] := fun _ _ _ _ _ _ us hl => match us, hl with | [_], _ => rfl
theorem b_Reader_word (T : TX K mg) : BodyMX P w K mg base "Reader" "word" "Reader.word" s_Reader_word ["self", "word"] 5 (spRdS K wordF) := by
  intro cdv A outer s H vs Q E h X hr tk
  obtain ⟨a, L, us, ts, rfl, h, q⟩ := h
  have C_Reader := C_Reader T; have M_Reader_back := M_Reader_back (P := P) (w := w) (base := base) T; have M_Reader_take := M_Reader_take (P := P) (w := w) (base := base) T
  refine ⟨_, (pss_cons (ps_set (i := 1) sc_Reader_word.nd rfl (Or.inl rfl) (pe_methS1 M_Reader_take C_Reader hr (atW tk) (pv 0) (pa_cons pe_str (pa_cons pe_str pa_nil)))) (pss_cons (ps_if (PW.pt (pw_and (pt_cmpR (op_notInU (K := K)) (pv 1) (pe_gCon (T.glo 57)) rfl) (pw_and1 (pt_cmpR (op_notInU (K := K)) (pv 1) (pe_gCon (T.glo 56)) rfl)))) (pss_one (ps_expr (pe_methS1 M_Reader_back C_Reader hr (atW tk) (pv 0) (pa_cons pe_str pa_nil)))) pss_nil) (pss_one (ps_ret (pv 1))))), ?_⟩
  obtain ⟨t, r, rfl⟩ := fin_cons h.fin
  obtain ⟨dx0, l0, xs0, p0, h10, _⟩ := h.tok
  walk_at "st"
  refine ⟨a, L, us, r, t, _, _, rfl, h, by decide +kernel, fun hk H1 k1 t1 h1 o1 l1 => ?_, fun hk => q_error q (take_bad fun e => absurd e hk)⟩
  obtain ⟨dx1, l2, xs1, h11, _⟩ := h1.ex
  have q := q.kp k1 t1
  walk_at "st"
  refine c_notInSs (.inr (atQ T H1)) ?_
  walk_at "st"
  have bad : t.text ∉ questL → t.text ∉ deedL → wordF (t :: r) = .error (fltAt t "expected an action") := fun g1 g2 => take_bad fun _ => by unfold wordB; simp [g1, g2]
  have good : wordB t.text = true → Q (.str t.text) H1 := fun g => q_ok q (take_ok hk g) Kp.refl Kt.refl h1 ⟨rfl, o1, l1⟩
  refine c_iteNB (fun g1 => ?_) (fun g1 => ?_)
  · rw [decide_eq_false_iff_not] at g1
    walk_at "st"
    refine c_notInSs (.inr (atDd T H1)) ?_
    walk_at "st"
    refine c_iteNB (fun g2 => ?_) (fun g2 => ?_)
    · rw [decide_eq_false_iff_not] at g2
      walk_at "st"
      exact ⟨a, L, us, r, t, _, rfl, h1, q_error q (bad g1 g2)⟩
    · walk_at "st"
      exact good (by unfold wordB; rw [g2, Bool.or_true])
  · walk_at "st"
    exact good (by unfold wordB; rw [g1, Bool.true_or])
theorem M_Reader_word (T : TX K mg) : MethAt P w K mg base (L2.CX P w) "Reader" "word" 6 ["self"] (spRdS K wordF) :=
  meth_ofX T 39 58 sc_Reader_word bn_Reader_word (by walk_at "len") (b_Reader_word T)
theorem sc_Reader_path : FnScope ["self", "path"] ["self"] (defScope s_Reader_path) := ⟨rfl, rfl, rfl, by decide +kernel, rfl, by decide +kernel, by decide +kernel⟩
theorem bn_Reader_path : BindM "path" "Reader.path" s_Reader_path ["self"] := fun _ _ _ _ _ _ us hl => match us, hl with | [_], _ => rfl
theorem b_Reader_path (T : TX K mg) : BodyMX P w K mg base "Reader" "path" "Reader.path" s_Reader_path ["self", "path"] 5 (spRdS K pathF) := by
  intro cdv A outer s H vs Q E h X hr tk
  obtain ⟨a, L, us, ts, rfl, h, q⟩ := h
  have C_Reader := C_Reader T; have D_is_path := D_is_path (P := P) (w := w) (base := base) T; have M_Reader_back := M_Reader_back (P := P) (w := w) (base := base) T; have M_Reader_take := M_Reader_take (P := P) (w := w) (base := base) T
  refine ⟨_, (pss_cons (ps_set (i := 1) sc_Reader_path.nd rfl (Or.inl rfl) (pe_methS1 M_Reader_take C_Reader hr (atW tk) (pv 0) (pa_cons pe_str (pa_cons pe_str pa_nil)))) (pss_cons (ps_if (pt_not (pt_tru (K := K) (pe_callA D_is_path hr pass0 (pa_cons (pv 1) pa_nil)))) (pss_one (ps_expr (pe_methS1 M_Reader_back C_Reader hr (atW tk) (pv 0) (pa_cons pe_str pa_nil)))) pss_nil) (pss_one (ps_ret (pv 1))))), ?_⟩
  obtain ⟨t, r, rfl⟩ := fin_cons h.fin
  obtain ⟨dx0, l0, xs0, p0, h10, _⟩ := h.tok
  walk_at "st"
  refine ⟨a, L, us, r, t, _, _, rfl, h, by decide +kernel, fun hk H1 k1 t1 h1 o1 l1 => ?_, fun hk => q_error q (take_bad fun e => absurd e hk)⟩
  have q := q.kp k1 t1
  walk_at "st"
  refine ⟨t.text, rfl, by omega, fun H2 e2 => ?_⟩
  have h2 := h1.kp0 e2
  have q := q.kp e2.mono e2.kt
  obtain ⟨dx1, l2, xs1, h11, _⟩ := h2.ex
  walk_at "st"
  refine c_iteNB (fun g => ?_) (fun g => ?_)
  · walk_at "st"
    exact ⟨a, L, us, r, t, _, rfl, h2, q_error q (take_bad fun _ => g)⟩
  · walk_at "st"
    exact q_ok q (take_ok hk g) Kp.refl Kt.refl h2 ⟨rfl, o1, l1⟩
theorem M_Reader_path (T : TX K mg) : MethAt P w K mg base (L2.CX P w) "Reader" "path" 6 ["self"] (spRdS K pathF) :=
  meth_ofX T 40 59 sc_Reader_path bn_Reader_path (by walk_at "len") (b_Reader_path T)
theorem sc_Reader_place : FnScope ["self", "place"] ["self"] (defScope s_Reader_place) := ⟨rfl, rfl, rfl, by decide +kernel, rfl, by decide +kernel, by decide +kernel⟩
theorem bn_Reader_place : BindM "place" "Reader.place" s_Reader_place ["self"] := fun _ _ _ _ _ _ us hl => match us, hl with | [_], _ => rfl
theorem b_Reader_place (T : TX K mg) : BodyMX P w K mg base "Reader" "place" "Reader.place" s_Reader_place ["self", "place"] 5 (spRdS K placeF) := by
  intro cdv A outer s H vs Q E h X hr tk
  obtain ⟨a, L, us, ts, rfl, h, q⟩ := h
  have C_Reader := C_Reader T; have D_is_path := D_is_path (P := P) (w := w) (base := base) T; have M_Reader_back := M_Reader_back (P := P) (w := w) (base := base) T; have M_Reader_take := M_Reader_take (P := P) (w := w) (base := base) T
  refine ⟨_, (pss_cons (ps_set (i := 1) sc_Reader_place.nd rfl (Or.inl rfl) (pe_methS1 M_Reader_take C_Reader hr (atW tk) (pv 0) (pa_cons pe_str (pa_cons pe_str pa_nil)))) (pss_cons (ps_if (PW.pt (pw_and (pt_cmpR (op_neU (K := K) hr.units) (pv 1) (pe_gStr (T.str 60)) (nomark _)) (pw_and1 (pt_not (pt_tru (K := K) (pe_callA D_is_path hr pass0 (pa_cons (pv 1) pa_nil))))))) (pss_one (ps_expr (pe_methS1 M_Reader_back C_Reader hr (atW tk) (pv 0) (pa_cons pe_str pa_nil)))) pss_nil) (pss_one (ps_ret (pe_ifExp (pt_cmpR (op_eqU (K := K) hr.units) (pv 1) (pe_gStr (T.str 60)) (nomark _)) pe_str (pv 1)))))), ?_⟩
  obtain ⟨t, r, rfl⟩ := fin_cons h.fin
  obtain ⟨dx0, l0, xs0, p0, h10, _⟩ := h.tok
  walk_at "st"
  have er : ∀ {f : Flt}, takeP "word" placeB "expected a place" (t :: r) = .error f → placeF (t :: r) = .error f := fun e => by unfold placeF; rw [e]; rfl
  have okp : t.kind = "word" → placeB t.text = true → placeF (t :: r) = .ok (toPlace t.text, r) := fun e1 e2 => by unfold placeF; rw [take_ok e1 e2]; rfl
  refine ⟨a, L, us, r, t, _, _, rfl, h, by decide +kernel, fun hk H1 k1 t1 h1 o1 l1 => ?_, fun hk => q_error q (er (take_bad fun e => absurd e hk))⟩
  have q := q.kp k1 t1
  walk_at "st"
  by_cases g : t.text = PySem.Str.ofString "."
  · have okq : Q (.str "") H1 := q_ok q ((okp hk (by unfold placeB; simp [g])).trans (by unfold toPlace; rw [if_pos g])) Kp.refl Kt.refl h1 ⟨rfl, by decide +kernel, Nat.zero_le _⟩
    refine c_iteN (fun g' => absurd g g') (fun _ => ?_)
    walk_at "st"
    refine c_ite (fun _ => ?_) (fun g' => absurd g g')
    walk_at "st"
    exact okq
  · refine c_iteN (fun _ => ?_) (fun g' => absurd g' g)
    walk_at "st"
    refine ⟨t.text, rfl, by omega, fun H2 e2 => ?_⟩
    have h2 := h1.kp0 e2
    have q := q.kp e2.mono e2.kt
    obtain ⟨dx1, l2, xs1, h11, _⟩ := h2.ex
    walk_at "st"
    refine c_iteNB (fun g2 => ?_) (fun g2 => ?_)
    · walk_at "st"
      exact ⟨a, L, us, r, t, _, rfl, h2, q_error q (er (take_bad fun _ => by unfold placeB; rw [g2]; simp [g]))⟩
    · walk_at "st"
      refine c_ite (fun g' => absurd g' g) (fun _ => ?_)
      walk_at "st"
      exact q_ok q ((okp hk (by unfold placeB; rw [g2, Bool.or_true])).trans (by unfold toPlace; rw [if_neg g])) Kp.refl Kt.refl h2 ⟨rfl, o1, l1⟩
theorem M_Reader_place (T : TX K mg) : MethAt P w K mg base (L2.CX P w) "Reader" "place" 6 ["self"] (spRdS K placeF) :=
  meth_ofX T 41 61 sc_Reader_place bn_Reader_place (by walk_at "len") (b_Reader_place T)
theorem sc_Reader_quoted_word : FnScope ["self", "word"] ["self"] (defScope s_Reader_quoted_word) := ⟨rfl, rfl, rfl, by decide +kernel, rfl, by decide +kernel, by decide +kernel⟩
theorem bn_Reader_quoted_word : BindM "quoted_word" "Reader.quoted_word" s_Reader_quoted_word ["self"] := fun _ _ _ _ _ _ us hl => match us, hl with | [_], _ => rfl
theorem b_Reader_quoted_word (T : TX K mg) : BodyMX P w K mg base "Reader" "quoted_word" "Reader.quoted_word" s_Reader_quoted_word ["self", "word"] 5 (spRdS K quoWF) := by
  intro cdv A outer s H vs Q E h X hr tk
  obtain ⟨a, L, us, ts, rfl, h, q⟩ := h
  have C_Reader := C_Reader T; have M_Reader_back := M_Reader_back (P := P) (w := w) (base := base) T; have M_Reader_take := M_Reader_take (P := P) (w := w) (base := base) T
  refine ⟨_, (pss_cons (ps_set (i := 1) sc_Reader_quoted_word.nd rfl (Or.inl rfl) (pe_methS1 M_Reader_take C_Reader hr (atW tk) (pv 0) (pa_cons pe_str (pa_cons pe_str pa_nil)))) (pss_cons (ps_if (pt_not (pt_chain op_leU op_leU pe_int (pe_callB (cr_len (K := K)) rfl (T.free 2) PySem.boot_len (pa_cons (pv 1) pa_nil)) (pe_gInt (T.int 62)))) (pss_one (ps_expr (pe_methS1 M_Reader_back C_Reader hr (atW tk) (pv 0) (pa_cons pe_str pa_nil)))) pss_nil) (pss_one (ps_ret (pv 1))))), ?_⟩
  obtain ⟨t, r, rfl⟩ := fin_cons h.fin
  obtain ⟨dx0, l0, xs0, p0, h10, _⟩ := h.tok
  walk_at "st"
  refine ⟨a, L, us, r, t, _, _, rfl, h, by decide +kernel, fun hk H1 k1 t1 h1 o1 l1 => ?_, fun hk => q_error q (take_bad fun e => absurd e hk)⟩
  obtain ⟨dx1, l2, xs1, h11, _⟩ := h1.ex
  have q := q.kp k1 t1
  have hs : t.text.length ≤ sizeLine := by rw [sizeLine_eq]; omega
  have good : 1 ≤ t.text.length → t.text.length ≤ 12 → Q (.str t.text) H1 := fun g1 g2 => q_ok q (take_ok hk (by unfold quoWB; simp [g1, g2])) Kp.refl Kt.refl h1 ⟨rfl, o1, l1⟩
  have bad : ¬ (1 ≤ t.text.length ∧ t.text.length ≤ 12) → FltE K E [a] H1 (fltAt t "expected a word") := fun g => q_error q (take_bad fun _ => by
    unfold quoWB
    rw [Bool.and_eq_false_iff, decide_eq_false_iff_not, decide_eq_false_iff_not]
    omega)
  walk_at "st"
  refine c_ite (fun g1 => ?_) (fun g1 => ?_)
  · walk_at "st"
    refine c_iteN (fun g2 => ?_) (fun g2 => ?_)
    · walk_at "st"
      exact ⟨a, L, us, r, t, _, rfl, h1, bad (by omega)⟩
    · walk_at "st"
      exact good (by omega) (by omega)
  · refine ⟨_, rfl, ?_⟩
    refine c_iteNB (fun _ => ?_) (fun g => by cases g)
    walk_at "st"
    exact ⟨a, L, us, r, t, _, rfl, h1, bad (by omega)⟩
theorem M_Reader_quoted_word (T : TX K mg) : MethAt P w K mg base (L2.CX P w) "Reader" "quoted_word" 6 ["self"] (spRdS K quoWF) :=
  meth_ofX T 42 63 sc_Reader_quoted_word bn_Reader_quoted_word (by walk_at "len") (b_Reader_quoted_word T)
theorem c_testOr {σ : St} {H : Hp} {tB : TT} {R : Bool → Hp → Prop} {c : Bool} (b : Bool) (h : ∀ R : Bool → Hp → Prop, (∀ H', Kp [] H H' → R b H') → tB σ H R) (q : ∀ H', Kp [] H H' → R (c || b) H') : if c = true then R true H else tB σ H R := by
  cases c with
  | true => rw [if_pos rfl]; exact q H Kp.refl
  | false => rw [if_neg Bool.false_ne_true]; exact h R q
theorem RdAt.kl {H : Hp} {a l L : Addr} {us ts : List Tok} {xs : List V} (R : RdAt K H a L us ts) (hl : H l = some (.lst xs)) (ne : l ≠ L) (o : HO) : RdAt K (upd H l o) a L us ts := by
  obtain ⟨dx, l', xs, h1, h2, h3⟩ := R.ex
  obtain rfl := (R.lk _ _ _ h1).symm
  have n1 : a ≠ l := fun e => by rw [← e, h1] at hl; cases hl
  have h1' : upd H l o a = some (.ins (He.ga K "Reader") dx (rdF (.ref L) (.int (us.length : Int)))) := by rw [upd_ne n1]; exact h1
  exact ⟨⟨dx, L, xs, h1', by rw [upd_ne (Ne.symm ne)]; exact h2, h3.kt (Kt.upd1 (NoT.lst hl))⟩, R.fin, lk_of h1'⟩
theorem RdAt.neL {H : Hp} {a l L : Addr} {us ts : List Tok} (R : RdAt K H a L us ts) (hl : H l = none) : l ≠ L := fun e => by
  obtain ⟨dx, l', xs, h1, h2, h3⟩ := R.ex
  obtain rfl := (R.lk _ _ _ h1).symm
  rw [← e, hl] at h2
  cases h2
def repL (K : PySem.W.Frag) : Hp → V → List Str → Prop := fun H v ls => ∃ p, v = .ref p ∧ SqT K H p (ls.map V.str) ∧ ls.length ≤ 12 ∧ ∀ y ∈ ls, TxOk y 20
def spRdLines (K : PySem.W.Frag) : Sp := fun vs H Q E => ∃ (a L : Addr) (us ts : List Tok) (n : Nat), vs = [.ref a, .int (n : Int)] ∧ RdAt K H a L us ts ∧ RetR K Q E a L H (repL K) (linesF n ts)
theorem sc_Reader_lines : FnScope ["self", "least", "found", "line"] ["self", "least"] (defScope s_Reader_lines) := ⟨rfl, rfl, rfl, by decide +kernel, rfl, by decide +kernel, by decide +kernel⟩
theorem bn_Reader_lines : BindM "lines" "Reader.lines" s_Reader_lines ["self", "least"] := fun _ _ _ _ _ _ us hl => match us, hl with | [_, _], _ => rfl
theorem b_Reader_lines (T : TX K mg) : BodyMX P w K mg base "Reader" "lines" "Reader.lines" s_Reader_lines ["self", "least", "found", "line"] 5 (spRdLines K) := by
  intro cdv A outer s H vs Q E h X hr tk
  obtain ⟨a, L, us, ts, n, rfl, h, q⟩ := h
  have C_Reader := C_Reader T; have M_Reader_back := M_Reader_back (P := P) (w := w) (base := base) T; have M_Reader_expect := M_Reader_expect (P := P) (w := w) (base := base) T; have M_Reader_is_sign := M_Reader_is_sign (P := P) (w := w) (base := base) T; have M_Reader_take := M_Reader_take (P := P) (w := w) (base := base) T
  refine ⟨_, (pss_cons (ps_expr (pe_methS1 M_Reader_expect C_Reader hr (atW tk) (pv 0) (pa_cons pe_str pa_nil))) (pss_cons (ps_set (i := 2) sc_Reader_lines.nd rfl (Or.inl rfl) (pe_lst pa_nil)) (Evl.pss_cut (ps_while (passes_of rfl) (PW.pt (pw_or (pt_cmpR op_ltU (pe_callB (cr_len (K := K)) rfl (T.free 2) PySem.boot_len (pa_cons (pv 2) pa_nil)) (pv 1) (nomark _)) (pw_or1 (pt_not (pt_tru (K := K) (pe_methS1 M_Reader_is_sign C_Reader hr at0 (pv 0) (pa_cons pe_str pa_nil))))))) (pss_cons (ps_set (i := 3) sc_Reader_lines.nd rfl (Or.inl rfl) (pe_methS1 M_Reader_take C_Reader hr (atW tk) (pv 0) (pa_cons pe_str (pa_cons pe_str pa_nil)))) (pss_cons (ps_if (pt_cmpR op_gtU (pe_callB (cr_len (K := K)) rfl (T.free 2) PySem.boot_len (pa_cons (pv 3) pa_nil)) (pe_gInt (T.int 65)) (nomark _)) (pss_one (ps_expr (pe_methS1 M_Reader_back C_Reader hr (atW tk) (pv 0) (pa_cons pe_str pa_nil)))) pss_nil) (pss_cons (ps_if (pt_cmpR (op_eqU (K := K) hr.units) (pe_callB (cr_len (K := K)) rfl (T.free 2) PySem.boot_len (pa_cons (pv 2) pa_nil)) (pe_gInt (T.int 64)) (nomark _)) (pss_one (ps_expr (pe_methS1 M_Reader_back C_Reader hr (atW tk) (pv 0) (pa_cons pe_str pa_nil)))) pss_nil) (pss_one (ps_expr (pe_appendU (K := K) (pv 2) (pv 3)))))))) (pss_cons (ps_expr (pe_methS1 M_Reader_expect C_Reader hr (atW tk) (pv 0) (pa_cons pe_str pa_nil))) (pss_one (ps_ret (pe_callTy (cr_tuple (K := K)) rfl (T.free 13) (by decide +kernel) (pa_cons (pv 2) pa_nil)))))))), ?_⟩
  obtain ⟨dx0, l0, xs0, h10, _⟩ := h.ex
  walk_at "st"
  refine ⟨a, L, us, ts, _, rfl, h, by decide +kernel, by decide +kernel, ?_⟩
  cases e : expF "[" ts with
  | error f => exact q_error q (by unfold linesF; rw [e]; rfl)
  | ok u =>
    obtain ⟨u, r⟩ := u
    intro v H1 us1 k1 t1 h1 _
    have q : RetR K Q E a L H1 (repL K) (linesL n [] r) := by
      have e2 : linesF n ts = linesL n [] r := by unfold linesF; rw [e]; rfl
      rw [← e2]
      exact q.kp k1 t1
    walk_at "st"
    walk_at "nw"
    intro l H2 N2
    have hla : ∀ {H' : Hp} {us' ts' : List Tok} {xs : List V}, RdAt K H' a L us' ts' → H' l = some (.lst xs) → l ≠ a := fun R hl e => by
      obtain ⟨dx, l', xs', g1, _⟩ := R.ex
      rw [e, g1] at hl
      cases hl
    walk_at "st"
    refine c_cut (fun σ' H' => ∃ us' t r' found o, RdAt K H' a L us' (t :: r') ∧ H' l = some (.lst (found.map V.str)) ∧ found.length ≤ 12 ∧ (∀ y ∈ found, TxOk y 20) ∧ Kp [a] H1 H' ∧ Kt H1 H' ∧ linesL n [] r = .ok (found, r') ∧ isSg "]" t = true ∧
      σ' = [some (.ref a), some (.int (n : Int)), some (.ref l), o]) ?_ ?_
    · refine c_while (fun m σ' H' => ∃ us' ts' found o, m = ts'.length ∧ RdAt K H' a L us' ts' ∧ H' l = some (.lst (found.map V.str)) ∧ found.length ≤ 12 ∧ (∀ y ∈ found, TxOk y 20) ∧ Kp [a] H1 H' ∧ Kt H1 H' ∧ linesL n found ts' = linesL n [] r ∧
        σ' = [some (.ref a), some (.int (n : Int)), some (.ref l), o]) r.length ⟨us1, r, [], none, rfl, h1.kp0 N2.kp, N2.at_, Nat.zero_le _, (fun _ h => by cases h), N2.kp, N2.kp.kt, rfl, rfl⟩ ?_
      rintro m _ H3 ⟨us', ts', found, o, rfl, R3, hl3, hf3, ho3, k3, t3, e3, rfl⟩
      obtain ⟨t, r', rfl⟩ := fin_cons R3.fin
      obtain ⟨dx3, l3, xs3, h13, _⟩ := R3.ex
      walk_at "st"
      rw [List.length_map]
      refine c_testOr (!isSg "]" t) (fun R q => ?_) (fun H4 e4 => ?_)
      · walk_at "st"
        refine ⟨a, L, us', r', t, _, rfl, R3, by decide +kernel, fun H4 e4 => ?_⟩
        walk_at "st"
        exact q H4 e4
      · have R4 := R3.kp0 e4
        have hl4 := e4.at0 hl3
        have k4 := k3.trans e4.mono
        have t4 := t3.trans e4.kt
        have q := q.kp k4 t4
        rw [← e3] at q
        have nc : (decide ((found.length : Int) < (n : Int)) || !isSg "]" t) = true ↔ (found.length < n ∨ isSg "]" t = false) := by
          rw [Bool.or_eq_true, decide_eq_true_eq, Bool.not_eq_true']
          constructor
          · rintro (h | h)
            · exact .inl (by omega)
            · exact .inr h
          · rintro (h | h)
            · exact .inl (by omega)
            · exact .inr h
        by_cases hc : found.length < n ∨ isSg "]" t = false
        · show if _ = true then _ else _
          refine c_iteT (nc.mpr hc) (c_turn ?_)
          obtain ⟨dx4, l4, xs4, h14, _⟩ := R4.ex
          walk_at "st"
          refine ⟨a, L, us', r', t, _, _, rfl, R4, by decide +kernel, fun hk H5 k5 t5 R5 o5 l5 => ?_, fun hk => q_error q (by rw [linesL, if_pos hc, if_neg hk])⟩
          have hl5 := k5.at1 (hla R4 hl4) hl4
          have q := q.kp k5 t5
          have hs : t.text.length ≤ sizeLine := by rw [sizeLine_eq]; omega
          obtain ⟨dx5, l6, xs5, h15, _⟩ := R5.ex
          walk_at "st"
          refine c_ite (fun g1 => ?_) (fun g1 => ?_)
          · walk_at "st"
            exact ⟨a, L, us', r', t, _, rfl, R5, q_error q (by rw [linesL, if_pos hc, if_pos hk, if_pos (by omega)])⟩
          walk_at "st"
          rw [List.length_map]
          refine c_ite (fun g2 => ?_) (fun g2 => ?_)
          · walk_at "st"
            exact ⟨a, L, us', r', t, _, rfl, R5, q_error q (by rw [linesL, if_pos hc, if_pos hk, if_neg (by omega), if_pos (by omega)])⟩
          walk_at "st"
          have kt : Kt H5 (upd H5 l (.lst (found.map V.str ++ [.str t.text]))) := Kt.upd1 (NoT.lst hl5)
          have R6 : RdAt K (upd H5 l (.lst (found.map V.str ++ [.str t.text]))) a L (us' ++ [t]) r' := R5.kl hl5 (h1.neL N2.fr) _
          refine ⟨r'.length, by simp, us' ++ [t], r', found ++ [t.text], _, rfl, R6, ?_, by rw [List.length_append, List.length_singleton]; omega, ?_, ?_, (t4.trans t5).trans kt, ?_, rfl⟩
          · rw [upd_same, List.map_append]; rfl
          · intro y hy
            rcases List.mem_append.mp hy with hy | hy
            · exact ho3 y hy
            · rw [List.mem_singleton] at hy
              subst hy
              exact ⟨o5, by omega⟩
          · exact (k4.trans k5).fresh_mut N2.fr
          · rw [← e3]
            conv => rhs; rw [linesL, if_pos hc, if_pos hk, if_neg (by omega), if_neg (by omega)]
        · show if _ = true then _ else _
          refine c_iteF (by rw [Bool.eq_false_iff]; exact fun h => hc (nc.mp h)) ?_
          have hs : isSg "]" t = true := by
            cases hh : isSg "]" t with
            | true => rfl
            | false => exact absurd (.inr hh) hc
          exact ⟨us', t, r', found, o, R4, hl4, hf3, ho3, k4, t4, by rw [← e3, linesL, if_neg hc], hs, rfl⟩
    · rintro _ H3 ⟨us', t, r', found, o, R3, hl3, hf3, ho3, k3, t3, e3, hs, rfl⟩
      obtain ⟨dx3, l3, xs3, h13, _⟩ := R3.ex
      have q := q.kp k3 t3
      walk_at "st"
      refine ⟨a, L, us', t :: r', _, rfl, R3, by decide +kernel, by decide +kernel, ?_⟩
      rw [expF, if_pos hs]
      intro v H4 us4 k4 t4 R4 _
      have hl4 := k4.at1 (hla R3 hl3) hl3
      walk_at "st"
      refine c_tupleL (SqL.of hl4) fun p H5 N5 => ?_
      exact q_ok q e3 (k4.trans N5.kp) (t4.trans N5.kp.kt) (R4.kp0 N5.kp) ⟨p, rfl, SqT.of N5.at_, hf3, ho3⟩
theorem M_Reader_lines (T : TX K mg) : MethAt P w K mg base (L2.CX P w) "Reader" "lines" 6 ["self", "least"] (spRdLines K) :=
  meth_ofX T 43 66 sc_Reader_lines bn_Reader_lines (by walk_at "len") (b_Reader_lines T)
end
end K07



namespace K07
open PySem L2 Sa
local macro_rules | `(tactic| walk_at "s1") => `(tactic| first | (with_reducible apply c_dgetK))
local macro_rules | `(tactic| walk_at "s1") => `(tactic| (with_reducible apply c_raiseO))
local macro_rules | `(tactic| walk_at "s1") => `(tactic| first | (with_reducible apply c_dgetK))
local macro_rules | `(tactic| walk_at "s1") => `(tactic| (with_reducible apply c_raiseO))
local macro_rules | `(tactic| walk_at "s1") => `(tactic| first | (with_reducible apply c_un) | (with_reducible apply c_negI))
local macro_rules | `(tactic| walk_at "s1") => `(tactic| first | ((with_reducible apply rd_g1 (by assumption)); (· walk_at "lk")) | ((with_reducible apply rd_p1 (by assumption)); (· walk_at "lk")) | ((with_reducible apply rd_g2 (by assumption)); (· walk_at "lk")) | ((with_reducible apply rd_p2 (by assumption)); (· walk_at "lk")) | ((with_reducible apply rd_r); (· walk_at "lk"); (· decide +kernel)))
local macro_rules | `(tactic| walk_at "s1") => `(tactic| (with_reducible apply c_raiseE3))
set_option pp.maxSteps 1500
section
variable {P : Program} {w : World} {K : PySem.W.Frag} {mg : Str → Option Value} {base : Heap}
theorem actAt_kt {H H' : Hp} {a : Addr} (e : Kt H H') : ∀ {x : Action}, ActAt K H a x → ActAt K H' a x
  | .read _, h => SqT.kt e h
  | .kind _, h => SqT.kt e h
  | .list _, h => SqT.kt e h
  | .find _ _, h => SqT.kt e h
  | .count _, h => SqT.kt e h
  | .write _ _, ⟨l, h1, h2⟩ => ⟨l, SqT.kt e h1, SqT.kt e h2⟩
  | .remove _, h => SqT.kt e h
  | .move _ _, h => SqT.kt e h
  | .splice _ _ _, ⟨l, m, h1, h2, h3⟩ => ⟨l, m, SqT.kt e h1, SqT.kt e h2, SqT.kt e h3⟩
structure LsTx (ls : List Str) : Prop where
  len : ls.length ≤ 13
  tx : ∀ y ∈ ls, TxOk y 20
def Action.tx : Action → Prop
  | .read p => TxOk p 8000
  | .kind p => TxOk p 8000
  | .list p => TxOk p 8000
  | .count p => TxOk p 8000
  | .remove p => TxOk p 8000
  | .find z u => TxOk z 8000 ∧ TxOk u 8000
  | .move p t => TxOk p 8000 ∧ TxOk t 8000
  | .write p ls => TxOk p 8000 ∧ LsTx ls
  | .splice p old new => TxOk p 8000 ∧ LsTx old ∧ LsTx new
def repA (K : PySem.W.Frag) : Hp → V → Action → Prop := fun H v x => ∃ p, v = .ref p ∧ ActAt K H p x ∧ x.tx
theorem take_inv {k w : Str} {p : Str → Bool} {ts r : List Tok} {u : Str} (h : takeP k p w ts = .ok (u, r)) : p u = true := by
  cases ts with
  | nil => cases h
  | cons t r' =>
    simp only [takeP] at h
    split at h
    · split at h
      · injection h with h; injection h with h _; subst h; assumption
      · cases h
    · cases h
theorem go_err {α β : Type} {e : RdF α} {f : α → List Tok → RdF β} {x : Flt} (h : e = .error x) : e.go f = .error x := by subst h; rfl
theorem go_app {α β : Type} {e : RdF α} {f : α → List Tok → RdF β} {x : α} {r : List Tok} (h : e = .ok (x, r)) : e.go f = f x r := by subst h; rfl
theorem words9 {z : Str} (h : wordB z = true) : z = "read" ∨ z = "kind" ∨ z = "list" ∨ z = "find" ∨ z = "count" ∨ z = "write" ∨ z = "remove" ∨ z = "move" ∨ z = "splice" := by
  unfold wordB questL deedL at h
  simp only [Bool.or_eq_true, decide_eq_true_eq, List.mem_cons, List.not_mem_nil, or_false] at h
  rcases h with (h | h | h | h | h) | (h | h | h | h)
  all_goals simp [h]
theorem rest_read {r : List Tok} : restF "read" r = (pathF r).go fun p r => .ok (.read p, r) := by kernel_rfl
theorem rest_remove {r : List Tok} : restF "remove" r = (pathF r).go fun p r => .ok (.remove p, r) := by kernel_rfl
theorem rest_kind {r : List Tok} : restF "kind" r = (placeF r).go fun p r => .ok (.kind p, r) := by kernel_rfl
theorem rest_list {r : List Tok} : restF "list" r = (placeF r).go fun p r => .ok (.list p, r) := by kernel_rfl
theorem rest_count {r : List Tok} : restF "count" r = (placeF r).go fun p r => .ok (.count p, r) := by kernel_rfl
theorem rest_find {r : List Tok} : restF "find" r = (placeF r).go fun z r => (quoWF r).go fun u r => .ok (.find z u, r) := by kernel_rfl
theorem rest_write {r : List Tok} : restF "write" r = (pathF r).go fun p r => (linesF 0 r).go fun ls r => .ok (.write p ls, r) := by kernel_rfl
theorem rest_move {r : List Tok} : restF "move" r = (pathF r).go fun p r => (pathF r).go fun q r => .ok (.move p q, r) := by kernel_rfl
theorem rest_splice {r : List Tok} : restF "splice" r = (pathF r).go fun p r => (linesF 1 r).go fun old r => (linesF 0 r).go fun new r => .ok (.splice p old new, r) := by kernel_rfl
def spRdAct (K : PySem.W.Frag) : Sp := fun vs H Q E => ∃ (a L : Addr) (us ts : List Tok), vs = [.ref a] ∧ RdAt K H a L us ts ∧ RetR K Q E a L H (repA K) (actRF ts)
theorem sc_Reader_action : FnScope ["self", "word", "place", "action", "old"] ["self"] (defScope s_Reader_action) := ⟨rfl, rfl, rfl, by decide +kernel, rfl, by decide +kernel, by decide +kernel⟩
theorem bn_Reader_action : BindM "action" "Reader.action" s_Reader_action ["self"] := fun _ _ _ _ _ _ us hl => match us, hl with | [_], _ => rfl
theorem b_Reader_action (T : TX K mg) : BodyMX P w K mg base "Reader" "action" "Reader.action" s_Reader_action ["self", "word", "place", "action", "old"] 6 (spRdAct K) := by
  intro cdv A outer s H vs Q E h X hr tk
  obtain ⟨a, L, us, ts, rfl, h, q⟩ := h
  have C_Reader := C_Reader T; have M_Reader_expect := M_Reader_expect (P := P) (w := w) (base := base) T; have M_Reader_lines := M_Reader_lines (P := P) (w := w) (base := base) T; have M_Reader_path := M_Reader_path (P := P) (w := w) (base := base) T; have M_Reader_place := M_Reader_place (P := P) (w := w) (base := base) T; have M_Reader_quoted_word := M_Reader_quoted_word (P := P) (w := w) (base := base) T; have M_Reader_word := M_Reader_word (P := P) (w := w) (base := base) T
  refine ⟨_, (pss_cons (ps_expr (pe_methS1 M_Reader_expect C_Reader hr (atW tk) (pv 0) (pa_cons pe_str pa_nil))) (pss_cons (ps_set (i := 1) sc_Reader_action.nd rfl (Or.inl rfl) (pe_methS0 M_Reader_word C_Reader hr (atW tk) (pv 0))) (Evl.pss_cut (ps_if (pt_cmpR (op_eqU (K := K) hr.units) (pv 1) pe_str (nomark _)) (pss_cons (ps_set (i := 2) sc_Reader_action.nd rfl (Or.inl rfl) (pe_methS0 M_Reader_place C_Reader hr (atW tk) (pv 0))) (pss_one (ps_set (i := 3) sc_Reader_action.nd rfl (Or.inl rfl) (pe_tup (pa_cons (pv 1) (pa_cons (pv 2) (pa_cons (pe_methS0 M_Reader_quoted_word C_Reader hr (atW tk) (pv 0)) pa_nil))))))) (pss_one (ps_if (PW.pt (pw_or (pt_cmpR (op_eqU (K := K) hr.units) (pv 1) pe_str (nomark _)) (pw_or (pt_cmpR (op_eqU (K := K) hr.units) (pv 1) pe_str (nomark _)) (pw_or1 (pt_cmpR (op_eqU (K := K) hr.units) (pv 1) pe_str (nomark _)))))) (pss_one (ps_set (i := 3) sc_Reader_action.nd rfl (Or.inl rfl) (pe_tup (pa_cons (pv 1) (pa_cons (pe_methS0 M_Reader_place C_Reader hr (atW tk) (pv 0)) pa_nil))))) (pss_one (ps_set (i := 3) sc_Reader_action.nd rfl (Or.inl rfl) (pe_tup (pa_cons (pv 1) (pa_cons (pe_methS0 M_Reader_path C_Reader hr (atW tk) (pv 0)) pa_nil)))))))) (Evl.pss_cut (ps_if (pt_cmpR (op_eqU (K := K) hr.units) (pv 1) pe_str (nomark _)) (pss_one (ps_set (i := 3) sc_Reader_action.nd rfl (Or.inl rfl) (pe_op (op_addU (K := K)) (pv 3) (pe_tup (pa_cons (pe_methS1 M_Reader_lines C_Reader hr (atW tk) (pv 0) (pa_cons pe_int pa_nil)) pa_nil))))) (pss_one (ps_if (pt_cmpR (op_eqU (K := K) hr.units) (pv 1) pe_str (nomark _)) (pss_one (ps_set (i := 3) sc_Reader_action.nd rfl (Or.inl rfl) (pe_op (op_addU (K := K)) (pv 3) (pe_tup (pa_cons (pe_methS0 M_Reader_path C_Reader hr (atW tk) (pv 0)) pa_nil))))) (pss_one (ps_if (pt_cmpR (op_eqU (K := K) hr.units) (pv 1) pe_str (nomark _)) (pss_cons (ps_set (i := 4) sc_Reader_action.nd rfl (Or.inl rfl) (pe_methS1 M_Reader_lines C_Reader hr (atW tk) (pv 0) (pa_cons pe_int pa_nil))) (pss_one (ps_set (i := 3) sc_Reader_action.nd rfl (Or.inl rfl) (pe_op (op_addU (K := K)) (pv 3) (pe_tup (pa_cons (pv 4) (pa_cons (pe_methS1 M_Reader_lines C_Reader hr (atW tk) (pv 0) (pa_cons pe_int pa_nil)) pa_nil))))))) pss_nil))))) (pss_cons (ps_expr (pe_methS1 M_Reader_expect C_Reader hr (atW tk) (pv 0) (pa_cons pe_str pa_nil))) (pss_one (ps_ret (pv 3)))))))), ?_⟩
  obtain ⟨dx0, l0, xs0, h10, _⟩ := h.ex
  walk_at "st"
  refine ⟨a, L, us, ts, _, rfl, h, by decide +kernel, by decide +kernel, ?_⟩
  cases e1 : expF "(" ts with
  | error f => exact q_error q (go_err e1)
  | ok u1 =>
  obtain ⟨u1, r1⟩ := u1
  intro v1 H1 us1 k1 t1 R1 _
  have q := q.kp k1 t1
  unfold actRF at q
  rw [go_app e1] at q
  obtain ⟨dx1, l1, xs1, h11, _⟩ := R1.ex
  walk_at "st"
  refine ⟨a, L, us1, r1, rfl, R1, ?_⟩
  cases e2 : wordF r1 with
  | error f => exact q_error q (go_err e2)
  | ok u2 =>
  obtain ⟨wd, r2⟩ := u2
  rintro _ H2 us2 k2 t2 R2 ⟨rfl, -⟩
  have q := q.kp k2 t2
  rw [go_app e2] at q
  have hw := words9 (take_inv e2)
  obtain ⟨dx2, l2, xs2, h12, _⟩ := R2.ex
  clear e1 e2
  refine c_cut (fun σ' H' => ∃ us3 r3 p o1 o2, RdAt K H' a L us3 r3 ∧ Kp [a] H2 H' ∧ Kt H2 H' ∧ ((∃ x, ActAt K H' p x ∧ x.tx ∧ restF wd r2 = .ok (x, r3) ∧ wd ∉ ([PySem.Str.ofString "write", "move", "splice"] : List Str)) ∨
      (∃ z, SqT K H' p [.str wd, .str z] ∧ TxOk z 8000 ∧ restF wd r2 = restP wd z r3 ∧ wd ∈ ([PySem.Str.ofString "write", "move", "splice"] : List Str))) ∧ σ' = [some (.ref a), some (.str wd), o1, some (.ref p), o2]) ?_ ?_
  · rcases hw with rfl | rfl | rfl | rfl | rfl | rfl | rfl | rfl | rfl
    · walk_at "dc"
      refine ⟨a, L, us2, r2, rfl, R2, ?_⟩
      cases e3 : pathF r2 with
      | error f => exact q_error q (go_err (by rw [rest_read]; exact go_err e3))
      | ok u3 =>
        obtain ⟨z, r3⟩ := u3
        rintro _ H3 us3 k3 t3 R3 ⟨rfl, hz⟩
        walk_at "st"
        walk_at "nw"
        intro p H4 N4
        walk_at "st"
        exact ⟨us3, r3, p, _, _, R3.kp0 N4.kp, k3.trans N4.kp, t3.trans N4.kp.kt, .inl ⟨.read z, SqT.of N4.at_, hz, by rw [rest_read]; exact go_app e3, by decide +kernel⟩, rfl⟩
    · walk_at "dc"
      refine ⟨a, L, us2, r2, rfl, R2, ?_⟩
      cases e3 : placeF r2 with
      | error f => exact q_error q (go_err (by rw [rest_kind]; exact go_err e3))
      | ok u3 =>
        obtain ⟨z, r3⟩ := u3
        rintro _ H3 us3 k3 t3 R3 ⟨rfl, hz⟩
        walk_at "st"
        walk_at "nw"
        intro p H4 N4
        walk_at "st"
        exact ⟨us3, r3, p, _, _, R3.kp0 N4.kp, k3.trans N4.kp, t3.trans N4.kp.kt, .inl ⟨.kind z, SqT.of N4.at_, hz, by rw [rest_kind]; exact go_app e3, by decide +kernel⟩, rfl⟩
    · walk_at "dc"
      refine ⟨a, L, us2, r2, rfl, R2, ?_⟩
      cases e3 : placeF r2 with
      | error f => exact q_error q (go_err (by rw [rest_list]; exact go_err e3))
      | ok u3 =>
        obtain ⟨z, r3⟩ := u3
        rintro _ H3 us3 k3 t3 R3 ⟨rfl, hz⟩
        walk_at "st"
        walk_at "nw"
        intro p H4 N4
        walk_at "st"
        exact ⟨us3, r3, p, _, _, R3.kp0 N4.kp, k3.trans N4.kp, t3.trans N4.kp.kt, .inl ⟨.list z, SqT.of N4.at_, hz, by rw [rest_list]; exact go_app e3, by decide +kernel⟩, rfl⟩
    · walk_at "dc"
      refine ⟨a, L, us2, r2, rfl, R2, ?_⟩
      cases e3 : placeF r2 with
      | error f => exact q_error q (go_err (by rw [rest_find]; exact go_err e3))
      | ok u3 =>
        obtain ⟨z, r3⟩ := u3
        rintro _ H3 us3 k3 t3 R3 ⟨rfl, hz⟩
        have q := q.kp k3 t3
        obtain ⟨dx3, l3, xs3, h13, _⟩ := R3.ex
        walk_at "st"
        refine ⟨a, L, us3, r3, rfl, R3, ?_⟩
        cases e4 : quoWF r3 with
        | error f => exact q_error q (go_err (by rw [rest_find, go_app e3]; exact go_err e4))
        | ok u4 =>
          obtain ⟨u, r4⟩ := u4
          rintro _ H4 us4 k4 t4 R4 ⟨rfl, hu⟩
          walk_at "st"
          walk_at "nw"
          intro p H5 N5
          walk_at "st"
          exact ⟨us4, r4, p, _, _, R4.kp0 N5.kp, (k3.trans k4).trans N5.kp, (t3.trans t4).trans N5.kp.kt, .inl ⟨.find z u, SqT.of N5.at_, ⟨hz, hu⟩, by rw [rest_find, go_app e3]; exact go_app e4, by decide +kernel⟩, rfl⟩
    · walk_at "dc"
      refine ⟨a, L, us2, r2, rfl, R2, ?_⟩
      cases e3 : placeF r2 with
      | error f => exact q_error q (go_err (by rw [rest_count]; exact go_err e3))
      | ok u3 =>
        obtain ⟨z, r3⟩ := u3
        rintro _ H3 us3 k3 t3 R3 ⟨rfl, hz⟩
        walk_at "st"
        walk_at "nw"
        intro p H4 N4
        walk_at "st"
        exact ⟨us3, r3, p, _, _, R3.kp0 N4.kp, k3.trans N4.kp, t3.trans N4.kp.kt, .inl ⟨.count z, SqT.of N4.at_, hz, by rw [rest_count]; exact go_app e3, by decide +kernel⟩, rfl⟩
    · walk_at "dc"
      refine ⟨a, L, us2, r2, rfl, R2, ?_⟩
      cases e3 : pathF r2 with
      | error f => exact q_error q (go_err (by rw [rest_write]; exact go_err e3))
      | ok u3 =>
        obtain ⟨z, r3⟩ := u3
        rintro _ H3 us3 k3 t3 R3 ⟨rfl, hz⟩
        walk_at "st"
        walk_at "nw"
        intro p H4 N4
        walk_at "st"
        exact ⟨us3, r3, p, _, _, R3.kp0 N4.kp, k3.trans N4.kp, t3.trans N4.kp.kt, .inr ⟨z, SqT.of N4.at_, hz, by rw [rest_write, go_app e3]; kernel_rfl, by decide +kernel⟩, rfl⟩
    · walk_at "dc"
      refine ⟨a, L, us2, r2, rfl, R2, ?_⟩
      cases e3 : pathF r2 with
      | error f => exact q_error q (go_err (by rw [rest_remove]; exact go_err e3))
      | ok u3 =>
        obtain ⟨z, r3⟩ := u3
        rintro _ H3 us3 k3 t3 R3 ⟨rfl, hz⟩
        walk_at "st"
        walk_at "nw"
        intro p H4 N4
        walk_at "st"
        exact ⟨us3, r3, p, _, _, R3.kp0 N4.kp, k3.trans N4.kp, t3.trans N4.kp.kt, .inl ⟨.remove z, SqT.of N4.at_, hz, by rw [rest_remove]; exact go_app e3, by decide +kernel⟩, rfl⟩
    · walk_at "dc"
      refine ⟨a, L, us2, r2, rfl, R2, ?_⟩
      cases e3 : pathF r2 with
      | error f => exact q_error q (go_err (by rw [rest_move]; exact go_err e3))
      | ok u3 =>
        obtain ⟨z, r3⟩ := u3
        rintro _ H3 us3 k3 t3 R3 ⟨rfl, hz⟩
        walk_at "st"
        walk_at "nw"
        intro p H4 N4
        walk_at "st"
        exact ⟨us3, r3, p, _, _, R3.kp0 N4.kp, k3.trans N4.kp, t3.trans N4.kp.kt, .inr ⟨z, SqT.of N4.at_, hz, by rw [rest_move, go_app e3]; kernel_rfl, by decide +kernel⟩, rfl⟩
    · walk_at "dc"
      refine ⟨a, L, us2, r2, rfl, R2, ?_⟩
      cases e3 : pathF r2 with
      | error f => exact q_error q (go_err (by rw [rest_splice]; exact go_err e3))
      | ok u3 =>
        obtain ⟨z, r3⟩ := u3
        rintro _ H3 us3 k3 t3 R3 ⟨rfl, hz⟩
        walk_at "st"
        walk_at "nw"
        intro p H4 N4
        walk_at "st"
        exact ⟨us3, r3, p, _, _, R3.kp0 N4.kp, k3.trans N4.kp, t3.trans N4.kp.kt, .inr ⟨z, SqT.of N4.at_, hz, by rw [rest_splice, go_app e3]; kernel_rfl, by decide +kernel⟩, rfl⟩
  rintro _ H3 ⟨us3, r3, p, o1, o2, R3, k3, t3, hA, rfl⟩
  have q := q.kp k3 t3
  refine c_cut (fun σ' H' => ∃ us4 r4 p x o1 o2, RdAt K H' a L us4 r4 ∧ ActAt K H' p x ∧ x.tx ∧ restF wd r2 = .ok (x, r4) ∧ Kp [a] H3 H' ∧ Kt H3 H' ∧ σ' = [some (.ref a), some (.str wd), o1, some (.ref p), o2]) ?_ ?_
  · rcases hA with ⟨x, hx, htx, e3, hn⟩ | ⟨z, hz, hzt, e3, hm⟩
    · simp only [List.mem_cons, List.not_mem_nil, or_false, not_or] at hn
      walk_at "st"
      refine c_ite (fun g => absurd g hn.1) (fun _ => ?_)
      walk_at "st"
      refine c_ite (fun g => absurd g hn.2.1) (fun _ => ?_)
      walk_at "st"
      refine c_ite (fun g => absurd g hn.2.2) (fun _ => ?_)
      walk_at "st"
      exact ⟨us3, r3, p, x, o1, o2, R3, hx, htx, e3, Kp.refl, Kt.refl, rfl⟩
    · simp only [List.mem_cons, List.not_mem_nil, or_false] at hm
      obtain ⟨dx3, l3, xs3, h13, _⟩ := R3.ex
      rcases hm with rfl | rfl | rfl
      · have e3 : restF "write" r2 = (linesF 0 r3).go fun ls r => .ok (.write z ls, r) := e3
        walk_at "dc"
        refine ⟨a, L, us3, r3, 0, rfl, R3, ?_⟩
        cases e4 : linesF 0 r3 with
        | error f => exact q_error q (go_err (by rw [e3]; exact go_err e4))
        | ok u4 =>
          obtain ⟨ls, r4⟩ := u4
          rintro _ H4 us4 k4 t4 R4 ⟨pl, rfl, hls, hl1, hl2⟩
          walk_at "st"
          walk_at "nw"
          intro p5 H5 N5
          walk_at "st"
          refine c_addT (SqT.kp N5.kp (SqT.kt t4 hz)) (SqT.of N5.at_) (by rw [sizeLine_eq]; simp only [List.length_cons, List.length_nil]; omega) fun p6 H6 e6 hp6 => ?_
          walk_at "st"
          exact ⟨us4, r4, p6, .write z ls, _, _, (R4.kp0 N5.kp).kp0 e6, ⟨pl, hp6, SqT.kp e6 (SqT.kp N5.kp hls)⟩, ⟨hzt, by omega, hl2⟩, by rw [e3]; exact go_app e4, (k4.trans N5.kp).trans e6.mono, (t4.trans N5.kp.kt).trans e6.kt, rfl⟩
      · have e3 : restF "move" r2 = (pathF r3).go fun q r => .ok (.move z q, r) := e3
        walk_at "dc"
        refine ⟨a, L, us3, r3, rfl, R3, ?_⟩
        cases e4 : pathF r3 with
        | error f => exact q_error q (go_err (by rw [e3]; exact go_err e4))
        | ok u4 =>
          obtain ⟨y, r4⟩ := u4
          rintro _ H4 us4 k4 t4 R4 ⟨rfl, hy⟩
          walk_at "st"
          walk_at "nw"
          intro p5 H5 N5
          walk_at "st"
          refine c_addT (SqT.kp N5.kp (SqT.kt t4 hz)) (SqT.of N5.at_) (by rw [sizeLine_eq]; simp only [List.length_cons, List.length_nil]; omega) fun p6 H6 e6 hp6 => ?_
          walk_at "st"
          exact ⟨us4, r4, p6, .move z y, _, _, (R4.kp0 N5.kp).kp0 e6, hp6, ⟨hzt, hy⟩, by rw [e3]; exact go_app e4, (k4.trans N5.kp).trans e6.mono, (t4.trans N5.kp.kt).trans e6.kt, rfl⟩
      · have e3 : restF "splice" r2 = (linesF 1 r3).go fun old r => (linesF 0 r).go fun new r => .ok (.splice z old new, r) := e3
        walk_at "dc"
        refine ⟨a, L, us3, r3, 1, rfl, R3, ?_⟩
        cases e4 : linesF 1 r3 with
        | error f => exact q_error q (go_err (by rw [e3]; exact go_err e4))
        | ok u4 =>
          obtain ⟨old, r4⟩ := u4
          rintro _ H4 us4 k4 t4 R4 ⟨po, rfl, ho, ho1, ho2⟩
          have q := q.kp k4 t4
          obtain ⟨dx4, l4, xs4, h14, _⟩ := R4.ex
          walk_at "st"
          refine ⟨a, L, us4, r4, 0, rfl, R4, ?_⟩
          cases e5 : linesF 0 r4 with
          | error f => exact q_error q (go_err (by rw [e3, go_app e4]; exact go_err e5))
          | ok u5 =>
            obtain ⟨new, r5⟩ := u5
            rintro _ H5 us5 k5 t5 R5 ⟨pn, rfl, hn, hn1, hn2⟩
            walk_at "st"
            walk_at "nw"
            intro p6 H6 N6
            walk_at "st"
            refine c_addT (SqT.kp N6.kp (SqT.kt t5 (SqT.kt t4 hz))) (SqT.of N6.at_) (by rw [sizeLine_eq]; simp only [List.length_cons, List.length_nil]; omega) fun p7 H7 e7 hp7 => ?_
            walk_at "st"
            exact ⟨us5, r5, p7, .splice z old new, _, _, (R5.kp0 N6.kp).kp0 e7, ⟨po, pn, hp7, SqT.kp e7 (SqT.kp N6.kp (SqT.kt t5 ho)), SqT.kp e7 (SqT.kp N6.kp hn)⟩, ⟨hzt, ⟨by omega, ho2⟩, ⟨by omega, hn2⟩⟩, by rw [e3, go_app e4]; exact go_app e5,
              ((k4.trans k5).trans N6.kp).trans e7.mono, ((t4.trans t5).trans N6.kp.kt).trans e7.kt, rfl⟩
  · rintro _ H4 ⟨us4, r4, p4, x, o1, o2, R4, hA, hx, e4, k4, t4, rfl⟩
    have q := q.kp k4 t4
    rw [go_app e4] at q
    obtain ⟨dx3, l3, xs3, h13, _⟩ := R4.ex
    walk_at "st"
    refine ⟨a, L, us4, r4, _, rfl, R4, by decide +kernel, by decide +kernel, ?_⟩
    cases e5 : expF ")" r4 with
    | error f => exact q_error q (go_err e5)
    | ok u5 =>
      obtain ⟨u5, r5⟩ := u5
      rintro v5 H5 us5 k5 t5 R5 -
      rw [go_app e5] at q
      walk_at "st"
      exact q _ H5 us5 k5 t5 R5 ⟨p4, rfl, actAt_kt t5 hA, hx⟩
theorem M_Reader_action (T : TX K mg) : MethAt P w K mg base (L2.CX P w) "Reader" "action" 7 ["self"] (spRdAct K) :=
  meth_ofX T 44 67 sc_Reader_action bn_Reader_action (by walk_at "len") (b_Reader_action T)
end
end K07



namespace K07
open PySem L2 Sa
local macro_rules | `(tactic| walk_at "s1") => `(tactic| first | (with_reducible apply c_dgetK))
local macro_rules | `(tactic| walk_at "s1") => `(tactic| (with_reducible apply c_raiseO))
local macro_rules | `(tactic| walk_at "s1") => `(tactic| first | (with_reducible apply c_dgetK))
local macro_rules | `(tactic| walk_at "s1") => `(tactic| (with_reducible apply c_raiseO))
local macro_rules | `(tactic| walk_at "s1") => `(tactic| first | (with_reducible apply c_un) | (with_reducible apply c_negI))
local macro_rules | `(tactic| walk_at "s1") => `(tactic| first | ((with_reducible apply rd_g1 (by assumption)); (· walk_at "lk")) | ((with_reducible apply rd_p1 (by assumption)); (· walk_at "lk")) | ((with_reducible apply rd_g2 (by assumption)); (· walk_at "lk")) | ((with_reducible apply rd_p2 (by assumption)); (· walk_at "lk")) | ((with_reducible apply rd_r); (· walk_at "lk"); (· decide +kernel)))
set_option pp.maxSteps 1500
theorem fresh_two {x : Nat} {l c : Int} : (fresh x l c).1.length ≤ 1 := by
  unfold fresh
  split
  · exact Nat.zero_le _
  split
  · exact Nat.zero_le _
  split
  · exact Nat.le_refl _
  split <;> exact Nat.zero_le _
theorem step_two {m m' : Md} {x : Nat} {l c : Int} {es : List Tok} (h : stepM m x l c = some (es, m')) : es.length ≤ 2 := by
  have f := fresh_two (x := x) (l := l) (c := c)
  cases m with
  | nrm =>
    have h : some (fresh x l c) = some (es, m') := h
    injection h with h
    rw [h] at f
    exact Nat.le_succ_of_le f
  | wd w l0 c0 =>
    simp only [stepM] at h
    split at h
    · injection h with h; injection h with h _; subst h; rw [List.length_cons]; omega
    · injection h with h; injection h with h _; subst h; exact Nat.zero_le _
  | quo q l0 c0 =>
    simp only [stepM] at h
    split at h
    · injection h with h; injection h with h _; subst h; exact Nat.le_succ _
    · split at h
      · cases h
      · injection h with h; injection h with h _; subst h; exact Nat.zero_le _
theorem spl_many : ∀ {r : List Nat} {m : Md} {l c : Int} {ts : List Tok}, spl m r l c = .ok ts → ts.length ≤ 2 * r.length + 2
  | [], m, l, c, ts, h => by
    have h : lastM m l c = .ok ts := h
    cases m with
    | nrm => injection h with h; subst h; exact Nat.le_succ _
    | wd w l0 c0 => injection h with h; subst h; exact Nat.le_refl _
    | quo q l0 c0 => cases h
  | x :: r, m, l, c, ts, h => by
    cases e : stepM m x l c with
    | none => rw [spl_none e] at h; cases h
    | some p =>
      obtain ⟨es, m'⟩ := p
      rw [spl_step e] at h
      cases e2 : spl m' r (nxL x l) (nxC x c) with
      | error f => rw [e2] at h; cases h
      | ok us =>
        rw [e2] at h
        injection h with h
        have i1 := spl_many e2
        have i2 := step_two e
        rw [← h, List.length_append, List.length_cons]
        omega
section
variable {P : Program} {w : World} {K : PySem.W.Frag} {mg : Str → Option Value} {base : Heap}
theorem FltE.kp0a {E : XK} {H H1 : Hp} {a : Addr} {f : Flt} (h : FltE K E [] H f) (k : Kp [] H H1) (n : H a = none) : FltE K E [a] H1 f := fun H2 d H3 k2 t2 N => h H2 d H3 (Kp.drop_fresh (k.mono.trans k2) n) (k.kt.trans t2) N
theorem c_newRd {H : Hp} {z : Str} {Q : VK} {E : XK} (hz : z.length ≤ 8000) (hok : okS z = true) (q : ∀ ts, spl .nrm z.cps.toList 1 1 = .ok ts → ∀ x L H', Kp [] H H' → H x = none → RdAt K H' x L [] ts → Q (.ref x) H')
    (qe : ∀ f, spl .nrm z.cps.toList 1 1 = .error f → FltE K E [] H f) : NewK K "Reader" (spRdInit K) [.str z] H Q E := by
  intro x dx h1 h2 h3
  have k1 : Kp [] H (upd H dx (.own x)) := Kp.new h2
  have hx : upd H dx (.own x) x = none := by rw [upd_ne (Ne.symm h3)]; exact h1
  have k2 : Kp [] H (upd (upd H dx (.own x)) x (.ins (He.ga K "Reader") dx [])) := k1.trans (Kp.new hx)
  exact ⟨x, dx, z, rfl, upd_same, hz, hok, fun ts e H' L k R => ⟨rfl, q ts e x L H' (Kp.drop_fresh (k2.mono.trans k) h1) h1 R⟩, fun f e => (qe f e).kp0 k2⟩
def spRead (K : PySem.W.Frag) : Sp := fun vs H Q E => ∃ z : Str, vs = [.str z] ∧ z.length ≤ 1000000 ∧ okS z = true ∧ (8000 < z.length → RaisesE K H E "text") ∧
  (z.length ≤ 8000 → (∀ f, readTx z = .error f → FltE K E [] H f) ∧ (∀ acts, readTx z = .ok acts → (∀ x ∈ acts, x.tx) → ∀ H' p xs, Kp [] H H' → SqT K H' p xs → DtAll K H' xs (acts.map Action.d) → Q (.ref p) H'))
theorem sc_read_actions : FnScope ["text", "reader", "actions"] ["text"] (defScope s_read_actions) := ⟨rfl, rfl, rfl, by decide +kernel, rfl, by decide +kernel, by decide +kernel⟩
theorem bn_read_actions : BindN "read_actions" s_read_actions ["text"] := fun _ _ _ _ _ _ us hl => match us, hl with | [_], _ => rfl
theorem b_read_actions (T : TX K mg) : BodyX P w K mg base "read_actions" s_read_actions ["text", "reader", "actions"] 7 (spRead K) := by
  intro cdv A outer s H vs Q E h X hr tk
  obtain ⟨z, rfl, hz, hok, qo, q⟩ := h
  have C_Reader := C_Reader T; have E_OutOfRange := E_OutOfRange (P := P) (w := w) (base := base) T; have M_Reader___init__ := M_Reader___init__ (P := P) (w := w) (base := base) T; have M_Reader_action := M_Reader_action (P := P) (w := w) (base := base) T; have M_Reader_kind := M_Reader_kind (P := P) (w := w) (base := base) T; have Mk_Reader := Mk_Reader T
  refine ⟨_, (pss_cons (ps_if (pt_cmpR op_gtU (pe_callB (cr_len (K := K)) rfl (T.free 2) PySem.boot_len (pa_cons (pv 0) pa_nil)) (pe_gInt (T.int 15)) (nomark _)) (pss_one (ps_raiseE (K := K) E_OutOfRange hr tk (pa_cons pe_str pa_nil))) pss_nil) (pss_cons (ps_set (i := 1) sc_read_actions.nd rfl (Or.inl rfl) (pe_newS M_Reader___init__ Mk_Reader C_Reader hr (atW tk) (pa_cons (pv 0) pa_nil))) (pss_cons (ps_set (i := 2) sc_read_actions.nd rfl (Or.inl rfl) (pe_lst pa_nil)) (pss_cons (ps_while (passes_of rfl) (pt_cmpR (op_neU (K := K) hr.units) (pe_methS0 M_Reader_kind C_Reader hr at0 (pv 1)) pe_str (nomark _)) (pss_one (ps_expr (pe_appendU (K := K) (pv 2) (pe_methS0 M_Reader_action C_Reader hr (atW tk) (pv 1)))))) (pss_one (ps_ret (pe_callTy (cr_tuple (K := K)) rfl (T.free 13) (by decide +kernel) (pa_cons (pv 2) pa_nil)))))))), ?_⟩
  have hs : z.length ≤ sizeLine := by rw [sizeLine_eq]; omega
  walk_at "st"
  refine c_ite (fun g => ?_) (fun g => ?_)
  · walk_at "st"
    refine c_err fun d H1 N => ?_
    exact qo (by omega) d H1 N.kp N.at_
  obtain ⟨qe, q⟩ := q (by omega)
  walk_at "st"
  refine c_newRd (by omega) hok (fun ts e a L H1 k1 f1 R1 => ?_) (fun f e => qe f (by unfold readTx; rw [e]))
  have em : readTx z = readN ts.length ts := by unfold readTx; rw [e]
  rw [em] at qe q
  have tl := spl_many e
  have zl : z.length = z.cps.toList.length := rfl
  walk_at "st"
  walk_at "nw"
  intro l H2 N2
  walk_at "st"
  refine c_while (fun m σ' H' => ∃ us ts' xs acts, m = ts'.length ∧ RdAt K H' a L us ts' ∧ H' l = some (.lst xs) ∧ DtAll K H' xs (acts.map Action.d) ∧ (∀ x ∈ acts, x.tx) ∧ acts.length + ts'.length ≤ ts.length ∧ Kp [] H H' ∧
    (∃ n, ts'.length ≤ n ∧ readN ts.length ts = (readN n ts').map (acts ++ ·)) ∧ σ' = [some (.str z), some (.ref a), some (.ref l)]) ts.length ⟨[], ts, [], [], rfl, R1.kp0 N2.kp, N2.at_, .nil, (fun _ h => by cases h), by simp, k1.trans N2.kp, ⟨_, Nat.le_refl _, by cases readN ts.length ts <;> rfl⟩, rfl⟩ ?_
  rintro m _ H3 ⟨us, ts', xs, acts, rfl, R3, hl3, hd3, htx, hn, k3, ⟨n, n1, n2⟩, rfl⟩
  obtain ⟨t, r, rfl⟩ := fin_cons R3.fin
  obtain ⟨dx3, l3, xs3, h13, _⟩ := R3.ex
  have hla : l ≠ a := fun e => by rw [e, h13] at hl3; cases hl3
  obtain ⟨n, rfl⟩ : ∃ n', n = n' + 1 := ⟨n - 1, by rw [List.length_cons] at n1; omega⟩
  have fr : H l = none := by
    cases hh : H l with
    | none => rfl
    | some o =>
      have := k1.at0 hh
      rw [N2.fr] at this
      cases this
  walk_at "st"
  refine ⟨a, L, us, r, t, rfl, R3, ?_⟩
  walk_at "st"
  refine c_iteN (fun g => ?_) (fun g => ?_)
  · refine c_turn ?_
    have hl4' := hl3
    walk_at "st"
    refine ⟨a, L, us, t :: r, rfl, R3, ?_⟩
    cases e4 : actRF (t :: r) with
    | error f =>
      refine FltE.kp0a (qe f ?_) k3 f1
      rw [n2, readN, if_neg g, e4]
      rfl
    | ok u4 =>
      obtain ⟨x, r'⟩ := u4
      rintro _ H4 us4 k4 t4 R4 ⟨p, rfl, hA, hx⟩
      have hl4 := k4.at1 hla hl3
      have xl : xs.length < sizeLine := by rw [dta_len hd3, List.length_map, sizeLine_eq]; rw [List.length_cons] at hn; omega
      walk_at "st"
      have kt : Kt H4 (upd H4 l (.lst (xs ++ [.ref p]))) := Kt.upd1 (NoT.lst hl4)
      have al := act_len e4
      have k04 : Kp [] H H4 := (k3.mono.trans k4).drop_fresh f1
      refine ⟨r'.length, al, us4, r', xs ++ [.ref p], acts ++ [x], rfl, R4.kl hl4 (R1.neL N2.fr) _, upd_same, ?_, ?_, by rw [List.length_append, List.length_singleton]; omega, k04.fresh_mut fr, ⟨n, by omega, ?_⟩, rfl⟩
      · rw [List.map_append]
        exact dta_snoc (DtAll.kt kt (DtAll.kt t4 hd3)) (Dt.kt kt hA.dt)
      · intro y hy
        rcases List.mem_append.mp hy with hy | hy
        · exact htx y hy
        · rw [List.mem_singleton] at hy
          rw [hy]; exact hx
      · rw [n2, readN, if_neg g, e4]
        show ((readN n r').map (x :: ·)).map (acts ++ ·) = _
        cases readN n r' with
        | error f => rfl
        | ok ys => show Except.ok (acts ++ x :: ys) = Except.ok ((acts ++ [x]) ++ ys); rw [List.append_assoc]; rfl
  · walk_at "st"
    refine c_tupleL (SqL.of hl3) fun p H4 N4 => ?_
    refine q acts ?_ htx H4 p xs (k3.trans N4.kp) (SqT.of N4.at_) (hd3.kp N4.kp)
    rw [n2, readN, if_pos g]
    show Except.ok (acts ++ []) = _
    rw [List.append_nil]
theorem D_read_actions (T : TX K mg) : DefAt P w K mg base (L2.CX P w) "read_actions" 8 ["text"] (spRead K) :=
  def_ofX T 5 17 sc_read_actions bn_read_actions (by walk_at "len") (b_read_actions T)
end
end K07



namespace K07
open PySem L2 Sa
local macro_rules | `(tactic| walk_at "s1") => `(tactic| first | (with_reducible apply c_dgetK))
local macro_rules | `(tactic| walk_at "s1") => `(tactic| (with_reducible apply c_raiseO))
local macro_rules | `(tactic| walk_at "s1") => `(tactic| first | (with_reducible apply c_dgetK))
local macro_rules | `(tactic| walk_at "s1") => `(tactic| (with_reducible apply c_raiseO))
local macro_rules | `(tactic| walk_at "s1") => `(tactic| first | (with_reducible apply c_un) | (with_reducible apply c_negI))
set_option pp.maxSteps 1500
def quoS (y : Str) : Str := PySem.Str.ofString "\"" ++ y ++ PySem.Str.ofString "\""
def placeS (z : Str) : Str := if z = PySem.Str.ofString "" then PySem.Str.ofString "." else z
theorem app_len (a b : Str) : (a ++ b).length = a.length + b.length := by
  show (a ++ b).cps.toList.length = a.cps.toList.length + b.cps.toList.length
  rw [cps_app, List.length_append]
theorem quoS_len (y : Str) : (quoS y).length = y.length + 2 := by
  unfold quoS
  rw [app_len, app_len, show (PySem.Str.ofString "\"").length = 1 from by decide +kernel]
  omega
section
variable {P : Program} {w : World} {K : PySem.W.Frag} {mg : Str → Option Value} {base : Heap}
end
end K07



namespace K07
open PySem L2 Sa
abbrev KT := Str × Str
def Tok.k (t : Tok) : KT := (t.kind, t.text)
inductive Mo where
  | nrm | wd (w : List Nat) | quo (q : List Nat)
def Md.no : Md → Mo
  | .nrm => .nrm
  | .wd w _ _ => .wd w
  | .quo q _ _ => .quo q
def wordK (w : List Nat) : KT := (PySem.Str.ofString "word", txt w)
def quoK (q : List Nat) : KT := (PySem.Str.ofString "quoted", txt q)
def signK (x : Nat) : KT := (PySem.Str.ofString "sign", txt [x])
def endK : KT := (PySem.Str.ofString "end", PySem.Str.ofString "")
def freshK (x : Nat) : List KT × Mo :=
  if x = 10 then ([], .nrm) else if x = 34 then ([], .quo []) else if x ∈ signsL then ([signK x], .nrm) else if x = 32 then ([], .nrm) else ([], .wd [x])
def stepK (m : Mo) (x : Nat) : Option (List KT × Mo) := match m with
  | .nrm => some (freshK x)
  | .wd w => if x ∈ endsL then some (wordK w :: (freshK x).1, (freshK x).2) else some ([], .wd (w ++ [x]))
  | .quo q => if x = 34 then some ([quoK q], .nrm) else if x = 10 then none else some ([], .quo (q ++ [x]))
def lastK : Mo → Option (List KT)
  | .nrm => some [endK]
  | .wd w => some [wordK w, endK]
  | .quo _ => none
def lx : Mo → List Nat → Option (List KT)
  | m, [] => lastK m
  | m, x :: r => match stepK m x with
    | none => none
    | some (es, m') => (lx m' r).map (es ++ ·)
theorem lx_step {m m' : Mo} {x : Nat} {r : List Nat} {es : List KT} (e : stepK m x = some (es, m')) : lx m (x :: r) = (lx m' r).map (es ++ ·) := by rw [lx, e]
theorem lx_none {m : Mo} {x : Nat} {r : List Nat} (e : stepK m x = none) : lx m (x :: r) = none := by rw [lx, e]
theorem mapk_nil (e : Option (List KT)) : e.map (([] : List KT) ++ ·) = e := by cases e <;> rfl
theorem fresh_k (x : Nat) (l c : Int) : ((fresh x l c).1.map Tok.k, (fresh x l c).2.no) = freshK x := by
  unfold fresh freshK
  split
  · rfl
  split
  · rfl
  split
  · rfl
  split <;> rfl
theorem step_k (m : Md) (x : Nat) (l c : Int) : (stepM m x l c).map (fun p => (p.1.map Tok.k, p.2.no)) = stepK m.no x := by
  cases m with
  | nrm => exact congrArg some (fresh_k x l c)
  | wd w l0 c0 =>
    have f := fresh_k x l c
    simp only [stepM, stepK, Md.no]
    split
    · show some (wordK w :: (fresh x l c).1.map Tok.k, (fresh x l c).2.no) = _
      rw [← f]
    · rfl
  | quo q l0 c0 =>
    simp only [stepM, stepK, Md.no]
    split
    · rfl
    split <;> rfl
theorem spl_lx : ∀ {r : List Nat} {m : Md} {l c : Int} {ks : List KT}, lx m.no r = some ks → ∃ ts, spl m r l c = .ok ts ∧ ts.map Tok.k = ks
  | [], m, l, c, ks, h => by
    have h : lastK m.no = some ks := h
    cases m with
    | nrm => injection h with h; exact ⟨_, rfl, h⟩
    | wd w l0 c0 => injection h with h; exact ⟨_, rfl, h⟩
    | quo q l0 c0 => cases h
  | x :: r, m, l, c, ks, h => by
    have s := step_k m x l c
    cases e : stepM m x l c with
    | none => rw [e] at s; rw [lx_none s.symm] at h; cases h
    | some p =>
      obtain ⟨es, m'⟩ := p
      rw [e] at s
      rw [lx_step s.symm] at h
      cases e2 : lx m'.no r with
      | none => rw [e2] at h; cases h
      | some us =>
        rw [e2] at h
        injection h with h
        obtain ⟨ts, h1, h2⟩ := spl_lx (l := nxL x l) (c := nxC x c) e2
        refine ⟨es ++ ts, by rw [spl_step e, h1]; rfl, ?_⟩
        rw [List.map_append, h2]
        exact h
theorem lx_nl {r : List Nat} : lx .nrm (10 :: r) = lx .nrm r := by rw [lx_step (m' := .nrm) (es := []) rfl, mapk_nil]
theorem lx_sp {r : List Nat} : lx .nrm (32 :: r) = lx .nrm r := by 
  have e : stepK .nrm 32 = some ([], .nrm) := by
    show some (freshK 32) = _
    unfold freshK
    rw [if_neg (by decide), if_neg (by decide), if_neg (by decide +kernel), if_pos rfl]
  rw [lx_step e, mapk_nil]
def Bl (b : List Nat) : Prop := ∀ x ∈ b, x = 32 ∨ x = 10
theorem lx_bl : ∀ {b r : List Nat}, Bl b → lx .nrm (b ++ r) = lx .nrm r
  | [], _, _ => rfl
  | x :: b, r, h => by
    have hb : Bl b := fun y hy => h y (List.mem_cons_of_mem _ hy)
    rcases h x (List.mem_cons_self ..) with rfl | rfl
    · rw [List.cons_append, lx_sp, lx_bl hb]
    · rw [List.cons_append, lx_nl, lx_bl hb]
inductive Ls : Bool → List Nat → List Nat → Prop
  | nil {q : Bool} : Ls q [] []
  | word {x : Nat} {r s : List Nat} : x ∉ endsL → Ls false r s → Ls false (x :: r) (x :: s)
  | blank {x : Nat} {b r s : List Nat} : (x = 32 ∨ x = 10) → Bl b → Ls false r s → Ls false (x :: r) (b ++ x :: s)
  | sign {x : Nat} {a b r s : List Nat} : x ∈ signsL → Bl a → Bl b → Ls false r s → Ls false (x :: r) (a ++ x :: (b ++ s))
  | opens {b r s : List Nat} : Bl b → Ls true r s → Ls false (34 :: r) (b ++ 34 :: s)
  | inside {x : Nat} {r s : List Nat} : x ≠ 34 → Ls true r s → Ls true (x :: r) (x :: s)
  | closes {b r s : List Nat} : Bl b → Ls false r s → Ls true (34 :: r) (34 :: (b ++ s))
def Mo.q : Mo → Bool
  | .quo _ => true
  | _ => false
def sgqC : List Nat := (PySem.Str.ofString "()[]\"").cps.toList
theorem sgq_iff {x : Nat} : x ∈ sgqC ↔ x ∈ signsL ∨ x = 34 := by
  have e1 : sgqC = [40, 41, 91, 93, 34] := by decide +kernel
  have e2 : signsL = [40, 41, 91, 93] := by decide +kernel
  rw [e1, e2]
  simp only [List.mem_cons, List.not_mem_nil, or_false]
  omega
end K07



namespace K07
open PySem L2 Sa
def lineK (y : Str) : KT := (PySem.Str.ofString "quoted", y)
def wdK (y : Str) : KT := (PySem.Str.ofString "word", y)
def sgK (y : Str) : KT := (PySem.Str.ofString "sign", y)
def linesK (ls : List Str) : List KT := sgK "[" :: (ls.map lineK ++ [sgK "]"])
def Action.restK : Action → List KT
  | .read p => [wdK "read", wdK (placeS p)]
  | .kind p => [wdK "kind", wdK (placeS p)]
  | .list p => [wdK "list", wdK (placeS p)]
  | .find z u => [wdK "find", wdK (placeS z), lineK u]
  | .count p => [wdK "count", wdK (placeS p)]
  | .write p ls => [wdK "write", wdK (placeS p)] ++ linesK ls
  | .remove p => [wdK "remove", wdK (placeS p)]
  | .move p t => [wdK "move", wdK (placeS p), wdK t]
  | .splice p o n => [wdK "splice", wdK (placeS p)] ++ linesK o ++ linesK n
def toksK (x : Action) : List KT := sgK "(" :: (x.restK ++ [sgK ")"])
theorem k_cons {ts : List Tok} {k : KT} {ks : List KT} (h : ts.map Tok.k = k :: ks) : ∃ t r, ts = t :: r ∧ t.k = k ∧ r.map Tok.k = ks := by
  cases ts with
  | nil => cases h
  | cons t r => rw [List.map_cons] at h; injection h with h1 h2; exact ⟨t, r, rfl, h1, h2⟩
theorem exp_k {ts : List Tok} {s : Str} {ks : List KT} (h : ts.map Tok.k = sgK s :: ks) : ∃ r, expF s ts = .ok ((), r) ∧ r.map Tok.k = ks := by
  obtain ⟨t, r, rfl, h1, h2⟩ := k_cons h
  have h1 : (t.kind, t.text) = (PySem.Str.ofString "sign", s) := h1
  injection h1 with h3 h4
  refine ⟨r, ?_, h2⟩
  rw [expF, if_pos]
  unfold isSg
  rw [h3, h4, decide_eq_true_eq]
theorem take_k {ts : List Tok} {k w u : Str} {p : Str → Bool} {ks : List KT} (h : ts.map Tok.k = (k, u) :: ks) (hp : p u = true) : ∃ r, takeP k p w ts = .ok (u, r) ∧ r.map Tok.k = ks := by
  obtain ⟨t, r, rfl, h1, h2⟩ := k_cons h
  have h1 : (t.kind, t.text) = (k, u) := h1
  injection h1 with h3 h4
  refine ⟨r, ?_, h2⟩
  rw [← h4]
  exact take_ok h3 (by rw [h4]; exact hp)
theorem sg_line (y : Str) (s : Str) {t : Tok} (h : t.k = lineK y) : isSg s t = false := by
  have h : (t.kind, t.text) = (PySem.Str.ofString "quoted", y) := h
  injection h with h1 h2
  unfold isSg
  rw [h1, decide_eq_false_iff_not]
  intro e
  injection e with e _
  exact absurd e (by decide +kernel)
theorem linesL_k {n : Nat} {ks : List KT} : ∀ {ls found : List Str} {ts : List Tok}, ts.map Tok.k = ls.map lineK ++ sgK "]" :: ks → (∀ y ∈ ls, y.length ≤ 20) → found.length + ls.length ≤ 12 → n ≤ found.length + ls.length →
    ∃ r, linesL n found ts = .ok (found ++ ls, r) ∧ r.map Tok.k = ks
  | [], found, ts, h, _, _, hn => by
    obtain ⟨t, r, rfl, h1, h2⟩ := k_cons h
    have h1 : (t.kind, t.text) = (PySem.Str.ofString "sign", PySem.Str.ofString "]") := h1
    injection h1 with h3 h4
    have hs : isSg "]" t = true := by unfold isSg; rw [h3, h4, decide_eq_true_eq]
    refine ⟨r, ?_, h2⟩
    rw [linesL, if_neg, List.append_nil]
    rintro (h | h)
    · simp only [List.length_nil] at hn; omega
    · rw [hs] at h; cases h
  | y :: ls, found, ts, h, hy, hm, hn => by
    obtain ⟨t, r, rfl, h1, h2⟩ := k_cons h
    have hs := sg_line y "]" h1
    have h1 : (t.kind, t.text) = (PySem.Str.ofString "quoted", y) := h1
    injection h1 with h3 h4
    have yl := hy y (List.mem_cons_self ..)
    rw [List.length_cons] at hm hn
    obtain ⟨r', h5, h6⟩ := linesL_k (n := n) (ks := ks) (ls := ls) (found := found ++ [y]) (ts := r) h2 (fun z hz => hy z (List.mem_cons_of_mem _ hz)) (by rw [List.length_append, List.length_singleton]; omega) (by rw [List.length_append, List.length_singleton]; omega)
    refine ⟨r', ?_, h6⟩
    rw [linesL, if_pos (.inr hs), if_pos h3, h4, if_neg (by omega), if_neg (by omega), h5, List.append_assoc]
    rfl
theorem lines_k {n : Nat} {ls : List Str} {ts : List Tok} {ks : List KT} (h : ts.map Tok.k = linesK ls ++ ks) (hl : isLinesS ls = true) (hn : n ≤ ls.length) : ∃ r, linesF n ts = .ok (ls, r) ∧ r.map Tok.k = ks := by
  have h : ts.map Tok.k = sgK "[" :: (ls.map lineK ++ [sgK "]"]) ++ ks := h
  rw [List.cons_append, List.append_assoc] at h
  obtain ⟨r, h1, h2⟩ := exp_k h
  obtain ⟨l1, l2⟩ := lines_len hl
  obtain ⟨r', h3, h4⟩ := linesL_k (n := n) (ks := ks) (ls := ls) (found := []) h2 (fun y hy => (l2 y hy).1) (by simpa using l1) (by simpa using hn)
  exact ⟨r', by unfold linesF; rw [go_app h1, h3]; rfl, h4⟩
theorem path_nd {p : Str} (h : isPathS p = true) : p ≠ PySem.Str.ofString "." ∧ p ≠ PySem.Str.ofString "" := by
  constructor
  · rintro rfl
    exact absurd h (by decide +kernel)
  · rintro rfl
    exact absurd h (by decide +kernel)
theorem placeS_path {p : Str} (h : isPathS p = true) : placeS p = p := by unfold placeS; rw [if_neg (path_nd h).2]
theorem place_back {z : Str} (h : isPlaceS z = true) : placeB (placeS z) = true ∧ toPlace (placeS z) = z := by
  unfold isPlaceS at h
  rw [Bool.or_eq_true, decide_eq_true_eq] at h
  rcases h with rfl | h
  · exact ⟨by decide +kernel, by decide +kernel⟩
  · rw [placeS_path h]
    unfold placeB toPlace
    rw [h, Bool.or_true, if_neg (path_nd h).1]
    exact ⟨rfl, rfl⟩
theorem place_k {ts : List Tok} {z : Str} {ks : List KT} (h : ts.map Tok.k = wdK (placeS z) :: ks) (hz : isPlaceS z = true) : ∃ r, placeF ts = .ok (z, r) ∧ r.map Tok.k = ks := by
  obtain ⟨h1, h2⟩ := place_back hz
  obtain ⟨r, h3, h4⟩ := take_k (p := placeB) (w := "expected a place") h h1
  exact ⟨r, by unfold placeF; rw [go_app h3, h2], h4⟩
theorem path_k {ts : List Tok} {p : Str} {ks : List KT} (h : ts.map Tok.k = wdK p :: ks) (hp : isPathS p = true) : ∃ r, pathF ts = .ok (p, r) ∧ r.map Tok.k = ks := take_k h hp
theorem quoW_k {ts : List Tok} {u : Str} {ks : List KT} (h : ts.map Tok.k = lineK u :: ks) (hu : isWordS u = true) : ∃ r, quoWF ts = .ok (u, r) ∧ r.map Tok.k = ks := by
  refine take_k h ?_
  unfold isWordS at hu
  simp only [Bool.and_eq_true] at hu
  unfold quoWB
  rw [hu.1.1, hu.1.2]
  rfl
theorem act_k {x : Action} {ts : List Tok} {ks : List KT} (h : ts.map Tok.k = toksK x ++ ks) (hb : x.bad = none) : ∃ r, actRF ts = .ok (x, r) ∧ r.map Tok.k = ks := by
  have h : ts.map Tok.k = sgK "(" :: (x.restK ++ [sgK ")"]) ++ ks := h
  rw [List.cons_append, List.append_assoc] at h
  obtain ⟨r1, e1, h1⟩ := exp_k h
  suffices ∃ wd r2 r3, wordF r1 = .ok (wd, r2) ∧ restF wd r2 = .ok (x, r3) ∧ r3.map Tok.k = [sgK ")"] ++ ks by
    obtain ⟨wd, r2, r3, e2, e3, h3⟩ := this
    obtain ⟨r4, e4, h4⟩ := exp_k h3
    exact ⟨r4, by unfold actRF; rw [go_app e1, go_app e2, go_app e3, go_app e4], h4⟩
  have wd : ∀ {w : Str} {ks : List KT}, r1.map Tok.k = wdK w :: ks → wordB w = true → ∃ r, wordF r1 = .ok (w, r) ∧ r.map Tok.k = ks := fun h hw => take_k h hw
  cases x with
  | read p =>
    simp only [Action.bad] at hb
    split at hb
    · rename_i hp
      obtain ⟨r2, e2, h2⟩ := wd h1 (by decide +kernel)
      rw [placeS_path hp] at h2
      obtain ⟨r3, e3, h3⟩ := path_k h2 hp
      exact ⟨_, r2, r3, e2, by rw [rest_read, go_app e3], h3⟩
    · cases hb
  | remove p =>
    simp only [Action.bad] at hb
    split at hb
    · rename_i hp
      obtain ⟨r2, e2, h2⟩ := wd h1 (by decide +kernel)
      rw [placeS_path hp] at h2
      obtain ⟨r3, e3, h3⟩ := path_k h2 hp
      exact ⟨_, r2, r3, e2, by rw [rest_remove, go_app e3], h3⟩
    · cases hb
  | kind p =>
    simp only [Action.bad] at hb
    split at hb
    · rename_i hp
      obtain ⟨r2, e2, h2⟩ := wd h1 (by decide +kernel)
      obtain ⟨r3, e3, h3⟩ := place_k h2 hp
      exact ⟨_, r2, r3, e2, by rw [rest_kind, go_app e3], h3⟩
    · cases hb
  | list p =>
    simp only [Action.bad] at hb
    split at hb
    · rename_i hp
      obtain ⟨r2, e2, h2⟩ := wd h1 (by decide +kernel)
      obtain ⟨r3, e3, h3⟩ := place_k h2 hp
      exact ⟨_, r2, r3, e2, by rw [rest_list, go_app e3], h3⟩
    · cases hb
  | count p =>
    simp only [Action.bad] at hb
    split at hb
    · rename_i hp
      obtain ⟨r2, e2, h2⟩ := wd h1 (by decide +kernel)
      obtain ⟨r3, e3, h3⟩ := place_k h2 hp
      exact ⟨_, r2, r3, e2, by rw [rest_count, go_app e3], h3⟩
    · cases hb
  | find p u =>
    simp only [Action.bad] at hb
    split at hb
    · rename_i hp
      split at hb
      · rename_i hu
        obtain ⟨r2, e2, h2⟩ := wd h1 (by decide +kernel)
        obtain ⟨r3, e3, h3⟩ := place_k h2 hp
        obtain ⟨r4, e4, h4⟩ := quoW_k h3 hu
        exact ⟨_, r2, r4, e2, by rw [rest_find, go_app e3, go_app e4], h4⟩
      · cases hb
    · cases hb
  | move p u =>
    simp only [Action.bad] at hb
    split at hb
    · rename_i hp
      split at hb
      · rename_i hu
        obtain ⟨r2, e2, h2⟩ := wd h1 (by decide +kernel)
        rw [placeS_path hp] at h2
        obtain ⟨r3, e3, h3⟩ := path_k h2 hp
        obtain ⟨r4, e4, h4⟩ := path_k h3 hu
        exact ⟨_, r2, r4, e2, by rw [rest_move, go_app e3, go_app e4], h4⟩
      · cases hb
    · cases hb
  | write p ls =>
    simp only [Action.bad] at hb
    split at hb
    · rename_i hp
      split at hb
      · rename_i hl
        have h1 : r1.map Tok.k = wdK "write" :: wdK (placeS p) :: (linesK ls ++ ([sgK ")"] ++ ks)) := by rw [h1]; show _ ++ _ = _; simp [Action.restK]
        obtain ⟨r2, e2, h2⟩ := wd h1 (by decide +kernel)
        rw [placeS_path hp] at h2
        obtain ⟨r3, e3, h3⟩ := path_k h2 hp
        obtain ⟨r4, e4, h4⟩ := lines_k (n := 0) h3 hl (Nat.zero_le _)
        exact ⟨_, r2, r4, e2, by rw [rest_write, go_app e3, go_app e4], h4⟩
      · cases hb
    · cases hb
  | splice p o n =>
    simp only [Action.bad] at hb
    split at hb
    · rename_i hp
      split at hb
      · rename_i ho
        split at hb
        · rename_i hn
          rw [Bool.and_eq_true, decide_eq_true_eq] at ho
          have h1 : r1.map Tok.k = wdK "splice" :: wdK (placeS p) :: (linesK o ++ (linesK n ++ ([sgK ")"] ++ ks))) := by rw [h1]; show _ ++ _ = _; simp [Action.restK]
          obtain ⟨r2, e2, h2⟩ := wd h1 (by decide +kernel)
          rw [placeS_path hp] at h2
          obtain ⟨r3, e3, h3⟩ := path_k h2 hp
          obtain ⟨r4, e4, h4⟩ := lines_k (n := 1) h3 ho.1 ho.2
          obtain ⟨r5, e5, h5⟩ := lines_k (n := 0) h4 hn (Nat.zero_le _)
          exact ⟨_, r2, r5, e2, by rw [rest_splice, go_app e3, go_app e4, go_app e5], h5⟩
        · cases hb
      · cases hb
    · cases hb
theorem read_k : ∀ {n : Nat} {acts : List Action} {ts : List Tok}, ts.map Tok.k = acts.flatMap toksK ++ [endK] → (∀ x ∈ acts, x.bad = none) → ts.length ≤ n → readN n ts = .ok acts
  | n, acts, [], h, _, _ => by
    have := congrArg List.length h
    rw [List.length_append] at this
    simp at this
  | 0, acts, t :: r, _, _, hn => by simp at hn
  | n + 1, [], t :: r, h, _, _ => by
    rw [List.map_cons] at h
    injection h with h _
    have h : (t.kind, t.text) = (PySem.Str.ofString "end", PySem.Str.ofString "") := h
    injection h with h _
    rw [readN, if_pos h]
  | n + 1, x :: acts, t :: r, h, hb, hn => by
    have hk : t.kind ≠ "end" := by
      rw [List.map_cons, List.flatMap_cons] at h
      injection h with h _
      have h : (t.kind, t.text) = (PySem.Str.ofString "sign", PySem.Str.ofString "(") := h
      injection h with h _
      rw [h]
      decide +kernel
    rw [List.flatMap_cons, List.append_assoc] at h
    obtain ⟨r', e1, h1⟩ := act_k h (hb x (List.mem_cons_self ..))
    have l1 := act_len e1
    rw [readN, if_neg hk, e1]
    show (readN n r').map (x :: ·) = _
    rw [read_k h1 (fun y hy => hb y (List.mem_cons_of_mem _ hy)) (by omega)]
    rfl
theorem read_lx {z : Str} {acts : List Action} (h : lx .nrm z.cps.toList = some (acts.flatMap toksK ++ [endK])) (hb : ∀ x ∈ acts, x.bad = none) : readTx z = .ok acts := by
  obtain ⟨ts, h1, h2⟩ := spl_lx (m := .nrm) (l := 1) (c := 1) h
  unfold readTx
  rw [h1]
  exact read_k h2 hb (Nat.le_refl _)
end K07



namespace K07
open PySem L2 Sa
theorem wordK_eq (p : Str) : wordK p.cps.toList = wdK p := by unfold wordK wdK; rw [← txt_of]
theorem quoK_eq (p : Str) : quoK p.cps.toList = lineK p := by unfold quoK lineK; rw [← txt_of]
theorem in4 : 40 ∈ signsL ∧ 41 ∈ signsL ∧ 91 ∈ signsL ∧ 93 ∈ signsL := by decide +kernel
theorem str1 : (PySem.Str.ofString "\"").cps.toList = [34] ∧ (PySem.Str.ofString "[").cps.toList = [91] ∧ (PySem.Str.ofString "]").cps.toList = [93] ∧ (PySem.Str.ofString "(").cps.toList = [40] ∧ (PySem.Str.ofString ")\n").cps.toList = [41, 10] := by decide +kernel
theorem plain_quo {z : Str} (h : isPlainS z = true) : ∀ y ∈ z.cps.toList, y ≠ 34 ∧ y ≠ 10 := fun y hy => by
  unfold isPlainS at h
  rw [List.all_eq_true] at h
  have := h y hy
  unfold plainC at this
  simp only [Bool.and_eq_true, decide_eq_true_eq, Bool.not_eq_true', decide_eq_false_iff_not] at this
  omega
theorem line_plain {z : Str} (h : isLineS z = true) : isPlainS z = true := by unfold isLineS at h; rw [Bool.and_eq_true] at h; exact h.2
theorem word_plain {z : Str} (h : isWordS z = true) : isPlainS z = true := by unfold isWordS at h; rw [Bool.and_eq_true] at h; exact h.2
theorem lines_each {ls : List Str} (h : isLinesS ls = true) : ∀ y ∈ ls, isLineS y = true := by
  unfold isLinesS at h
  rw [Bool.and_eq_true, List.all_eq_true] at h
  exact h.2
theorem path_word {p : Str} (h : isPathS p = true) : p.cps.toList ≠ [] ∧ ∀ y ∈ p.cps.toList, y ∉ endsL := by
  constructor
  · intro e
    refine (path_nd h).2 (str_ext ?_)
    rw [e]
    decide +kernel
  · intro y hy
    have j := StrLaws.join_split p (PySem.Str.ofString "/")
    rw [← j] at hy
    rcases mem_join hy with hc | ⟨z, hz, hc⟩
    · rw [slash1, List.mem_singleton] at hc
      subst hc
      decide +kernel
    · have hn := (path_parts h).2 z hz
      unfold isNameS at hn
      simp only [Bool.and_eq_true, List.all_eq_true, decide_eq_true_eq] at hn
      exact (by decide +kernel : ∀ c ∈ (PySem.Str.ofString "abcdefghijklmnopqrstuvwxyz0123456789").cps.toList, c ∉ endsL) y (hn.2 y hc)
theorem words_pt : ∀ z ∈ ([PySem.Str.ofString "read", "kind", "list", "find", "count", "write", "remove", "move", "splice"] : List Str), z.cps.toList ≠ [] ∧ ∀ y ∈ z.cps.toList, y ∉ endsL := by decide +kernel
theorem place_of_path {p : Str} (h : isPathS p = true) : isPlaceS p = true := by unfold isPlaceS; rw [h, Bool.or_true]
end K07



namespace K07
open PySem L2 Sa
local macro_rules | `(tactic| walk_at "s1") => `(tactic| first | (with_reducible apply c_dgetK))
local macro_rules | `(tactic| walk_at "s1") => `(tactic| (with_reducible apply c_raiseO))
local macro_rules | `(tactic| walk_at "s1") => `(tactic| first | (with_reducible apply c_dgetK))
local macro_rules | `(tactic| walk_at "s1") => `(tactic| (with_reducible apply c_raiseO))
local macro_rules | `(tactic| walk_at "s1") => `(tactic| first | (with_reducible apply c_un) | (with_reducible apply c_negI))
set_option pp.maxSteps 1500
abbrev Row2 := Str × Str
def rowT (p : Row2) : PyData := .tuple [.str p.1, .str p.2]
def quotedR (ls : List Str) : List Row2 := ls.map fun y => (quoS y, PySem.Str.ofString "expected a line")
def brackR (ls : List Str) : List Row2 := [(PySem.Str.ofString "[", PySem.Str.ofString "expected [")] ++ quotedR ls ++ [(PySem.Str.ofString "]", PySem.Str.ofString "expected a line")]
def headR (w z : Str) (e : Str) : List Row2 := [(PySem.Str.ofString "(", PySem.Str.ofString "expected ("), (w, PySem.Str.ofString "expected an action"), (placeS z, e)]
def ePath : Str := PySem.Str.ofString "expected a path"
def ePlace : Str := PySem.Str.ofString "expected a place"
def tokR1 : Action → List Row2
  | .read p => headR "read" p ePath
  | .kind p => headR "kind" p ePlace
  | .list p => headR "list" p ePlace
  | .find z u => headR "find" z ePlace ++ [(quoS u, PySem.Str.ofString "expected a word")]
  | .count p => headR "count" p ePlace
  | .write p ls => headR "write" p ePath ++ brackR ls
  | .remove p => headR "remove" p ePath
  | .move p t => headR "move" p ePath ++ [(t, PySem.Str.ofString "expected a path")]
  | .splice p o n => (headR "splice" p ePath ++ brackR o) ++ brackR n
def tokR (x : Action) : List Row2 := tokR1 x ++ [(PySem.Str.ofString ")", PySem.Str.ofString "expected )")]
theorem bad_tx {x : Action} (hb : x.bad = none) : x.tx := by
  have pth : ∀ {p : Str}, isPathS p = true → TxOk p 8000 := fun h => ⟨path_ok h, by have := path_len h; omega⟩
  have plc : ∀ {p : Str}, isPlaceS p = true → TxOk p 8000 := fun h => ⟨place_ok h, by have := place_len h; omega⟩
  have lns : ∀ {ls : List Str}, isLinesS ls = true → LsTx ls := fun h => ⟨Nat.le_succ_of_le (lines_len h).1, fun y hy => ⟨plain_ok (line_plain (lines_each h y hy)), ((lines_len h).2 y hy).1⟩⟩
  cases x with
  | read p =>
    simp only [Action.bad] at hb
    split at hb
    · exact pth ‹_›
    · cases hb
  | remove p =>
    simp only [Action.bad] at hb
    split at hb
    · exact pth ‹_›
    · cases hb
  | kind p =>
    simp only [Action.bad] at hb
    split at hb
    · exact plc ‹_›
    · cases hb
  | list p =>
    simp only [Action.bad] at hb
    split at hb
    · exact plc ‹_›
    · cases hb
  | count p =>
    simp only [Action.bad] at hb
    split at hb
    · exact plc ‹_›
    · cases hb
  | find p u =>
    simp only [Action.bad] at hb
    split at hb
    · split at hb
      · rename_i h1 h2
        exact ⟨plc h1, plain_ok (word_plain h2), by have := word_len h2; omega⟩
      · cases hb
    · cases hb
  | move p u =>
    simp only [Action.bad] at hb
    split at hb
    · split at hb
      · rename_i h1 h2
        exact ⟨pth h1, pth h2⟩
      · cases hb
    · cases hb
  | write p ls =>
    simp only [Action.bad] at hb
    split at hb
    · split at hb
      · rename_i h1 h2
        exact ⟨pth h1, lns h2⟩
      · cases hb
    · cases hb
  | splice p o n =>
    simp only [Action.bad] at hb
    split at hb
    · split at hb
      · split at hb
        · rename_i h1 h2 h3
          rw [Bool.and_eq_true] at h2
          exact ⟨pth h1, lns h2.1, lns h3⟩
        · cases hb
      · cases hb
    · cases hb
theorem rows_one {K : PySem.W.Frag} {H : Hp} {a : Addr} {s t : Str} (h : SqT K H a [.str s, .str t]) : Dt K H (.ref a) (rowT (s, t)) := .tup h (.cons (.str _) (.cons (.str _) .nil))
section
variable {P : Program} {w : World} {K : PySem.W.Frag} {mg : Str → Option Value} {base : Heap}
def RetRows (K : PySem.W.Frag) (H : Hp) (Q : VK) (rs : List Row2) : Prop := ∀ H' p ws, Kp [] H H' → H' p = some (.lst ws) → DtAll K H' ws (rs.map rowT) → Q (.ref p) H'
def spLQuoted (K : PySem.W.Frag) : Sp := fun vs H Q _ => ∃ (a : Addr) (ls : List Str), vs = [.ref a] ∧ SqT K H a (ls.map V.str) ∧ LsTx ls ∧ RetRows K H Q (quotedR ls)
theorem sc__law_quoted : FnScope ["_law_lines_here", "_law_line_here"] ["_law_lines_here"] (defScope s__law_quoted) := ⟨rfl, rfl, rfl, by decide +kernel, rfl, by decide +kernel, by decide +kernel⟩
theorem bn__law_quoted : BindN "_law_quoted" s__law_quoted ["_law_lines_here"] := fun _ _ _ _ _ _ us hl => match us, hl with | [_], _ => rfl
theorem b__law_quoted (T : TX K mg) : Body P w K mg base "_law_quoted" s__law_quoted ["_law_lines_here", "_law_line_here"] 1 (spLQuoted K) := by
  intro cdv A outer s H vs Q E h X hr
  obtain ⟨a, ls, rfl, ha, hl, q⟩ := h
  refine ⟨_, (pss_one (ps_ret (pe_lc (own := [("_law_line_here", 1)]) rfl sc__law_quoted.nd (pi_tupU (K := K) (pv 0)) (blkOk_by (N := ["_law_lines_here", "_law_line_here"]) (sc := defScope s__law_quoted) (by decide +kernel)) (fun _ _ _ _ _ => (pg_name (i := 1) sc__law_quoted.nd rfl (Or.inl rfl))) (fun _ _ _ _ _ => pts_nil) (fun _ _ _ _ _ => (pe_tup (pa_cons (pe_op (op_addU (K := K)) (pe_op (op_addU (K := K)) pe_str (pv 1)) pe_str) (pa_cons pe_str pa_nil))))))), ?_⟩
  have lu := hl.len
  walk_at "st"
  refine lcQ_dt (K := K) (itn_t (ys := ls) (u := V.str)) (fun i => rowT (quoS (ls.getD i Str.empty), PySem.Str.ofString "expected a line")) (fun _ => true) (by omega) (fun H' e => SqT.kp e ha) (fun i x H' H'' R S hi e y k1 k2 => ?_) (fun Dl ws H' hD e hacc hws => ?_)
  · obtain ⟨rfl, y, hy, rfl⟩ := y
    have eg : ls.getD i Str.empty = y := by rw [List.getD_eq_getElem?_getD, hy]; rfl
    have yl := (hl.tx y (List.mem_of_getElem? hy)).len
    walk_at "st"
    refine ⟨rfl, ?_⟩
    walk_at "st"
    refine c_addS (by rw [sizeLine_eq, show (PySem.Str.ofString "\"").length = 1 from by decide +kernel]; omega) ?_
    walk_at "st"
    refine c_addS (by rw [sizeLine_eq, app_len, show (PySem.Str.ofString "\"").length = 1 from by decide +kernel]; omega) ?_
    walk_at "st"
    walk_at "nw"
    intro p H4 N4
    rw [eg] at k1
    exact k1 rfl _ H4 N4.kp (rows_one (SqT.of N4.at_))
  · refine q H' Dl ws e hacc ?_
    have e3 : (((List.range ls.length).filter fun _ => true).map fun i => rowT (quoS (ls.getD i Str.empty), PySem.Str.ofString "expected a line")) = (quotedR ls).map rowT := by
      rw [List.filter_eq_self.mpr (fun _ _ => rfl)]
      unfold quotedR
      rw [List.map_map]
      refine List.ext_getElem (by simp) fun i h1 h2 => ?_
      simp only [List.length_map, List.length_range] at h1
      rw [List.getElem_map, List.getElem_map, List.getElem_range, List.getD_eq_getElem?_getD, List.getElem?_eq_getElem h1]
      rfl
    rw [← e3]
    exact hws
theorem D__law_quoted (T : TX K mg) : DefAt P w K mg base CX0 "_law_quoted" 2 ["_law_lines_here"] (spLQuoted K) :=
  def_of T 21 36 sc__law_quoted bn__law_quoted (by walk_at "len") (b__law_quoted T)
def spLBrack (K : PySem.W.Frag) : Sp := fun vs H Q _ => ∃ (a : Addr) (ls : List Str), vs = [.ref a] ∧ SqT K H a (ls.map V.str) ∧ LsTx ls ∧ RetRows K H Q (brackR ls)
theorem sc__law_bracketed : FnScope ["_law_lines_here", "_law_rows_here"] ["_law_lines_here"] (defScope s__law_bracketed) := ⟨rfl, rfl, rfl, by decide +kernel, rfl, by decide +kernel, by decide +kernel⟩
theorem bn__law_bracketed : BindN "_law_bracketed" s__law_bracketed ["_law_lines_here"] := fun _ _ _ _ _ _ us hl => match us, hl with | [_], _ => rfl
theorem b__law_bracketed (T : TX K mg) : Body P w K mg base "_law_bracketed" s__law_bracketed ["_law_lines_here", "_law_rows_here"] 2 (spLBrack K) := by
  intro cdv A outer s H vs Q E h X hr
  obtain ⟨a, ls, rfl, ha, hl, q⟩ := h
  have D__law_quoted := D__law_quoted (P := P) (w := w) (base := base) T
  refine ⟨_, (pss_cons (ps_set (i := 1) sc__law_bracketed.nd rfl (Or.inl rfl) (pe_op (op_addU (K := K)) (pe_lst (pa_cons (pe_tup (pa_cons pe_str (pa_cons pe_str pa_nil))) pa_nil)) (pe_callA D__law_quoted hr pass0 (pa_cons (pv 0) pa_nil)))) (pss_one (ps_ret (pe_op (op_addU (K := K)) (pv 1) (pe_lst (pa_cons (pe_tup (pa_cons pe_str (pa_cons pe_str pa_nil))) pa_nil)))))), ?_⟩
  have lu := hl.len
  walk_at "st"
  walk_at "nw"
  intro t1 H1 N1
  walk_at "st"
  walk_at "nw"
  intro l1 H2 N2
  walk_at "st"
  refine ⟨a, ls, rfl, SqT.kp N2.kp (SqT.kp N1.kp ha), hl, fun H3 p3 ws e3 h3 hd => ?_⟩
  have wl : ws.length = ls.length := by rw [dta_len hd, List.length_map]; unfold quotedR; rw [List.length_map]
  have hl1 := e3.at0 N2.at_
  walk_at "st"
  refine c_addL hl1 h3 (by rw [sizeLine_eq, List.length_singleton]; omega) fun p4 H4 N4 => ?_
  walk_at "st"
  walk_at "nw"
  intro t5 H5 N5
  walk_at "st"
  walk_at "nw"
  intro l6 H6 N6
  walk_at "st"
  have h64 : H6 p4 = _ := N6.keep (N5.keep N4.at_)
  refine c_addL h64 N6.at_ (by rw [sizeLine_eq, List.length_append, List.length_singleton, List.length_singleton]; omega) fun p7 H7 N7 => ?_
  have k36 := (N4.kp (ms := [])).trans (((N5.kp (ms := [])).trans N6.kp).trans N7.kp)
  refine q H7 p7 _ (((N1.kp.trans N2.kp).trans e3).trans k36) N7.at_ ?_
  unfold brackR
  rw [List.map_append, List.map_append]
  refine dta_app (dta_app (.cons ?_ .nil) (hd.kp k36)) (.cons ?_ .nil)
  · exact rows_one (SqT.kp ((N2.kp.trans e3).trans k36) (SqT.of N1.at_))
  · exact rows_one (SqT.kp (N6.kp.trans N7.kp) (SqT.of N5.at_))
theorem D__law_bracketed (T : TX K mg) : DefAt P w K mg base CX0 "_law_bracketed" 3 ["_law_lines_here"] (spLBrack K) :=
  def_of T 22 37 sc__law_bracketed bn__law_bracketed (by walk_at "len") (b__law_bracketed T)
def Action.tw : Action → Str
  | .read _ => "read" | .kind _ => "kind" | .list _ => "list" | .find _ _ => "find" | .count _ => "count" | .write _ _ => "write" | .remove _ => "remove" | .move _ _ => "move" | .splice _ _ _ => "splice"
def Action.tz : Action → Str
  | .read p => p | .kind p => p | .list p => p | .find p _ => p | .count p => p | .write p _ => p | .remove p => p | .move p _ => p | .splice p _ _ => p
def kindsL : List Str := ["kind", "list", "find", "count"]
def Action.te (x : Action) : Str := if x.tw ∈ kindsL then ePlace else ePath
theorem head_tx {H : Hp} {a : Addr} {x : Action} (h : ActAt K H a x) : ∃ r, SqT K H a (.str x.tw :: .str x.tz :: r) := by
  cases x with
  | write p ls => obtain ⟨l, h1, _⟩ := h; exact ⟨_, h1⟩
  | splice p o n => obtain ⟨l, m, h1, _⟩ := h; exact ⟨_, h1⟩
  | _ => exact ⟨_, h⟩
theorem brack_len {ls : List Str} (h : LsTx ls) : (brackR ls).length ≤ 15 := by
  unfold brackR quotedR
  rw [List.length_append, List.length_append, List.length_map]
  have := h.len
  simp only [List.length_singleton]
  omega
def spLTokens (K : PySem.W.Frag) : Sp := fun vs H Q _ => ∃ (a : Addr) (x : Action), vs = [.ref a] ∧ ActAt K H a x ∧ x.tx ∧ RetRows K H Q (tokR x)
theorem sc__law_tokens : FnScope ["_law_action_here", "_law_rows_here", "_law_words", "_law_place_here"] ["_law_action_here"] (defScope s__law_tokens) := ⟨rfl, rfl, rfl, by decide +kernel, rfl, by decide +kernel, by decide +kernel⟩
theorem bn__law_tokens : BindN "_law_tokens" s__law_tokens ["_law_action_here"] := fun _ _ _ _ _ _ us hl => match us, hl with | [_], _ => rfl
theorem b__law_tokens (T : TX K mg) : Body P w K mg base "_law_tokens" s__law_tokens ["_law_action_here", "_law_rows_here", "_law_words", "_law_place_here"] 3 (spLTokens K) := by
  intro cdv A outer s H vs Q E h X hr
  obtain ⟨a, x, rfl, hA, hx, q⟩ := h
  have D__law_bracketed := D__law_bracketed (P := P) (w := w) (base := base) T
  refine ⟨_, (pss_cons (ps_set (i := 1) sc__law_tokens.nd rfl (Or.inl rfl) (pe_lst (pa_cons (pe_tup (pa_cons pe_str (pa_cons pe_str pa_nil))) (pa_cons (pe_tup (pa_cons (pe_ix (ix_U (K := K)) (pv 0) pe_int (fun _ _ => rfl)) (pa_cons pe_str pa_nil))) pa_nil)))) (pss_cons (ps_set (i := 2) sc__law_tokens.nd rfl (Or.inl rfl) pe_str) (Evl.pss_cut (ps_if (pt_cmpR (op_inU (K := K)) (pe_ix (ix_U (K := K)) (pv 0) pe_int (fun _ _ => rfl)) (pe_tup (pa_cons pe_str (pa_cons pe_str (pa_cons pe_str (pa_cons pe_str pa_nil))))) rfl) (pss_one (ps_set (i := 2) sc__law_tokens.nd rfl (Or.inl rfl) pe_str)) pss_nil) (pss_cons (ps_set (i := 3) sc__law_tokens.nd rfl (Or.inl rfl) (pe_ix (ix_U (K := K)) (pv 0) pe_int (fun _ _ => rfl))) (Evl.pss_cut (ps_if (pt_cmpR (op_eqU (K := K) hr.units) (pv 3) pe_str (nomark _)) (pss_one (ps_set (i := 3) sc__law_tokens.nd rfl (Or.inl rfl) pe_str)) pss_nil) (pss_cons (ps_expr (pe_appendU (K := K) (pv 1) (pe_tup (pa_cons (pv 3) (pa_cons (pv 2) pa_nil))))) (pss_cons (ps_if (pt_cmpR (op_eqU (K := K) hr.units) (pe_ix (ix_U (K := K)) (pv 0) pe_int (fun _ _ => rfl)) pe_str (nomark _)) (pss_one (ps_expr (pe_appendU (K := K) (pv 1) (pe_tup (pa_cons (pe_op (op_addU (K := K)) (pe_op (op_addU (K := K)) pe_str (pe_ix (ix_U (K := K)) (pv 0) pe_int (fun _ _ => rfl))) pe_str) (pa_cons pe_str pa_nil)))))) pss_nil) (pss_cons (ps_if (pt_cmpR (op_eqU (K := K) hr.units) (pe_ix (ix_U (K := K)) (pv 0) pe_int (fun _ _ => rfl)) pe_str (nomark _)) (pss_one (ps_set (i := 1) sc__law_tokens.nd rfl (Or.inl rfl) (pe_op (op_addU (K := K)) (pv 1) (pe_callA D__law_bracketed hr pass0 (pa_cons (pe_ix (ix_U (K := K)) (pv 0) pe_int (fun _ _ => rfl)) pa_nil))))) pss_nil) (pss_cons (ps_if (pt_cmpR (op_eqU (K := K) hr.units) (pe_ix (ix_U (K := K)) (pv 0) pe_int (fun _ _ => rfl)) pe_str (nomark _)) (pss_one (ps_expr (pe_appendU (K := K) (pv 1) (pe_tup (pa_cons (pe_ix (ix_U (K := K)) (pv 0) pe_int (fun _ _ => rfl)) (pa_cons pe_str pa_nil)))))) pss_nil) (pss_cons (ps_if (pt_cmpR (op_eqU (K := K) hr.units) (pe_ix (ix_U (K := K)) (pv 0) pe_int (fun _ _ => rfl)) pe_str (nomark _)) (pss_one (ps_set (i := 1) sc__law_tokens.nd rfl (Or.inl rfl) (pe_op (op_addU (K := K)) (pe_op (op_addU (K := K)) (pv 1) (pe_callA D__law_bracketed hr pass0 (pa_cons (pe_ix (ix_U (K := K)) (pv 0) pe_int (fun _ _ => rfl)) pa_nil))) (pe_callA D__law_bracketed hr pass0 (pa_cons (pe_ix (ix_U (K := K)) (pv 0) pe_int (fun _ _ => rfl)) pa_nil))))) pss_nil) (pss_one (ps_ret (pe_op (op_addU (K := K)) (pv 1) (pe_lst (pa_cons (pe_tup (pa_cons pe_str (pa_cons pe_str pa_nil))) pa_nil))))))))))))))), ?_⟩
  obtain ⟨rest, ha⟩ := head_tx hA
  walk_at "st"
  walk_at "nw"
  intro t1 H1 N1
  have ha1 := SqT.kp N1.kp ha
  walk_at "st"
  refine c_ixT ha1 (atI_nat (j := 0) rfl) ?_
  walk_at "st"
  walk_at "nw"
  intro t2 H2 N2
  walk_at "st"
  walk_at "nw"
  intro l H3 N3
  have ha3 := SqT.kp N3.kp (SqT.kp N2.kp ha1)
  walk_at "st"
  refine c_cut (fun σ' H' => Kp [] H3 H' ∧ σ' = [some (.ref a), some (.ref l), some (.str x.te), none]) ?_ ?_
  · walk_at "st"
    refine c_ixT ha3 (atI_nat (j := 0) rfl) ?_
    walk_at "st"
    walk_at "nw"
    intro t4 H4 N4
    refine c_inSs (ys := kindsL) (.inr (SqT.of N4.at_)) ?_
    walk_at "st"
    refine c_ite (fun g => ?_) (fun g => ?_)
    · walk_at "st"
      exact ⟨N4.kp, by unfold Action.te; rw [if_pos g]; rfl⟩
    · walk_at "st"
      exact ⟨N4.kp, by unfold Action.te; rw [if_neg g]; rfl⟩
  rintro _ H4 ⟨k34, rfl⟩
  have ha4 := SqT.kp k34 ha3
  walk_at "st"
  refine c_ixT ha4 (atI_nat (j := 1) rfl) ?_
  walk_at "st"
  refine c_cut (fun σ' H' => H' = H4 ∧ σ' = [some (.ref a), some (.ref l), some (.str x.te), some (.str (placeS x.tz))]) ?_ ?_
  · walk_at "st"
    refine c_ite (fun g => ?_) (fun g => ?_)
    · walk_at "st"
      exact ⟨rfl, by unfold placeS; rw [if_pos g]; rfl⟩
    · walk_at "st"
      exact ⟨rfl, by unfold placeS; rw [if_neg g]; rfl⟩
  rintro _ _ ⟨rfl, rfl⟩
  have hl4 := k34.at0 N3.at_
  walk_at "st"
  walk_at "nw"
  intro t5 H5 N5
  have hl5 := N5.keep hl4
  have k45 := k34.trans (N5.kp (ms := []))
  walk_at "st"
  have kt6 : Kt H5 (upd H5 l (.lst ([.ref t1, .ref t2] ++ [.ref t5]))) := Kt.upd1 (NoT.lst hl5)
  have hl6 : upd H5 l (.lst ([.ref t1, .ref t2] ++ [.ref t5])) l = some (.lst ([.ref t1, .ref t2] ++ [.ref t5])) := upd_same
  have k02 : Kp [] H H2 := N1.kp.trans N2.kp
  have fr0 : H l = none := by
    cases hh : H l with
    | none => rfl
    | some o => have := k02.at0 hh; rw [N3.fr] at this; cases this
  have k6 : Kp [] H (upd H5 l (.lst ([.ref t1, .ref t2] ++ [.ref t5]))) := ((k02.trans N3.kp).trans k45).fresh_mut fr0
  have hd6 : DtAll K (upd H5 l (.lst ([.ref t1, .ref t2] ++ [.ref t5]))) ([.ref t1, .ref t2] ++ [.ref t5]) ((headR x.tw x.tz x.te).map rowT) :=
    DtAll.kt kt6 (.cons (rows_one (SqT.kp ((N2.kp.trans N3.kp).trans k45) (SqT.of N1.at_))) (.cons (rows_one (SqT.kp (N3.kp.trans k45) (SqT.of N2.at_))) (.cons (rows_one (SqT.of N5.at_)) .nil)))
  generalize [V.ref t1, .ref t2] ++ [.ref t5] = ws6 at *
  generalize upd H5 l (.lst ws6) = H6 at *
  have wl6 : ws6.length = 3 := dta_len hd6
  have hA6 := hA.kp k6
  clear hl4 hl5 k45 kt6 ha ha1 ha3 ha4 hA k34 k02 N5 N3 N2 N1 rest
  cases x with
  | read p =>
    have ha6 : SqT K H6 a _ := hA6
    have hl9 := hl6
    have k9 := k6
    have hd9 : DtAll K H6 ws6 ((tokR1 (.read p)).map rowT) := hd6
    have wl9 := dta_len hd9
    generalize H6 = H9 at *
    have sz9 : (tokR1 (.read p)).length + 1 ≤ 16777216 := Nat.le_of_ble_eq_true rfl
    walk_at "dc"
    walk_at "nw"
    intro t10 H10 N10
    walk_at "st"
    walk_at "nw"
    intro l11 H11 N11
    walk_at "st"
    refine c_addL (N11.keep (N10.keep hl9)) N11.at_ (by rw [sizeLine_eq, wl9]; simp only [List.length_map, List.length_singleton]; exact sz9) fun p12 H12 N12 => ?_
    have k912 : Kp [] H9 H12 := (N10.kp.trans N11.kp).trans N12.kp
    refine q H12 p12 _ (k9.trans k912) N12.at_ ?_
    unfold tokR
    rw [List.map_append]
    exact dta_app (hd9.kp k912) (.cons (rows_one (SqT.kp (N11.kp.trans N12.kp) (SqT.of N10.at_))) .nil)
  | kind p =>
    have ha6 : SqT K H6 a _ := hA6
    have hl9 := hl6
    have k9 := k6
    have hd9 : DtAll K H6 ws6 ((tokR1 (.kind p)).map rowT) := hd6
    have wl9 := dta_len hd9
    generalize H6 = H9 at *
    have sz9 : (tokR1 (.kind p)).length + 1 ≤ 16777216 := Nat.le_of_ble_eq_true rfl
    walk_at "dc"
    walk_at "nw"
    intro t10 H10 N10
    walk_at "st"
    walk_at "nw"
    intro l11 H11 N11
    walk_at "st"
    refine c_addL (N11.keep (N10.keep hl9)) N11.at_ (by rw [sizeLine_eq, wl9]; simp only [List.length_map, List.length_singleton]; exact sz9) fun p12 H12 N12 => ?_
    have k912 : Kp [] H9 H12 := (N10.kp.trans N11.kp).trans N12.kp
    refine q H12 p12 _ (k9.trans k912) N12.at_ ?_
    unfold tokR
    rw [List.map_append]
    exact dta_app (hd9.kp k912) (.cons (rows_one (SqT.kp (N11.kp.trans N12.kp) (SqT.of N10.at_))) .nil)
  | list p =>
    have ha6 : SqT K H6 a _ := hA6
    have hl9 := hl6
    have k9 := k6
    have hd9 : DtAll K H6 ws6 ((tokR1 (.list p)).map rowT) := hd6
    have wl9 := dta_len hd9
    generalize H6 = H9 at *
    have sz9 : (tokR1 (.list p)).length + 1 ≤ 16777216 := Nat.le_of_ble_eq_true rfl
    walk_at "dc"
    walk_at "nw"
    intro t10 H10 N10
    walk_at "st"
    walk_at "nw"
    intro l11 H11 N11
    walk_at "st"
    refine c_addL (N11.keep (N10.keep hl9)) N11.at_ (by rw [sizeLine_eq, wl9]; simp only [List.length_map, List.length_singleton]; exact sz9) fun p12 H12 N12 => ?_
    have k912 : Kp [] H9 H12 := (N10.kp.trans N11.kp).trans N12.kp
    refine q H12 p12 _ (k9.trans k912) N12.at_ ?_
    unfold tokR
    rw [List.map_append]
    exact dta_app (hd9.kp k912) (.cons (rows_one (SqT.kp (N11.kp.trans N12.kp) (SqT.of N10.at_))) .nil)
  | find p u =>
    have ha6 : SqT K H6 a _ := hA6
    walk_at "dc"
    have ul := hx.2.len
    refine c_addS (by rw [sizeLine_eq, show (PySem.Str.ofString "\"").length = 1 from by decide +kernel]; omega) ?_
    walk_at "st"
    refine c_addS (by rw [sizeLine_eq, app_len, show (PySem.Str.ofString "\"").length = 1 from by decide +kernel]; omega) ?_
    walk_at "st"
    walk_at "nw"
    intro t7 H7 N7
    have hl7 := N7.keep hl6
    have ha7 := SqT.kp N7.kp ha6
    walk_at "st"
    have kt9 : Kt H7 (upd H7 l (.lst (ws6 ++ [.ref t7]))) := Kt.upd1 (NoT.lst hl7)
    have hl9 : upd H7 l (.lst (ws6 ++ [.ref t7])) l = some (.lst (ws6 ++ [.ref t7])) := upd_same
    have k9 : Kp [] H (upd H7 l (.lst (ws6 ++ [.ref t7]))) := (k6.trans N7.kp).fresh_mut fr0
    have ha9 := SqT.kt kt9 ha7
    have hd9 : DtAll K (upd H7 l (.lst (ws6 ++ [.ref t7]))) (ws6 ++ [.ref t7]) ((tokR1 (.find p u)).map rowT) := by
      show DtAll K _ _ ((headR _ _ _ ++ [_]).map rowT)
      rw [List.map_append]
      exact DtAll.kt kt9 (dta_app (hd6.kp N7.kp) (.cons (rows_one (SqT.of N7.at_)) .nil))
    have wl9 := dta_len hd9
    generalize upd H7 l (.lst (ws6 ++ [.ref t7])) = H9 at *
    have sz9 : (tokR1 (.find p u)).length + 1 ≤ 16777216 := Nat.le_of_ble_eq_true rfl
    walk_at "dc"
    walk_at "nw"
    intro t10 H10 N10
    walk_at "st"
    walk_at "nw"
    intro l11 H11 N11
    walk_at "st"
    refine c_addL (N11.keep (N10.keep hl9)) N11.at_ (by rw [sizeLine_eq, wl9]; simp only [List.length_map, List.length_singleton]; exact sz9) fun p12 H12 N12 => ?_
    have k912 : Kp [] H9 H12 := (N10.kp.trans N11.kp).trans N12.kp
    refine q H12 p12 _ (k9.trans k912) N12.at_ ?_
    unfold tokR
    rw [List.map_append]
    exact dta_app (hd9.kp k912) (.cons (rows_one (SqT.kp (N11.kp.trans N12.kp) (SqT.of N10.at_))) .nil)
  | count p =>
    have ha6 : SqT K H6 a _ := hA6
    have hl9 := hl6
    have k9 := k6
    have hd9 : DtAll K H6 ws6 ((tokR1 (.count p)).map rowT) := hd6
    have wl9 := dta_len hd9
    generalize H6 = H9 at *
    have sz9 : (tokR1 (.count p)).length + 1 ≤ 16777216 := Nat.le_of_ble_eq_true rfl
    walk_at "dc"
    walk_at "nw"
    intro t10 H10 N10
    walk_at "st"
    walk_at "nw"
    intro l11 H11 N11
    walk_at "st"
    refine c_addL (N11.keep (N10.keep hl9)) N11.at_ (by rw [sizeLine_eq, wl9]; simp only [List.length_map, List.length_singleton]; exact sz9) fun p12 H12 N12 => ?_
    have k912 : Kp [] H9 H12 := (N10.kp.trans N11.kp).trans N12.kp
    refine q H12 p12 _ (k9.trans k912) N12.at_ ?_
    unfold tokR
    rw [List.map_append]
    exact dta_app (hd9.kp k912) (.cons (rows_one (SqT.kp (N11.kp.trans N12.kp) (SqT.of N10.at_))) .nil)
  | write p ls =>
    obtain ⟨la, ha6, hla6⟩ := hA6
    walk_at "dc"
    refine ⟨la, ls, rfl, hla6, hx.2, fun H7 p7 ws7 e7 h7 hd7 => ?_⟩
    have wl7 := dta_len hd7
    have bl := brack_len hx.2
    rw [List.length_map] at wl7
    have ha7 := SqT.kp e7 ha6
    walk_at "st"
    refine c_addL (e7.at0 hl6) h7 (by rw [sizeLine_eq, wl6, wl7]; omega) fun p8 H9 N9 => ?_
    have ha9 := SqT.kp N9.kp ha7
    have hl9 := N9.at_
    have k9 : Kp [] H H9 := (k6.trans e7).trans N9.kp
    have hd9 : DtAll K H9 (ws6 ++ ws7) ((tokR1 (.write p ls)).map rowT) := by
      show DtAll K _ _ ((headR _ _ _ ++ brackR ls).map rowT)
      rw [List.map_append]
      exact dta_app (hd6.kp (e7.trans N9.kp)) (hd7.kp N9.kp)
    have wl9 := dta_len hd9
    have sz9 : (tokR1 (.write p ls)).length + 1 ≤ 16777216 := by show (headR _ _ _ ++ brackR ls).length + 1 ≤ _; rw [List.length_append]; show 3 + _ + 1 ≤ _; omega
    walk_at "dc"
    walk_at "nw"
    intro t10 H10 N10
    walk_at "st"
    walk_at "nw"
    intro l11 H11 N11
    walk_at "st"
    refine c_addL (N11.keep (N10.keep hl9)) N11.at_ (by rw [sizeLine_eq, wl9]; simp only [List.length_map, List.length_singleton]; exact sz9) fun p12 H12 N12 => ?_
    have k912 : Kp [] H9 H12 := (N10.kp.trans N11.kp).trans N12.kp
    refine q H12 p12 _ (k9.trans k912) N12.at_ ?_
    unfold tokR
    rw [List.map_append]
    exact dta_app (hd9.kp k912) (.cons (rows_one (SqT.kp (N11.kp.trans N12.kp) (SqT.of N10.at_))) .nil)
  | remove p =>
    have ha6 : SqT K H6 a _ := hA6
    have hl9 := hl6
    have k9 := k6
    have hd9 : DtAll K H6 ws6 ((tokR1 (.remove p)).map rowT) := hd6
    have wl9 := dta_len hd9
    generalize H6 = H9 at *
    have sz9 : (tokR1 (.remove p)).length + 1 ≤ 16777216 := Nat.le_of_ble_eq_true rfl
    walk_at "dc"
    walk_at "nw"
    intro t10 H10 N10
    walk_at "st"
    walk_at "nw"
    intro l11 H11 N11
    walk_at "st"
    refine c_addL (N11.keep (N10.keep hl9)) N11.at_ (by rw [sizeLine_eq, wl9]; simp only [List.length_map, List.length_singleton]; exact sz9) fun p12 H12 N12 => ?_
    have k912 : Kp [] H9 H12 := (N10.kp.trans N11.kp).trans N12.kp
    refine q H12 p12 _ (k9.trans k912) N12.at_ ?_
    unfold tokR
    rw [List.map_append]
    exact dta_app (hd9.kp k912) (.cons (rows_one (SqT.kp (N11.kp.trans N12.kp) (SqT.of N10.at_))) .nil)
  | move p u =>
    have ha6 : SqT K H6 a _ := hA6
    walk_at "dc"
    walk_at "nw"
    intro t7 H7 N7
    have hl7 := N7.keep hl6
    have ha7 := SqT.kp N7.kp ha6
    walk_at "st"
    have kt9 : Kt H7 (upd H7 l (.lst (ws6 ++ [.ref t7]))) := Kt.upd1 (NoT.lst hl7)
    have hl9 : upd H7 l (.lst (ws6 ++ [.ref t7])) l = some (.lst (ws6 ++ [.ref t7])) := upd_same
    have k9 : Kp [] H (upd H7 l (.lst (ws6 ++ [.ref t7]))) := (k6.trans N7.kp).fresh_mut fr0
    have ha9 := SqT.kt kt9 ha7
    have hd9 : DtAll K (upd H7 l (.lst (ws6 ++ [.ref t7]))) (ws6 ++ [.ref t7]) ((tokR1 (.move p u)).map rowT) := by
      show DtAll K _ _ ((headR _ _ _ ++ [_]).map rowT)
      rw [List.map_append]
      exact DtAll.kt kt9 (dta_app (hd6.kp N7.kp) (.cons (rows_one (SqT.of N7.at_)) .nil))
    have wl9 := dta_len hd9
    generalize upd H7 l (.lst (ws6 ++ [.ref t7])) = H9 at *
    have sz9 : (tokR1 (.move p u)).length + 1 ≤ 16777216 := Nat.le_of_ble_eq_true rfl
    walk_at "dc"
    walk_at "nw"
    intro t10 H10 N10
    walk_at "st"
    walk_at "nw"
    intro l11 H11 N11
    walk_at "st"
    refine c_addL (N11.keep (N10.keep hl9)) N11.at_ (by rw [sizeLine_eq, wl9]; simp only [List.length_map, List.length_singleton]; exact sz9) fun p12 H12 N12 => ?_
    have k912 : Kp [] H9 H12 := (N10.kp.trans N11.kp).trans N12.kp
    refine q H12 p12 _ (k9.trans k912) N12.at_ ?_
    unfold tokR
    rw [List.map_append]
    exact dta_app (hd9.kp k912) (.cons (rows_one (SqT.kp (N11.kp.trans N12.kp) (SqT.of N10.at_))) .nil)
  | splice p o n =>
    obtain ⟨la, lb, ha6, hla6, hlb6⟩ := hA6
    walk_at "dc"
    refine ⟨la, o, rfl, hla6, hx.2.1, fun H7 p7 ws7 e7 h7 hd7 => ?_⟩
    have wl7 := dta_len hd7
    have bl := brack_len hx.2.1
    have bl2 := brack_len hx.2.2
    rw [List.length_map] at wl7
    have hl7 := e7.at0 hl6
    have ha7 := SqT.kp e7 ha6
    walk_at "st"
    refine c_addL hl7 h7 (by rw [sizeLine_eq, wl6, wl7]; omega) fun p8 H8 N8 => ?_
    have ha8 := SqT.kp N8.kp ha7
    walk_at "st"
    refine ⟨lb, n, rfl, SqT.kp N8.kp (SqT.kp e7 hlb6), hx.2.2, fun H9' p9 ws9 e9 h9 hd9' => ?_⟩
    have wl9' := dta_len hd9'
    rw [List.length_map] at wl9'
    walk_at "st"
    refine c_addL (e9.at0 N8.at_) h9 (by rw [sizeLine_eq, List.length_append, wl6, wl7, wl9']; omega) fun p10 H9 N9 => ?_
    have hl9 := N9.at_
    have k9 : Kp [] H H9 := (((k6.trans e7).trans N8.kp).trans e9).trans N9.kp
    have hd9 : DtAll K H9 ((ws6 ++ ws7) ++ ws9) ((tokR1 (.splice p o n)).map rowT) := by
      show DtAll K _ _ (((headR _ _ _ ++ brackR o) ++ brackR n).map rowT)
      rw [List.map_append, List.map_append]
      exact dta_app (dta_app (hd6.kp ((e7.trans N8.kp).trans (e9.trans N9.kp))) (hd7.kp (N8.kp.trans (e9.trans N9.kp)))) (hd9'.kp N9.kp)
    have wl9 := dta_len hd9
    have sz9 : (tokR1 (.splice p o n)).length + 1 ≤ 16777216 := by show ((headR _ _ _ ++ brackR o) ++ brackR n).length + 1 ≤ _; rw [List.length_append, List.length_append]; show 3 + _ + _ + 1 ≤ _; omega
    walk_at "dc"
    walk_at "nw"
    intro t10 H10 N10
    walk_at "st"
    walk_at "nw"
    intro l11 H11 N11
    walk_at "st"
    refine c_addL (N11.keep (N10.keep hl9)) N11.at_ (by rw [sizeLine_eq, wl9]; simp only [List.length_map, List.length_singleton]; exact sz9) fun p12 H12 N12 => ?_
    have k912 : Kp [] H9 H12 := (N10.kp.trans N11.kp).trans N12.kp
    refine q H12 p12 _ (k9.trans k912) N12.at_ ?_
    unfold tokR
    rw [List.map_append]
    exact dta_app (hd9.kp k912) (.cons (rows_one (SqT.kp (N11.kp.trans N12.kp) (SqT.of N10.at_))) .nil)
theorem D__law_tokens (T : TX K mg) : DefAt P w K mg base CX0 "_law_tokens" 4 ["_law_action_here"] (spLTokens K) :=
  def_of T 23 38 sc__law_tokens bn__law_tokens (by walk_at "len") (b__law_tokens T)
end
end K07



namespace K07
open PySem L2 Sa
structure Bad (w : Str) (t : Tok) : Prop where
  par : w = PySem.Str.ofString "expected (" → isSg "(" t = false
  ket : w = PySem.Str.ofString "expected )" → isSg ")" t = false
  bra : w = PySem.Str.ofString "expected [" → isSg "[" t = false
  act : w = PySem.Str.ofString "expected an action" → t.kind = PySem.Str.ofString "word" → wordB t.text = false
  path : w = PySem.Str.ofString "expected a path" → t.kind = PySem.Str.ofString "word" → isPathS t.text = false
  place : w = PySem.Str.ofString "expected a place" → t.kind = PySem.Str.ofString "word" → placeB t.text = false
  word : w = PySem.Str.ofString "expected a word" → t.kind = PySem.Str.ofString "quoted" → quoWB t.text = false
  line : w = PySem.Str.ofString "expected a line" → isSg "]" t = false ∧ (t.kind = PySem.Str.ofString "quoted" → 20 < t.text.length)
abbrev KRow := KT × Str
structure Rds {α : Type} (f : List Tok → RdF α) (rows : List KRow) (x : α) : Prop where
  ok : ∀ us r, us.map Tok.k = rows.map Prod.fst → f (us ++ r) = .ok (x, r)
  bad : ∀ i row us t r, rows[i]? = some row → us.map Tok.k = (rows.take i).map Prod.fst → Bad row.2 t → f (us ++ t :: r) = .error (fltAt t row.2)
theorem Rds.nil {α : Type} {x : α} : Rds (fun ts => .ok (x, ts)) [] x := ⟨(fun us r h => by cases us with | nil => rfl | cons t r => cases h), (fun i row us t r h => by simp at h)⟩
theorem map_split {us : List Tok} {a b : List KT} (h : us.map Tok.k = a ++ b) : ∃ u1 u2, us = u1 ++ u2 ∧ u1.map Tok.k = a ∧ u2.map Tok.k = b := by
  refine ⟨us.take a.length, us.drop a.length, (List.take_append_drop _ _).symm, ?_, ?_⟩
  · rw [List.map_take, h, List.take_left]
  · rw [List.map_drop, h, List.drop_left]
theorem Rds.go {α β : Type} {f : List Tok → RdF α} {g : α → List Tok → RdF β} {r1 r2 : List KRow} {x : α} {y : β} (h1 : Rds f r1 x) (h2 : Rds (g x) r2 y) : Rds (fun ts => (f ts).go g) (r1 ++ r2) y := by
  constructor
  · intro us r h
    rw [List.map_append] at h
    obtain ⟨u1, u2, rfl, e1, e2⟩ := map_split h
    show (f ((u1 ++ u2) ++ r)).go g = _
    rw [List.append_assoc, go_app (h1.ok u1 _ e1), h2.ok u2 r e2]
  · intro i row us t r hr hu hb
    by_cases hi : i < r1.length
    · rw [List.getElem?_append_left hi] at hr
      rw [List.take_append_of_le_length (by omega)] at hu
      exact go_err (h1.bad i row us t r hr hu hb)
    · rw [List.getElem?_append_right (by omega)] at hr
      rw [List.take_append, List.take_of_length_le (by omega), List.map_append] at hu
      obtain ⟨u1, u2, rfl, e1, e2⟩ := map_split hu
      show (f ((u1 ++ u2) ++ t :: r)).go g = _
      rw [List.append_assoc, go_app (h1.ok u1 _ e1)]
      exact h2.bad _ row u2 t r hr e2 hb
theorem Rds.one {α : Type} {f : List Tok → RdF α} {k : KT} {w : Str} {x : α} (h1 : ∀ t r, t.k = k → f (t :: r) = .ok (x, r)) (h2 : ∀ t r, Bad w t → f (t :: r) = .error (fltAt t w)) : Rds f [(k, w)] x := by
  constructor
  · intro us r h
    cases us with
    | nil => cases h
    | cons t u =>
      rw [List.map_cons] at h
      injection h with h3 h4
      cases u with
      | nil => exact h1 t r h3
      | cons t2 u => cases h4
  · intro i row us t r hr hu hb
    cases i with
    | zero =>
      simp only [List.getElem?_cons_zero, Option.some.injEq] at hr
      subst hr
      cases us with
      | nil => exact h2 t r hb
      | cons t2 u => cases hu
    | succ i => simp at hr
theorem k_inj {t : Tok} {a b : Str} (h : t.k = (a, b)) : t.kind = a ∧ t.text = b := by
  have h : (t.kind, t.text) = (a, b) := h
  injection h with h1 h2
  exact ⟨h1, h2⟩
theorem exp_rds {s w : Str} (hw : PySem.Str.ofString "expected " ++ s = w) (hb : ∀ t, Bad w t → isSg s t = false) : Rds (expF s) [(sgK s, w)] () := by
  refine .one (fun t r h => ?_) (fun t r h => ?_)
  · obtain ⟨h1, h2⟩ := k_inj h
    rw [expF, if_pos]
    unfold isSg
    rw [h1, h2, decide_eq_true_eq]
  · rw [expF, hb t h, if_neg Bool.false_ne_true, hw]
theorem take_rds {k w u : Str} {p : Str → Bool} (hp : p u = true) (hb : ∀ t, Bad w t → t.kind = k → p t.text = false) : Rds (takeP k p w) [((k, u), w)] u := by
  refine .one (fun t r h => ?_) (fun t r h => take_bad (hb t h))
  obtain ⟨h1, h2⟩ := k_inj h
  rw [← h2]
  exact take_ok h1 (by rw [h2]; exact hp)
def eLine : Str := PySem.Str.ofString "expected a line"
theorem linesL_rds {n : Nat} : ∀ {ls found : List Str}, (∀ y ∈ ls, y.length ≤ 20) → found.length + ls.length ≤ 12 → n ≤ found.length + ls.length → Rds (linesL n found) (ls.map (fun y => (lineK y, eLine)) ++ [(sgK "]", eLine)]) (found ++ ls)
  | [], found, _, _, hn => by
    rw [List.append_nil]
    refine .one (fun t r h => ?_) (fun t r h => ?_)
    · obtain ⟨h3, h4⟩ := k_inj h
      have hs : isSg "]" t = true := by unfold isSg; rw [h3, h4, decide_eq_true_eq]
      rw [linesL, if_neg]
      rintro (h | h)
      · simp only [List.length_nil] at hn; omega
      · rw [hs] at h; cases h
    · obtain ⟨h1, h2⟩ := h.line rfl
      rw [linesL, if_pos (.inr h1)]
      by_cases hk : t.kind = "quoted"
      · rw [if_pos hk, if_pos (h2 hk)]; rfl
      · rw [if_neg hk]; rfl
  | y :: ls, found, hy, hm, hn => by
    have yl := hy y (List.mem_cons_self ..)
    rw [List.length_cons] at hm hn
    have ih := linesL_rds (n := n) (ls := ls) (found := found ++ [y]) (fun z hz => hy z (List.mem_cons_of_mem _ hz)) (by rw [List.length_append, List.length_singleton]; omega) (by rw [List.length_append, List.length_singleton]; omega)
    have e1 : ∀ t r, t.k = lineK y → linesL n found (t :: r) = linesL n (found ++ [y]) r := fun t r h => by
      have hs := sg_line y "]" h
      obtain ⟨h3, h4⟩ := k_inj h
      rw [linesL, if_pos (.inr hs), if_pos h3, h4, if_neg (by omega), if_neg (by omega)]
    constructor
    · intro us r h
      cases us with
      | nil => cases h
      | cons t u =>
        rw [List.map_cons, List.map_cons, List.cons_append, List.map_cons] at h
        injection h with h3 h4
        rw [List.cons_append, e1 t _ h3, ih.ok u r h4, List.append_assoc]
        rfl
    · intro i row us t r hr hu hb
      cases i with
      | zero =>
        rw [List.map_cons, List.cons_append, List.getElem?_cons_zero] at hr
        injection hr with hr
        subst hr
        cases us with
        | cons t2 u => cases hu
        | nil =>
          obtain ⟨h1, h2⟩ := hb.line rfl
          show linesL n found (t :: r) = _
          rw [linesL, if_pos (.inr h1)]
          by_cases hk : t.kind = "quoted"
          · rw [if_pos hk, if_pos (h2 hk)]; rfl
          · rw [if_neg hk]; rfl
      | succ i =>
        rw [List.map_cons, List.cons_append, List.getElem?_cons_succ] at hr
        cases us with
        | nil => rw [List.map_cons, List.cons_append, List.take_succ_cons] at hu; cases hu
        | cons t2 u =>
          rw [List.map_cons, List.map_cons, List.cons_append, List.take_succ_cons, List.map_cons] at hu
          injection hu with h3 h4
          rw [List.cons_append, e1 t2 _ h3]
          exact ih.bad i row u t r hr h4 hb
def brackK (ls : List Str) : List KRow := [(sgK "[", PySem.Str.ofString "expected [")] ++ (ls.map (fun y => (lineK y, eLine)) ++ [(sgK "]", eLine)])
theorem lines_rds {n : Nat} {ls : List Str} (hl : isLinesS ls = true) (hn : n ≤ ls.length) : Rds (linesF n) (brackK ls) ls := by
  obtain ⟨l1, l2⟩ := lines_len hl
  have h2 := linesL_rds (n := n) (ls := ls) (found := []) (fun y hy => (l2 y hy).1) (by simpa using l1) (by simpa using hn)
  exact Rds.go (g := fun _ r => linesL n [] r) (exp_rds (by decide +kernel) fun t h => h.bra rfl) h2
def headK (w z e : Str) : List KRow := [(wdK w, PySem.Str.ofString "expected an action"), (wdK (placeS z), e)]
def Action.rowsK : Action → List KRow
  | .read p => headK "read" p ePath
  | .kind p => headK "kind" p ePlace
  | .list p => headK "list" p ePlace
  | .find z u => headK "find" z ePlace ++ [(lineK u, PySem.Str.ofString "expected a word")]
  | .count p => headK "count" p ePlace
  | .write p ls => headK "write" p ePath ++ brackK ls
  | .remove p => headK "remove" p ePath
  | .move p t => headK "move" p ePath ++ [(wdK t, ePath)]
  | .splice p o n => headK "splice" p ePath ++ (brackK o ++ brackK n)
def tokKR (x : Action) : List KRow := [(sgK "(", PySem.Str.ofString "expected (")] ++ (x.rowsK ++ [(sgK ")", PySem.Str.ofString "expected )")])
theorem word_rds {u : Str} (h : wordB u = true) : Rds wordF [(wdK u, PySem.Str.ofString "expected an action")] u := take_rds h fun t h => h.act rfl
theorem path_rds {p : Str} (h : isPathS p = true) : Rds pathF [(wdK p, ePath)] p := take_rds h fun t h => h.path rfl
theorem path_rds' {p : Str} (h : isPathS p = true) : Rds pathF [(wdK (placeS p), ePath)] p := by rw [placeS_path h]; exact path_rds h
theorem rds_end {α β : Type} {f : List Tok → RdF α} {g : α → β} {rows : List KRow} {x : α} (h : Rds f rows x) : Rds (fun ts => (f ts).go fun x r => .ok (g x, r)) rows (g x) := by
  have := Rds.go (g := fun x r => .ok (g x, r)) h (Rds.nil (x := g x))
  rw [List.append_nil] at this
  exact this
theorem place_rds {z : Str} (h : isPlaceS z = true) : Rds placeF [(wdK (placeS z), ePlace)] z := by
  obtain ⟨h1, h2⟩ := place_back h
  have := rds_end (g := toPlace) (take_rds (k := PySem.Str.ofString "word") (w := ePlace) h1 fun t h => h.place rfl)
  rw [h2] at this
  exact this
theorem quoW_rds {u : Str} (hu : isWordS u = true) : Rds quoWF [(lineK u, PySem.Str.ofString "expected a word")] u := by
  refine take_rds ?_ fun t h => h.word rfl
  unfold isWordS at hu
  simp only [Bool.and_eq_true] at hu
  unfold quoWB
  rw [hu.1.1, hu.1.2]
  rfl
def bodyF (ts : List Tok) : RdF Action := (wordF ts).go fun w r => restF w r
theorem act_bodyF (ts : List Tok) : actRF ts = (expF "(" ts).go fun _ r => (bodyF r).go fun x r => (expF ")" r).go fun _ r => .ok (x, r) := by
  unfold actRF
  cases expF "(" ts with
  | error e => rfl
  | ok p =>
    show (wordF p.2).go _ = ((wordF p.2).go _).go _
    cases wordF p.2 with
    | error e => rfl
    | ok q => rfl
theorem body_rds {x : Action} (hb : x.bad = none) : Rds bodyF x.rowsK x := by
  have wd : ∀ {w : Str} {rows : List KRow} {y : Action}, wordB w = true → Rds (restF w) rows y → Rds bodyF ([(wdK w, PySem.Str.ofString "expected an action")] ++ rows) y := fun hw h => Rds.go (g := fun w r => restF w r) (word_rds hw) h
  cases x with
  | read p =>
    simp only [Action.bad] at hb
    split at hb
    · exact wd (by decide +kernel) ((rds_end (g := Action.read) (path_rds' ‹_›) : _))
    · cases hb
  | remove p =>
    simp only [Action.bad] at hb
    split at hb
    · exact wd (by decide +kernel) (rds_end (g := Action.remove) (path_rds' ‹_›))
    · cases hb
  | kind p =>
    simp only [Action.bad] at hb
    split at hb
    · exact wd (by decide +kernel) (rds_end (g := Action.kind) (place_rds ‹_›))
    · cases hb
  | list p =>
    simp only [Action.bad] at hb
    split at hb
    · exact wd (by decide +kernel) (rds_end (g := Action.list) (place_rds ‹_›))
    · cases hb
  | count p =>
    simp only [Action.bad] at hb
    split at hb
    · exact wd (by decide +kernel) (rds_end (g := Action.count) (place_rds ‹_›))
    · cases hb
  | find p u =>
    simp only [Action.bad] at hb
    split at hb
    · split at hb
      · rename_i h1 h2
        exact wd (by decide +kernel) (Rds.go (g := fun z r => (quoWF r).go fun u r => .ok (Action.find z u, r)) (place_rds h1) (rds_end (g := Action.find p) (quoW_rds h2)))
      · cases hb
    · cases hb
  | move p u =>
    simp only [Action.bad] at hb
    split at hb
    · split at hb
      · rename_i h1 h2
        exact wd (by decide +kernel) (Rds.go (g := fun z r => (pathF r).go fun u r => .ok (Action.move z u, r)) (path_rds' h1) (rds_end (g := Action.move p) (path_rds h2)))
      · cases hb
    · cases hb
  | write p ls =>
    simp only [Action.bad] at hb
    split at hb
    · split at hb
      · rename_i h1 h2
        exact wd (by decide +kernel) (Rds.go (g := fun z r => (linesF 0 r).go fun u r => .ok (Action.write z u, r)) (path_rds' h1) (rds_end (g := Action.write p) (lines_rds h2 (Nat.zero_le _))))
      · cases hb
    · cases hb
  | splice p o n =>
    simp only [Action.bad] at hb
    split at hb
    · split at hb
      · split at hb
        · rename_i h1 h2 h3
          rw [Bool.and_eq_true, decide_eq_true_eq] at h2
          exact wd (by decide +kernel) (Rds.go (g := fun z r => (linesF 1 r).go fun o r => (linesF 0 r).go fun u r => .ok (Action.splice z o u, r)) (path_rds' h1)
            (Rds.go (g := fun o r => (linesF 0 r).go fun u r => .ok (Action.splice p o u, r)) (lines_rds h2.1 h2.2) (rds_end (g := Action.splice p o) (lines_rds h3 (Nat.zero_le _)))))
        · cases hb
      · cases hb
    · cases hb
theorem act_rds {x : Action} (hb : x.bad = none) : Rds actRF (tokKR x) x := by
  have h := Rds.go (g := fun _ r => (bodyF r).go fun x r => (expF ")" r).go fun _ r => .ok (x, r)) (exp_rds (s := "(") (w := PySem.Str.ofString "expected (") (by decide +kernel) fun t h => h.par rfl)
    (Rds.go (g := fun x r => (expF ")" r).go fun _ r => .ok (x, r)) (body_rds hb) (rds_end (g := fun _ => x) (exp_rds (s := ")") (w := PySem.Str.ofString "expected )") (by decide +kernel) fun t h => h.ket rfl)))
  have e : actRF = fun ts => (expF "(" ts).go fun _ r => (bodyF r).go fun x r => (expF ")" r).go fun _ r => .ok (x, r) := funext act_bodyF
  rw [e]
  exact h
def allK (acts : List Action) : List KRow := acts.flatMap tokKR
theorem readN_bad : ∀ {n : Nat} {acts : List Action} {i : Nat} {row : KRow} {us : List Tok} {t : Tok} {r : List Tok}, (∀ x ∈ acts, x.bad = none) → (allK acts)[i]? = some row → us.map Tok.k = ((allK acts).take i).map Prod.fst → Bad row.2 t →
    (row.2 = PySem.Str.ofString "expected (" → t.kind ≠ "end") → (us ++ t :: r).length ≤ n → readN n (us ++ t :: r) = .error (fltAt t row.2)
  | n, [], i, row, us, t, r, _, h, _, _, _, _ => by simp [allK] at h
  | 0, x :: acts, i, row, us, t, r, _, _, _, _, _, hn => by simp at hn
  | n + 1, x :: acts, i, row, us, t, r, hx, h, hu, hb, he, hn => by
    have hbx := hx x (List.mem_cons_self ..)
    have A := act_rds hbx
    have ea : allK (x :: acts) = tokKR x ++ allK acts := List.flatMap_cons
    rw [ea] at h hu
    have first : ∀ {u v : List Tok}, us ++ t :: r = u ++ v → u.map Tok.k = (tokKR x).map Prod.fst → ∃ t0 r0, us ++ t :: r = t0 :: r0 ∧ t0.kind ≠ "end" := fun {u v} e eu => by
      cases u with
      | nil => cases eu
      | cons t0 u =>
        rw [show (tokKR x).map Prod.fst = sgK "(" :: (x.rowsK ++ [(sgK ")", PySem.Str.ofString "expected )")]).map Prod.fst from rfl, List.map_cons] at eu
        injection eu with e1 _
        exact ⟨t0, u ++ v, e, by rw [(k_inj e1).1]; decide +kernel⟩
    by_cases hi : i < (tokKR x).length
    · rw [List.getElem?_append_left hi] at h
      rw [List.take_append_of_le_length (by omega)] at hu
      have e1 := A.bad i row us t r h hu hb
      obtain ⟨t0, r0, e0, hk⟩ : ∃ t0 r0, us ++ t :: r = t0 :: r0 ∧ t0.kind ≠ "end" := by
        cases i with
        | zero =>
          have hr : row = (sgK "(", PySem.Str.ofString "expected (") := by
            rw [show (tokKR x)[0]? = some (sgK "(", PySem.Str.ofString "expected (") from rfl] at h
            injection h with h
            exact h.symm
          cases us with
          | nil => exact ⟨t, r, rfl, he (by rw [hr])⟩
          | cons t2 u => cases hu
        | succ i =>
          cases us with
          | nil =>
            rw [show (tokKR x).take (i + 1) = (sgK "(", PySem.Str.ofString "expected (") :: (x.rowsK ++ [(sgK ")", PySem.Str.ofString "expected )")]).take i from rfl] at hu
            cases hu
          | cons t2 u =>
            rw [show (tokKR x).take (i + 1) = (sgK "(", PySem.Str.ofString "expected (") :: (x.rowsK ++ [(sgK ")", PySem.Str.ofString "expected )")]).take i from rfl, List.map_cons, List.map_cons] at hu
            injection hu with e1 _
            exact ⟨t2, u ++ t :: r, rfl, by rw [(k_inj e1).1]; decide +kernel⟩
      rw [e0] at e1 ⊢
      rw [readN, if_neg hk, e1]
    · rw [List.getElem?_append_right (by omega)] at h
      rw [List.take_append, List.take_of_length_le (by omega), List.map_append] at hu
      obtain ⟨u1, u2, rfl, e1, e2⟩ := map_split hu
      have e3 := A.ok u1 (u2 ++ t :: r) e1
      rw [List.append_assoc] at hn ⊢
      obtain ⟨t0, r0, e0, hk⟩ := first (u := u1) (v := u2 ++ t :: r) (by rw [List.append_assoc]) e1
      rw [List.append_assoc] at e0
      have al := act_len e3
      rw [e0] at e3 hn al ⊢
      rw [readN, if_neg hk, e3]
      show (readN n (u2 ++ t :: r)).map (x :: ·) = _
      rw [readN_bad (fun y hy => hx y (List.mem_cons_of_mem _ hy)) h e2 hb he (by omega)]
      rfl
theorem readN_end : ∀ {n : Nat} {acts : List Action} {us : List Tok} {t : Tok} {r : List Tok}, (∀ x ∈ acts, x.bad = none) → us.map Tok.k = (allK acts).map Prod.fst → t.kind = "end" → (us ++ t :: r).length ≤ n → readN n (us ++ t :: r) = .ok acts
  | 0, acts, us, t, r, _, _, _, hn => by simp at hn
  | n + 1, [], us, t, r, _, hu, ht, _ => by
    cases us with
    | nil => show readN (n + 1) (t :: r) = _; rw [readN, if_pos ht]
    | cons t2 u => cases hu
  | n + 1, x :: acts, us, t, r, hx, hu, ht, hn => by
    have A := act_rds (hx x (List.mem_cons_self ..))
    rw [show allK (x :: acts) = tokKR x ++ allK acts from List.flatMap_cons, List.map_append] at hu
    obtain ⟨u1, u2, rfl, e1, e2⟩ := map_split hu
    have e3 := A.ok u1 (u2 ++ t :: r) e1
    rw [List.append_assoc] at hn ⊢
    have al := act_len e3
    cases u1 with
    | nil => cases e1
    | cons t0 u =>
      have hk : t0.kind ≠ "end" := by
        rw [show (tokKR x).map Prod.fst = sgK "(" :: (x.rowsK ++ [(sgK ")", PySem.Str.ofString "expected )")]).map Prod.fst from rfl, List.map_cons] at e1
        injection e1 with e1 _
        rw [(k_inj e1).1]; decide +kernel
      rw [List.cons_append] at e3 hn al ⊢
      rw [readN, if_neg hk, e3]
      show (readN n (u2 ++ t :: r)).map (x :: ·) = _
      rw [readN_end (fun y hy => hx y (List.mem_cons_of_mem _ hy)) e2 ht (by omega)]
      rfl
end K07



namespace K07
open PySem L2 Sa
def mvp (p : Int × Int) (cs : List Nat) : Int × Int := cs.foldl (fun p x => (nxL x p.1, nxC x p.2)) p
theorem mvp_app (p : Int × Int) (a b : List Nat) : mvp p (a ++ b) = mvp (mvp p a) b := List.foldl_append
theorem mvp_cons (p : Int × Int) (x : Nat) (b : List Nat) : mvp p (x :: b) = mvp (nxL x p.1, nxC x p.2) b := rfl
theorem mvp_flat : ∀ {s : List Nat} {l c : Int}, (∀ y ∈ s, y ≠ 10) → mvp (l, c) s = (l, c + s.length)
  | [], l, c, _ => by show (l, c) = (l, c + ((0 : Nat) : Int)); rw [show c + ((0 : Nat) : Int) = c from by omega]
  | x :: s, l, c, h => by
    have hx := h x (List.mem_cons_self ..)
    rw [mvp_cons, show nxL x (l, c).1 = l from if_neg hx, show nxC x (l, c).2 = c + 1 from if_neg hx, mvp_flat fun y hy => h y (List.mem_cons_of_mem _ hy), List.length_cons]
    congr 1
    omega
inductive KTx : KT → List Nat → Bool → Prop
  | sg {x : Nat} : x ∈ signsL → KTx (signK x) [x] true
  | quo {q : List Nat} : (∀ y ∈ q, y ≠ 34 ∧ y ≠ 10) → KTx (quoK q) ([34] ++ q ++ [34]) true
  | wd {w : List Nat} : w ≠ [] → (∀ y ∈ w, y ∉ endsL) → KTx (wordK w) w false
def Opn (cl : Bool) (r : List Nat) : Prop := cl = true ∨ r = [] ∨ ∃ e r', r = e :: r' ∧ e ∈ endsL
def tokAt (k : KT) (p : Int × Int) : Tok := ⟨k.1, k.2, p.1, p.2⟩
theorem tw_all {p : Nat → Bool} : ∀ {w r : List Nat}, (∀ y ∈ w, p y = true) → (r = [] ∨ ∃ e r', r = e :: r' ∧ p e = false) → (w ++ r).takeWhile p = w ∧ (w ++ r).dropWhile p = r
  | [], r, _, h => by
    rcases h with rfl | ⟨e, r', rfl, he⟩
    · exact ⟨rfl, rfl⟩
    · rw [List.nil_append, List.takeWhile_cons, List.dropWhile_cons, he]
      exact ⟨rfl, rfl⟩
  | x :: w, r, hw, h => by
    obtain ⟨h1, h2⟩ := tw_all (w := w) (fun y hy => hw y (List.mem_cons_of_mem _ hy)) h
    have hx := hw x (List.mem_cons_self ..)
    rw [List.cons_append, List.takeWhile_cons, List.dropWhile_cons, hx]
    exact ⟨by rw [if_pos rfl, h1], by rw [if_pos rfl, h2]⟩
theorem spl_tok {k : KT} {s r : List Nat} {cl : Bool} {l c : Int} (h : KTx k s cl) (hr : Opn cl r) : spl .nrm (s ++ r) l c = (spl .nrm r (mvp (l, c) s).1 (mvp (l, c) s).2).map ([tokAt k (l, c)] ++ ·) := by
  cases h with
  | @sg x hx =>
    obtain ⟨h1, _, _⟩ := signs_ne hx
    rw [List.singleton_append, spl_sg hx, mvp_cons, show nxL x (l, c).1 = l from if_neg h1, show nxC x (l, c).2 = c + 1 from if_neg h1]
    rfl
  | @quo q hq =>
    have m : mvp (l, c) ([34] ++ q ++ [34]) = (l, c + ([34] ++ q ++ [34] : List Nat).length) := mvp_flat fun y hy => by
      simp only [List.append_assoc, List.mem_append, List.mem_singleton] at hy
      rcases hy with rfl | hy | rfl
      · decide
      · exact (hq y hy).2
      · decide
    rw [m, show ([34] ++ q ++ [34]) ++ r = 34 :: (q ++ 34 :: r) from by simp, spl_q0, spl_quo]
    obtain ⟨h1, h2⟩ := tw_all (p := quoB) (w := q) (r := 34 :: r) (fun y hy => by obtain ⟨a, b⟩ := hq y hy; unfold quoB; simp [a, b]) (.inr ⟨34, r, rfl, rfl⟩)
    unfold quoR
    rw [h1, h2]
    show (spl .nrm r l (c + 1 + q.length + 1)).map ([quoT ([] ++ q) l c] ++ ·) = (spl .nrm r l (c + (([34] ++ q ++ [34] : List Nat).length : Int))).map ([tokAt (quoK q) (l, c)] ++ ·)
    rw [show c + (([34] ++ q ++ [34] : List Nat).length : Int) = c + 1 + q.length + 1 from by simp; omega]
    rfl
  | @wd w h0 hw =>
    have m : mvp (l, c) s = (l, c + s.length) := mvp_flat fun y hy e => hw y hy (ends_iff.mpr (.inr (.inl e)))
    rw [m]
    cases s with
    | nil => exact absurd rfl h0
    | cons x w =>
      have hr' : r = [] ∨ ∃ e r', r = e :: r' ∧ wdB e = false := by
        rcases hr with h | h | ⟨e, r', h1, h2⟩
        · cases h
        · exact .inl h
        · exact .inr ⟨e, r', h1, by unfold wdB; simp [h2]⟩
      obtain ⟨h1, h2⟩ := tw_all (p := wdB) (w := w) (r := r) (fun y hy => by have := hw y (List.mem_cons_of_mem _ hy); unfold wdB; simp [this]) hr'
      rw [List.cons_append, spl_w0 (hw x (List.mem_cons_self ..)), spl_wd, h1, h2, List.length_cons]
      show (spl .nrm r l (c + 1 + w.length)).map ([wordT ([x] ++ w) l c] ++ ·) = (spl .nrm r l (c + ((w.length + 1 : Nat) : Int))).map _
      rw [show c + ((w.length + 1 : Nat) : Int) = c + 1 + w.length from by omega]
      rfl
theorem spl_bl : ∀ {b r : List Nat} {p : Int × Int}, Bl b → spl .nrm (b ++ r) p.1 p.2 = spl .nrm r (mvp p b).1 (mvp p b).2
  | [], _, _, _ => rfl
  | x :: b, r, p, h => by
    have hb : Bl b := fun y hy => h y (List.mem_cons_of_mem _ hy)
    rw [mvp_cons, List.cons_append]
    rcases h x (List.mem_cons_self ..) with rfl | rfl
    · rw [spl_sp]; exact spl_bl (p := (nxL 32 p.1, nxC 32 p.2)) hb
    · rw [spl_nl]; exact spl_bl (p := (nxL 10 p.1, nxC 10 p.2)) hb
structure It where
  gap : List Nat
  k : KT
  s : List Nat
def flatI (is : List It) : List Nat := is.flatMap fun i => i.gap ++ i.s
def toksI : List It → Int × Int → List Tok
  | [], _ => []
  | i :: r, p => tokAt i.k (mvp p i.gap) :: toksI r (mvp p (i.gap ++ i.s))
inductive Lay : Bool → List It → Bool → Prop
  | nil {cl : Bool} : Lay cl [] cl
  | cons {cl c1 c2 : Bool} {i : It} {r : List It} : Bl i.gap → (cl = true ∨ i.gap ≠ []) → KTx i.k i.s c1 → Lay c1 r c2 → Lay cl (i :: r) c2
theorem bl_ends {b : List Nat} (h : Bl b) (h0 : b ≠ []) (r : List Nat) : ∃ e r', b ++ r = e :: r' ∧ e ∈ endsL := by
  cases b with
  | nil => exact absurd rfl h0
  | cons x b =>
    refine ⟨x, b ++ r, rfl, ends_iff.mpr ?_⟩
    rcases h x (List.mem_cons_self ..) with h | h
    · exact .inl h
    · exact .inr (.inl h)
theorem lay_opn {c1 c2 : Bool} {is : List It} {r : List Nat} (h : Lay c1 is c2) (hr : Opn c2 r) : Opn c1 (flatI is ++ r) := by
  cases h with
  | nil => exact hr
  | @cons _ c3 _ i r' hb h0 hk _ =>
    rcases h0 with h0 | h0
    · exact .inl h0
    · obtain ⟨e, r2, h1, h2⟩ := bl_ends hb h0 (i.s ++ (flatI r' ++ r))
      refine .inr (.inr ⟨e, r2, ?_, h2⟩)
      rw [← h1]
      unfold flatI
      rw [List.flatMap_cons, List.append_assoc, List.append_assoc]
theorem lay_spl : ∀ {c1 c2 : Bool} {is : List It} {r : List Nat} {p : Int × Int}, Lay c1 is c2 → Opn c2 r → spl .nrm (flatI is ++ r) p.1 p.2 = (spl .nrm r (mvp p (flatI is)).1 (mvp p (flatI is)).2).map (toksI is p ++ ·)
  | _, _, _, r, p, .nil, _ => by
    show spl .nrm r p.1 p.2 = (spl .nrm r p.1 p.2).map ([] ++ ·)
    rw [map_nil]
  | _, c2, _, r, p, .cons (i := i) (r := r') hb h0 hk hl, hr => by
    have e1 : flatI (i :: r') = (i.gap ++ i.s) ++ flatI r' := List.flatMap_cons
    have ih := lay_spl (p := mvp p (i.gap ++ i.s)) hl hr
    rw [e1, List.append_assoc, List.append_assoc, spl_bl hb, spl_tok hk (lay_opn hl hr)]
    rw [show ((mvp p i.gap).1, (mvp p i.gap).2) = mvp p i.gap from rfl, ← mvp_app, ih, map_app, ← mvp_app]
    rfl
theorem toks_k : ∀ (is : List It) (p : Int × Int), (toksI is p).map Tok.k = is.map It.k
  | [], _ => rfl
  | i :: r, p => by
    show (tokAt i.k _).k :: (toksI r _).map Tok.k = _
    rw [toks_k r]
    rfl
theorem lay_app : ∀ {c1 c2 c3 : Bool} {a b : List It}, Lay c1 a c2 → Lay c2 b c3 → Lay c1 (a ++ b) c3
  | _, _, _, _, _, .nil, h => h
  | _, _, _, _, _, .cons h1 h2 h3 h4, h => .cons h1 h2 h3 (lay_app h4 h)
theorem lay_split : ∀ {c1 c3 : Bool} {a b : List It}, Lay c1 (a ++ b) c3 → ∃ c2, Lay c1 a c2 ∧ Lay c2 b c3
  | c1, _, [], _, h => ⟨c1, .nil, h⟩
  | _, _, i :: a, b, h => by
    cases h with
    | cons h1 h2 h3 h4 =>
      obtain ⟨c2, h5, h6⟩ := lay_split h4
      exact ⟨c2, .cons h1 h2 h3 h5, h6⟩
theorem flat_app (a b : List It) : flatI (a ++ b) = flatI a ++ flatI b := List.flatMap_append
theorem toks_app : ∀ (a b : List It) (p : Int × Int), toksI (a ++ b) p = toksI a p ++ toksI b (mvp p (flatI a))
  | [], _, _ => rfl
  | i :: a, b, p => by
    have e1 : flatI (i :: a) = (i.gap ++ i.s) ++ flatI a := List.flatMap_cons
    show tokAt i.k _ :: toksI (a ++ b) _ = tokAt i.k _ :: (toksI a _ ++ _)
    rw [toks_app a b, e1, ← mvp_app]
theorem read_cut {a : List It} {c1 : Bool} {b : List Nat} {z : Str} (h : Lay true a c1) (hb : Bl b) (hz : z.cps.toList = flatI a ++ b) : readTx z = readN (toksI a (1, 1) ++ [endT (mvp (1, 1) z.cps.toList).1 (mvp (1, 1) z.cps.toList).2]).length (toksI a (1, 1) ++ [endT (mvp (1, 1) z.cps.toList).1 (mvp (1, 1) z.cps.toList).2]) := by
  have ho : Opn c1 b := by
    cases b with
    | nil => exact .inr (.inl rfl)
    | cons x b =>
      obtain ⟨e, r, h1, h2⟩ := bl_ends hb (by simp) []
      rw [List.append_nil] at h1
      exact .inr (.inr ⟨e, r, h1, h2⟩)
  have e := lay_spl (p := (1, 1)) h ho
  have e2 := spl_bl (r := []) (p := mvp (1, 1) (flatI a)) hb
  rw [List.append_nil] at e2
  rw [e2, ← mvp_app, ← hz] at e
  unfold readTx
  rw [e]
  rfl
theorem read_wrong {a r : List It} {c1 c2 c3 : Bool} {i : It} {kw : KT} {sw : List Nat} {z : Str} (h : Lay true (a ++ i :: r) c3) (hw : KTx kw sw c2) (hz : z.cps.toList = flatI a ++ (i.gap ++ (sw ++ (32 :: (i.s ++ flatI r))))) :
    ∃ us, spl .nrm z.cps.toList 1 1 = .ok (toksI a (1, 1) ++ tokAt kw (mvp (1, 1) (flatI a ++ i.gap)) :: us) := by
  obtain ⟨c4, h1, h2⟩ := lay_split h
  cases h2 with
  | @cons _ c5 _ _ _ g1 g2 g3 g4 =>
    have l1 : Lay true (a ++ [(⟨i.gap, kw, sw⟩ : It)]) c2 := lay_app h1 (.cons (i := (⟨i.gap, kw, sw⟩ : It)) g1 g2 hw .nil)
    have l2 : Lay true ((⟨[32], i.k, i.s⟩ : It) :: r) c3 := .cons (fun x hx => by rw [List.mem_singleton] at hx; exact .inl hx) (.inl rfl) g3 g4
    have e := lay_spl (p := (1, 1)) (r := 32 :: (i.s ++ flatI r)) l1 (.inr (.inr ⟨32, _, rfl, ends_iff.mpr (.inl rfl)⟩))
    have e3 := lay_spl (p := mvp (1, 1) (flatI (a ++ [(⟨i.gap, kw, sw⟩ : It)]))) (r := []) l2 (.inr (.inl rfl))
    have f3 : flatI ((⟨[32], i.k, i.s⟩ : It) :: r) ++ [] = 32 :: (i.s ++ flatI r) := by unfold flatI; rw [List.flatMap_cons]; simp
    rw [f3] at e3
    rw [e3, toks_app] at e
    have f1 : flatI (a ++ [(⟨i.gap, kw, sw⟩ : It)]) ++ 32 :: (i.s ++ flatI r) = z.cps.toList := by
      rw [hz, flat_app]
      unfold flatI
      simp
    rw [f1] at e
    refine ⟨toksI ((⟨[32], i.k, i.s⟩ : It) :: r) (mvp (1, 1) (flatI (a ++ [(⟨i.gap, kw, sw⟩ : It)]))) ++ [endT (mvp (mvp (1, 1) (flatI (a ++ [(⟨i.gap, kw, sw⟩ : It)]))) (flatI ((⟨[32], i.k, i.s⟩ : It) :: r))).1 (mvp (mvp (1, 1) (flatI (a ++ [(⟨i.gap, kw, sw⟩ : It)]))) (flatI ((⟨[32], i.k, i.s⟩ : It) :: r))).2], ?_⟩
    rw [e]
    show Except.ok _ = Except.ok _
    congr 1
    dsimp only
    rw [List.append_assoc]
    show _ ++ ([tokAt kw (mvp (mvp (1, 1) (flatI a)) i.gap)] ++ _) = _
    rw [← mvp_app]
    rfl
theorem read_open {a : List It} {c1 c2 : Bool} {i : It} {kw : KT} {sw o : List Nat} {z : Str} (h1 : Lay true a c1) (g1 : Bl i.gap) (g2 : c1 = true ∨ i.gap ≠ []) (hw : KTx kw sw c2) (ho : o = [] ∨ ∃ r, o = 10 :: r)
    (hz : z.cps.toList = (flatI a ++ (i.gap ++ (sw ++ [32]))) ++ (34 :: ([111, 112, 101, 110] ++ o))) :
    spl .nrm z.cps.toList 1 1 = .error ⟨(mvp (1, 1) (flatI a ++ (i.gap ++ (sw ++ [32])))).1, (mvp (1, 1) (flatI a ++ (i.gap ++ (sw ++ [32])))).2 + 5, "text is not closed"⟩ := by
  have l1 : Lay true (a ++ [(⟨i.gap, kw, sw⟩ : It)]) c2 := lay_app h1 (.cons (i := (⟨i.gap, kw, sw⟩ : It)) g1 g2 hw .nil)
  have e := lay_spl (p := (1, 1)) (r := [32] ++ (34 :: ([111, 112, 101, 110] ++ o))) l1 (.inr (.inr ⟨32, _, rfl, ends_iff.mpr (.inl rfl)⟩))
  have f1 : flatI (a ++ [(⟨i.gap, kw, sw⟩ : It)]) ++ ([32] ++ (34 :: ([111, 112, 101, 110] ++ o))) = z.cps.toList := by
    rw [hz, flat_app]
    unfold flatI
    simp
  have f2 : flatI (a ++ [(⟨i.gap, kw, sw⟩ : It)]) ++ [32] = flatI a ++ (i.gap ++ (sw ++ [32])) := by
    rw [flat_app]
    unfold flatI
    simp
  rw [f1, spl_bl (b := [32]) (p := mvp (1, 1) (flatI (a ++ [(⟨i.gap, kw, sw⟩ : It)]))) (fun x hx => by rw [List.mem_singleton] at hx; exact .inl hx), ← mvp_app, f2, spl_q0, spl_quo] at e
  rw [e]
  obtain ⟨t1, t2⟩ := tw_all (p := quoB) (w := [111, 112, 101, 110]) (r := o) (by decide) (by
    rcases ho with rfl | ⟨r, rfl⟩
    · exact .inl rfl
    · exact .inr ⟨10, r, rfl, rfl⟩)
  unfold quoR
  rw [t1, t2]
  rcases ho with rfl | ⟨r, rfl⟩
  · show Except.error (⟨_, _ + 1 + ((4 : Nat) : Int), _⟩ : Flt) = _
    congr 2
    omega
  · show Except.error (⟨_, _ + 1 + ((4 : Nat) : Int), _⟩ : Flt) = _
    congr 2
    omega
end K07



namespace K07
open PySem L2 Sa
theorem c_un {ta : TE} {r : V → Hp → VK → Prop} {σ : St} {H : Hp} {Q : VK} (h : ta σ H fun x H1 => r x H1 Q) : tUn r ta σ H Q := h
theorem c_negI {Q : VK} {i : Int} {H : Hp} (q : Q (.int (-i)) H) : rU (fun i => .int (-i)) (.int i) H Q := ⟨i, rfl, q⟩
end K07



namespace K07
open PySem L2 Sa
local macro_rules | `(tactic| walk_at "s1") => `(tactic| first | (with_reducible apply c_dgetK))
local macro_rules | `(tactic| walk_at "s1") => `(tactic| (with_reducible apply c_raiseO))
local macro_rules | `(tactic| walk_at "s1") => `(tactic| first | (with_reducible apply c_dgetK))
local macro_rules | `(tactic| walk_at "s1") => `(tactic| (with_reducible apply c_raiseO))
local macro_rules | `(tactic| walk_at "s1") => `(tactic| first | (with_reducible apply c_un) | (with_reducible apply c_negI))
set_option pp.maxSteps 1500
section
variable {P : Program} {w : World} {K : PySem.W.Frag} {mg : Str → Option Value} {base : Heap}
def spLMove (K : PySem.W.Frag) : Sp := fun vs H Q _ => ∃ (a : Addr) (p : Int × Int) (z : Str), vs = [.ref a, .str z] ∧ SqT K H a [.int p.1, .int p.2] ∧ z.length ≤ 1000000 ∧ ∀ b H', Kp [] H H' → SqT K H' b [.int (mvp p z.cps.toList).1, .int (mvp p z.cps.toList).2] → Q (.ref b) H'
theorem sc__law_move : FnScope ["_law_place_here", "_law_text", "_law_line_here", "_law_column", "_law_sign"] ["_law_place_here", "_law_text"] (defScope s__law_move) := ⟨rfl, rfl, rfl, by decide +kernel, rfl, by decide +kernel, by decide +kernel⟩
theorem bn__law_move : BindN "_law_move" s__law_move ["_law_place_here", "_law_text"] := fun _ _ _ _ _ _ us hl => match us, hl with | [_, _], _ => rfl
theorem b__law_move (T : TX K mg) : Body P w K mg base "_law_move" s__law_move ["_law_place_here", "_law_text", "_law_line_here", "_law_column", "_law_sign"] 1 (spLMove K) := by
  intro cdv A outer s H vs Q E h X hr
  obtain ⟨a, p, z, rfl, ha, hz, q⟩ := h
  refine ⟨_, (pss_cons (ps_asg (pv 0) (pg_tupU (K := K) (n := 2) rfl (pgs_cons (pg_name (i := 2) sc__law_move.nd rfl (Or.inl rfl)) (pgs_cons (pg_name (i := 3) sc__law_move.nd rfl (Or.inl rfl)) pgs_nil)))) (pss_cons (ps_for PassesOwn.never rfl (pi_str (pv 1)) (pg_name (i := 4) sc__law_move.nd rfl (Or.inl rfl)) (pss_cons (ps_set (i := 3) sc__law_move.nd rfl (Or.inl rfl) (pe_op (op_addU (K := K)) (pv 3) pe_int)) (pss_one (ps_if (pt_cmpR (op_eqU (K := K) hr.units) (pv 4) pe_str (nomark _)) (pss_cons (ps_set (i := 2) sc__law_move.nd rfl (Or.inl rfl) (pe_op (op_addU (K := K)) (pv 2) pe_int)) (pss_one (ps_set (i := 3) sc__law_move.nd rfl (Or.inl rfl) pe_int))) pss_nil)))) (pss_one (ps_ret (pe_tup (pa_cons (pv 2) (pa_cons (pv 3) pa_nil))))))), ?_⟩
  walk_at "st"
  refine forS (fun i σ' H' => ∃ o, σ' = [some (.ref a), some (.str z), some (.int (mvp p (z.cps.toList.take i)).1), some (.int (mvp p (z.cps.toList.take i)).2), o] ∧ H = H') ⟨_, rfl, rfl⟩ ?_ ?_
  · rintro i c _ _ hc ⟨o, rfl, rfl⟩
    have hd : z.cps.toList.take (i + 1) = z.cps.toList.take i ++ [c] := take_succ' hc
    have e : mvp p (z.cps.toList.take (i + 1)) = (nxL c (mvp p (z.cps.toList.take i)).1, nxC c (mvp p (z.cps.toList.take i)).2) := by rw [hd, mvp_app]; rfl
    walk_at "st"
    refine c_ite (fun g => ?_) (fun g => ?_)
    · have := one_inj g
      subst this
      walk_at "st"
      exact ⟨_, by rw [e]; rfl, rfl⟩
    · have g' : c ≠ 10 := fun e => g (by rw [e]; rfl)
      walk_at "st"
      exact ⟨_, by rw [e, show nxL c (mvp p (z.cps.toList.take i)).1 = (mvp p (z.cps.toList.take i)).1 from if_neg g', show nxC c (mvp p (z.cps.toList.take i)).2 = (mvp p (z.cps.toList.take i)).2 + 1 from if_neg g']; rfl, rfl⟩
  · rintro _ _ ⟨o, rfl, rfl⟩
    rw [List.take_length]
    walk_at "st"
    walk_at "nw"
    intro b H1 N1
    exact q b H1 N1.kp (SqT.of N1.at_)
theorem D__law_move (T : TX K mg) : DefAt P w K mg base CX0 "_law_move" 2 ["_law_place_here", "_law_text"] (spLMove K) :=
  def_of T 24 39 sc__law_move bn__law_move (by walk_at "len") (b__law_move T)
def txtS (k : KT) : Str := if k.1 = PySem.Str.ofString "quoted" then quoS k.2 else k.2
def rowS (p : KRow) : Row2 := (txtS p.1, p.2)
def KOk (p : KRow) : Prop := (txtS p.1).length ≤ 40 ∧ okS (txtS p.1) = true ∧ ∃ cl init x, KTx p.1 (txtS p.1).cps.toList cl ∧ (txtS p.1).cps.toList = init ++ [x] ∧ (x ∈ sgqC ↔ cl = true)
def rowP (n : Nat) (p : Int × Int) (i : It) : PyData := .tuple [.int (mvp p i.gap).1, .int (mvp p i.gap).2, .int ((n + i.gap.length : Nat) : Int), .int (n : Int)]
def plD : Nat → Int × Int → List It → List PyData
  | _, _, [] => []
  | n, p, i :: r => rowP n p i :: plD (n + (i.gap ++ i.s).length) (mvp p (i.gap ++ i.s)) r
theorem flat_cons (i : It) (r : List It) : flatI (i :: r) = (i.gap ++ i.s) ++ flatI r := List.flatMap_cons
theorem plD_snoc : ∀ (is : List It) (n : Nat) (p : Int × Int) (i : It), plD n p (is ++ [i]) = plD n p is ++ [rowP (n + (flatI is).length) (mvp p (flatI is)) i]
  | [], n, p, i => rfl
  | j :: r, n, p, i => by
    show rowP n p j :: plD _ _ (r ++ [i]) = _
    rw [plD_snoc r, flat_cons, mvp_app _ (j.gap ++ j.s) (flatI r), List.length_append (as := j.gap ++ j.s), Nat.add_assoc]
    rfl
theorem plD_get : ∀ (is : List It) (n : Nat) (p : Int × Int) (k : Nat) (i : It), is[k]? = some i → (plD n p is)[k]? = some (rowP (n + (flatI (is.take k)).length) (mvp p (flatI (is.take k))) i)
  | [], _, _, _, _, h => by simp at h
  | j :: r, n, p, 0, i, h => by
    rw [List.getElem?_cons_zero] at h
    injection h with h
    subst h
    rfl
  | j :: r, n, p, k + 1, i, h => by
    rw [List.getElem?_cons_succ] at h
    show (plD _ _ r)[k]? = _
    rw [plD_get r _ _ k i h, List.take_succ_cons, flat_cons, mvp_app _ (j.gap ++ j.s) (flatI _), List.length_append (as := j.gap ++ j.s), Nat.add_assoc]
theorem plD_len : ∀ (is : List It) (n : Nat) (p : Int × Int), (plD n p is).length = is.length
  | [], _, _ => rfl
  | i :: r, n, p => by show (plD _ _ r).length + 1 = _; rw [plD_len r]; rfl
theorem gap4 : ∀ z ∈ ([PySem.Str.ofString " ", "\n", "  ", ""] : List Str), Bl z.cps.toList ∧ z.length ≤ 2 := by
  unfold Bl
  decide +kernel
theorem rows_ne {K : PySem.W.Frag} {H : Hp} {b d r : Addr} {ws : List V} {rows : List Row2} (B : Bx H b d) (hr : H r = some (.lst ws)) (hd : DtAll K H ws (rows.map rowT)) : r ≠ b := by
  intro e
  rw [e] at hr
  obtain ⟨k, ds, hb, _⟩ := B.ex
  rw [hb] at hr
  injection hr with hr
  injection hr with hr
  rw [← hr] at hd
  match rows, hd with
  | [], hd => have := dta_len hd; simp at this
  | [_], hd => have := dta_len hd; simp at this
  | _ :: y :: _, hd =>
    obtain ⟨v1, vs1, e1, _, hd⟩ := dta_cons hd
    injection e1 with _ e1
    rw [← e1] at hd
    obtain ⟨v2, vs2, e2, h2, _⟩ := dta_cons hd
    injection e2 with e2 _
    obtain ⟨a, xs, e3, _⟩ := dt_tup h2
    rw [← e2] at e3
    cases e3
def spLLay (K : PySem.W.Frag) : Sp := fun vs H Q _ => ∃ (b d r : Addr) (ws : List V) (ks : List KRow), vs = [.ref b, .ref r] ∧ Bx H b d ∧ H r = some (.lst ws) ∧ DtAll K H ws (ks.map fun p => rowT (rowS p)) ∧ (∀ p ∈ ks, KOk p) ∧ ks.length ≤ 1000 ∧
  ∀ p pl pls is cl H', Lay true is cl → is.map It.k = ks.map Prod.fst → (∀ i ∈ is, i.s = (txtS i.k).cps.toList) → (flatI is).length ≤ 42 * ks.length → Kp [b] H H' → Bx H' b d → H' p = some (.lst [.str (txt (flatI is)), .ref pl]) → p ≠ b → pl ≠ b → H' pl = some (.lst pls) → DtAll K H' pls (plD 0 (1, 1) is) → Q (.ref p) H'
theorem sc__law_lay : FnScope ["_law_box", "_law_rows_here", "_law_text", "_law_place_here", "_law_places", "_law_last", "_law_row", "_law_gap"] ["_law_box", "_law_rows_here"] (defScope s__law_lay) := ⟨rfl, rfl, rfl, by decide +kernel, rfl, by decide +kernel, by decide +kernel⟩
theorem bn__law_lay : BindN "_law_lay" s__law_lay ["_law_box", "_law_rows_here"] := fun _ _ _ _ _ _ us hl => match us, hl with | [_, _], _ => rfl
theorem b__law_lay (T : TX K mg) : Body P w K mg base "_law_lay" s__law_lay ["_law_box", "_law_rows_here", "_law_text", "_law_place_here", "_law_places", "_law_last", "_law_row", "_law_gap"] 2 (spLLay K) := by
  intro cdv A outer s H vs Q E h X hr
  obtain ⟨b, d, r, ws, ks, rfl, B, hrr, hd, hk, hn, q⟩ := h
  have hrb := rows_ne B hrr (rows := ks.map rowS) (by rw [List.map_map]; exact hd)
  have D__law_draw := D__law_draw (P := P) (w := w) (base := base) T; have D__law_move := D__law_move (P := P) (w := w) (base := base) T
  refine ⟨_, (pss_cons (ps_set (i := 2) sc__law_lay.nd rfl (Or.inl rfl) pe_str) (pss_cons (ps_set (i := 3) sc__law_lay.nd rfl (Or.inl rfl) (pe_tup (pa_cons pe_int (pa_cons pe_int pa_nil)))) (pss_cons (ps_set (i := 4) sc__law_lay.nd rfl (Or.inl rfl) (pe_lst pa_nil)) (pss_cons (ps_set (i := 5) sc__law_lay.nd rfl (Or.inl rfl) pe_str) (pss_cons (ps_for PassesOwn.never rfl (pi_listU (K := K) (pv 1)) (pg_name (i := 6) sc__law_lay.nd rfl (Or.inl rfl)) (pss_cons (ps_set (i := 7) sc__law_lay.nd rfl (Or.inl rfl) (pe_ix (ix_U (K := K)) (pe_lst (pa_cons pe_str (pa_cons pe_str (pa_cons pe_str (pa_cons pe_str pa_nil))))) (pe_callA D__law_draw hr pass0 (pa_cons (pv 0) (pa_cons pe_int pa_nil))) (fun _ _ => rfl))) (Evl.pss_cut (ps_if (PW.pt (pw_and (pt_cmpR (op_notInU (K := K)) (pe_ix (ix_U (K := K)) (pv 5) (pe_un un_neg pe_int) (fun _ _ => rfl)) pe_str rfl) (pw_and1 (pt_cmpR (op_eqU (K := K) hr.units) (pv 7) pe_str (nomark _))))) (pss_one (ps_set (i := 7) sc__law_lay.nd rfl (Or.inl rfl) pe_str)) pss_nil) (pss_cons (ps_set (i := 3) sc__law_lay.nd rfl (Or.inl rfl) (pe_callA D__law_move hr pass0 (pa_cons (pv 3) (pa_cons (pv 7) pa_nil)))) (pss_cons (ps_expr (pe_appendU (K := K) (pv 4) (pe_tup (pa_cons (pe_ix (ix_U (K := K)) (pv 3) pe_int (fun _ _ => rfl)) (pa_cons (pe_ix (ix_U (K := K)) (pv 3) pe_int (fun _ _ => rfl)) (pa_cons (pe_op (op_addU (K := K)) (pe_callB (cr_len (K := K)) rfl (T.free 2) PySem.boot_len (pa_cons (pv 2) pa_nil)) (pe_callB (cr_len (K := K)) rfl (T.free 2) PySem.boot_len (pa_cons (pv 7) pa_nil))) (pa_cons (pe_callB (cr_len (K := K)) rfl (T.free 2) PySem.boot_len (pa_cons (pv 2) pa_nil)) pa_nil))))))) (pss_cons (ps_set (i := 2) sc__law_lay.nd rfl (Or.inl rfl) (pe_op (op_addU (K := K)) (pe_op (op_addU (K := K)) (pv 2) (pv 7)) (pe_ix (ix_U (K := K)) (pv 6) pe_int (fun _ _ => rfl)))) (pss_cons (ps_set (i := 3) sc__law_lay.nd rfl (Or.inl rfl) (pe_callA D__law_move hr pass0 (pa_cons (pv 3) (pa_cons (pe_ix (ix_U (K := K)) (pv 6) pe_int (fun _ _ => rfl)) pa_nil)))) (pss_one (ps_set (i := 5) sc__law_lay.nd rfl (Or.inl rfl) (pe_ix (ix_U (K := K)) (pv 6) pe_int (fun _ _ => rfl))))))))))) (pss_one (ps_ret (pe_lst (pa_cons (pv 2) (pa_cons (pv 4) pa_nil)))))))))), ?_⟩
  have wl := dta_len hd
  rw [List.length_map] at wl
  walk_at "st"
  walk_at "nw"
  intro p0 H1 N1
  walk_at "st"
  walk_at "nw"
  intro pl H2 N2
  have fr : H pl = none := N1.free N2.fr
  have npl := B.ne_new fr
  have k02 : Kp [b] H H2 := N1.kp.trans N2.kp
  have B2 := (B.nw N1).nw N2
  walk_at "st"
  refine forQ (itn_l (ys := ws) (u := id)) (fun i σ' H' => ∃ (is : List It) (cl : Bool) (lt : Str) (init : List Nat) (x : Nat) (pp : Addr) (pls : List V) (o1 o2 : Option V), σ' = [some (.ref b), some (.ref r), some (.str (txt (flatI is))), some (.ref pp), some (.ref pl), some (.str lt), o1, o2] ∧ Kp [b] H H' ∧ Bx H' b d ∧
      Lay true is cl ∧ is.map It.k = (ks.take i).map Prod.fst ∧ (∀ i ∈ is, i.s = (txtS i.k).cps.toList) ∧ (flatI is).length ≤ 42 * i ∧ SqT K H' pp [.int (mvp (1, 1) (flatI is)).1, .int (mvp (1, 1) (flatI is)).2] ∧ H' pl = some (.lst pls) ∧ DtAll K H' pls (plD 0 (1, 1) is) ∧
      lt.cps.toList = init ++ [x] ∧ (x ∈ sgqC ↔ cl = true) ∧ lt.length ≤ 1000)
    ⟨[], true, "(", [], 40, p0, [], _, _, rfl, k02, B2, .nil, rfl, (fun _ h => by cases h), Nat.zero_le _, SqT.of (N2.keep N1.at_), N2.at_, .nil, by decide +kernel, by decide +kernel, by decide +kernel⟩ (fun i σ' H' ⟨_, _, _, _, _, _, _, _, _, _, k, _⟩ => by rw [List.map_id]; exact SqL.of (k.at1 hrb hrr)) ?_ ?_
  · rintro i v _ H30 H3 hi ⟨is, cl, lt, init, x, pp, pls, o1, o2, rfl, k3, B3, hlay, hks, hss, hlen, hpp, hpl, hpd, hlt, hx, hll⟩ ⟨rfl, y, hy, hv⟩
    have hv : v = y := hv
    subst hv
    have plen : pls.length = is.length := by rw [dta_len hpd, plD_len]
    have isl : is.length = i := by have := congrArg List.length hks; rw [List.length_map, List.length_map, List.length_take] at this; omega
    obtain ⟨kr, hkr⟩ : ∃ kr, ks[i]? = some kr := ⟨_, List.getElem?_eq_getElem (by omega)⟩
    obtain ⟨v', hv', hdv⟩ := dta_get hd (show (ks.map fun p => rowT (rowS p))[i]? = some (rowT (rowS kr)) from by rw [List.getElem?_map, hkr]; rfl)
    rw [hy] at hv'
    injection hv' with hv'
    subst hv'
    obtain ⟨ra, rfl, hra⟩ := two_inv hdv
    have hra : SqT K H ra [V.str (txtS kr.1), V.str kr.2] := hra
    obtain ⟨kl, _, c2, init2, x2, kt, kx, kc⟩ := hk kr (List.mem_of_getElem? hkr)
    have hlts : lt.length ≤ sizeLine := by rw [sizeLine_eq]; omega
    have tl : (txt (flatI is)).length = (flatI is).length := txt_len _
    walk_at "st"
    walk_at "nw"
    intro p4 H4 N4
    walk_at "st"
    refine ⟨b, d, 4, rfl, B3.nw N4, by decide, fun j H5 h0 h1 e5 B5 => ?_⟩
    refine c_pickM (u := V.str) [PySem.Str.ofString " ", "\n", "  ", ""] (B3.pick N4 e5) h0 h1 fun u hu => ?_
    obtain ⟨hub, hul⟩ := gap4 u hu
    have k35 : Kp [b] H3 H5 := N4.kp.trans e5
    walk_at "st"
    refine c_cut (fun σ' H' => H5 = H' ∧ ∃ g : Str, Bl g.cps.toList ∧ g.length ≤ 2 ∧ (cl = true ∨ g.cps.toList ≠ []) ∧ σ' = [some (.ref b), some (.ref r), some (.str (txt (flatI is))), some (.ref pp), some (.ref pl), some (.str lt), some (.ref ra), some (.str g)]) ?_ ?_
    · walk_at "st"
      refine c_ixS hlts (by rw [hlt]; exact atI_last _ _) ?_
      walk_at "st"
      have own : (cl = true ∨ u.cps.toList ≠ []) → H5 = H5 ∧ ∃ g : Str, Bl g.cps.toList ∧ g.length ≤ 2 ∧ (cl = true ∨ g.cps.toList ≠ []) ∧ [some (V.ref b), some (V.ref r), some (V.str (txt (flatI is))), some (V.ref pp), some (V.ref pl), some (V.str lt), some (V.ref ra), some (V.str u)] = [some (.ref b), some (.ref r), some (.str (txt (flatI is))), some (.ref pp), some (.ref pl), some (.str lt), some (.ref ra), some (.str g)] := fun h => ⟨rfl, u, hub, hul, h, rfl⟩
      refine c_iteNB (fun g1 => ?_) (fun g1 => ?_)
      · walk_at "st"
        refine c_ite (fun g2 => ?_) (fun g2 => ?_)
        · walk_at "st"
          exact ⟨rfl, PySem.Str.ofString " ", (gap4 _ (by simp)).1, (gap4 _ (by simp)).2, .inr (by decide +kernel), rfl⟩
        · walk_at "st"
          exact own (.inr fun e => g2 (str_ext (by rw [e]; decide +kernel)))
      · walk_at "st"
        rw [decide_eq_true_eq] at g1
        exact own (.inl (hx.mp g1))
    rintro _ _ ⟨rfl, g, hgb, hgl, hgo, rfl⟩
    have gs : g.length ≤ sizeLine := by rw [sizeLine_eq]; omega
    have hra5 := SqT.kt ((B.kt k3).trans (B3.kt k35)) hra
    have hpp5 := SqT.kt (B3.kt k35) hpp
    have hpl5 := k35.at1 npl.1 hpl
    have ts : (txt (flatI is)).length ≤ sizeLine := by rw [sizeLine_eq, tl]; omega
    walk_at "st"
    refine ⟨pp, _, g, rfl, hpp5, by omega, fun q1 H6 e6 hq1 => ?_⟩
    have hpl6 := e6.at0 hpl5
    have hra6 := SqT.kp e6 hra5
    rw [← mvp_app] at hq1
    walk_at "st"
    walk_at "nw"
    intro t7 H7 N7
    have hpl7 := N7.keep hpl6
    have hra7 := SqT.kp N7.kp hra6
    have hq7 := SqT.kp N7.kp hq1
    have k37 : Kp [b] H3 H7 := k35.trans (e6.mono.trans N7.kp)
    have B7 := (B5.kp0 e6).nw N7
    walk_at "st"
    have kt8 : Kt H7 (upd H7 pl (.lst (pls ++ [.ref t7]))) := Kt.upd1 (NoT.lst hpl7)
    have k8 : Kp [b] H (upd H7 pl (.lst (pls ++ [.ref t7]))) := (k3.trans k37).fresh_mut fr
    have B8 : Bx (upd H7 pl (.lst (pls ++ [.ref t7]))) b d := B7.other npl.1 npl.2
    have hpl8 : upd H7 pl (.lst (pls ++ [.ref t7])) pl = some (.lst (pls ++ [.ref t7])) := upd_same
    have hra8 := SqT.kt kt8 hra7
    have hq8 := SqT.kt kt8 hq7
    have ht8 : SqT K (upd H7 pl (.lst (pls ++ [.ref t7]))) t7 _ := SqT.kt kt8 (SqT.of N7.at_)
    have hpd8 : DtAll K (upd H7 pl (.lst (pls ++ [.ref t7]))) pls (plD 0 (1, 1) is) := DtAll.kt kt8 (DtAll.kt (B3.kt k37) hpd)
    generalize upd H7 pl (.lst (pls ++ [.ref t7])) = H8 at *
    have eI : flatI (is ++ [⟨g.cps.toList, kr.1, (txtS kr.1).cps.toList⟩]) = flatI is ++ (g.cps.toList ++ (txtS kr.1).cps.toList) := by
      rw [flat_app]
      unfold flatI
      simp
    have gl : g.length = g.cps.toList.length := rfl
    have rl : (txtS kr.1).length = (txtS kr.1).cps.toList.length := rfl
    have et : txt (flatI is) ++ g ++ txtS kr.1 = txt (flatI (is ++ [⟨g.cps.toList, kr.1, (txtS kr.1).cps.toList⟩])) := by
      refine str_ext ?_
      rw [cps_app, cps_app, txt_cps, txt_cps, eI, List.append_assoc]
    refine c_addS (by rw [sizeLine_eq, tl]; omega) ?_
    walk_at "st"
    refine c_addS (by rw [sizeLine_eq, app_len, tl]; omega) ?_
    rw [et]
    walk_at "st"
    refine ⟨q1, _, txtS kr.1, rfl, hq8, by omega, fun q2 H9 e9 hq2 => ?_⟩
    have hra9 := SqT.kp e9 hra8
    walk_at "st"
    refine ⟨is ++ [⟨g.cps.toList, kr.1, (txtS kr.1).cps.toList⟩], c2, txtS kr.1, init2, x2, q2, _, _, _, rfl, k8.trans e9.mono, B8.kp0 e9, lay_app hlay (.cons (i := ⟨g.cps.toList, kr.1, (txtS kr.1).cps.toList⟩) hgb hgo kt .nil), ?_, ?_, ?_, ?_, e9.at0 hpl8, ?_, kx, kc, by omega⟩
    · rw [List.map_append, hks, take_succ' hkr, List.map_append]
      rfl
    · intro j hj
      rcases List.mem_append.mp hj with hj | hj
      · exact hss j hj
      · rw [List.mem_singleton.mp hj]
    · rw [eI, List.length_append, List.length_append]
      omega
    · rw [← mvp_app, List.append_assoc, ← eI] at hq2
      exact hq2
    · rw [plD_snoc]
      refine dta_snoc (hpd8.kp e9) (.tup (SqT.kp e9 ht8) ?_)
      rw [Nat.zero_add, ← mvp_app, tl, gl]
      exact .cons (.int _) (.cons (.int _) (.cons (by rw [show ((flatI is).length : Int) + (g.cps.toList.length : Int) = (((flatI is).length + g.cps.toList.length : Nat) : Int) from by omega]; exact .int _) (.cons (.int _) .nil)))
  · rintro _ H3 ⟨is, cl, lt, init, x, pp, pls, o1, o2, rfl, k3, B3, hlay, hks, hss, hlen, hpp, hpl, hpd, hlt, hx, hll⟩
    rw [List.take_of_length_le (by omega)] at hks
    walk_at "st"
    walk_at "nw"
    intro p4 H4 N4
    exact q p4 pl pls is cl H4 hlay hks hss (by omega) (k3.trans N4.kp) (B3.nw N4) N4.at_ (B3.ne_new N4.fr).1 npl.1 (N4.keep hpl) (hpd.kp N4.kp)
theorem D__law_lay (T : TX K mg) : DefAt P w K mg base CX0 "_law_lay" 3 ["_law_box", "_law_rows_here"] (spLLay K) :=
  def_of T 25 40 sc__law_lay bn__law_lay (by walk_at "len") (b__law_lay T)
end
end K07



namespace K07
open PySem L2 Sa
local macro_rules | `(tactic| walk_at "s1") => `(tactic| first | (with_reducible apply c_dgetK))
local macro_rules | `(tactic| walk_at "s1") => `(tactic| (with_reducible apply c_raiseO))
local macro_rules | `(tactic| walk_at "s1") => `(tactic| first | (with_reducible apply c_dgetK))
local macro_rules | `(tactic| walk_at "s1") => `(tactic| (with_reducible apply c_raiseO))
local macro_rules | `(tactic| walk_at "s1") => `(tactic| first | (with_reducible apply c_un) | (with_reducible apply c_negI))
set_option pp.maxSteps 1500
def badB (w : Str) (k : KT) : Bool :=
  (!decide (w = PySem.Str.ofString "expected (") || !decide ([k.1, k.2] = ([PySem.Str.ofString "sign", "("] : List Str))) &&
  (!decide (w = PySem.Str.ofString "expected )") || !decide ([k.1, k.2] = ([PySem.Str.ofString "sign", ")"] : List Str))) &&
  (!decide (w = PySem.Str.ofString "expected [") || !decide ([k.1, k.2] = ([PySem.Str.ofString "sign", "["] : List Str))) &&
  (!decide (w = PySem.Str.ofString "expected an action") || !decide (k.1 = PySem.Str.ofString "word") || !wordB k.2) &&
  (!decide (w = PySem.Str.ofString "expected a path") || !decide (k.1 = PySem.Str.ofString "word") || !isPathS k.2) &&
  (!decide (w = PySem.Str.ofString "expected a place") || !decide (k.1 = PySem.Str.ofString "word") || !placeB k.2) &&
  (!decide (w = PySem.Str.ofString "expected a word") || !decide (k.1 = PySem.Str.ofString "quoted") || !quoWB k.2) &&
  (!decide (w = PySem.Str.ofString "expected a line") || (!decide ([k.1, k.2] = ([PySem.Str.ofString "sign", "]"] : List Str)) && (!decide (k.1 = PySem.Str.ofString "quoted") || decide (20 < k.2.length))))
theorem bad_of {w : Str} {t : Tok} (h : badB w t.k = true) : Bad w t := by
  unfold badB Tok.k at h
  simp only [Bool.and_eq_true, Bool.or_eq_true, Bool.not_eq_true', decide_eq_false_iff_not, decide_eq_true_eq] at h
  obtain ⟨⟨⟨⟨⟨⟨⟨h1, h2⟩, h3⟩, h4⟩, h5⟩, h6⟩, h7⟩, h8⟩ := h
  refine ⟨fun e => ?_, fun e => ?_, fun e => ?_, fun e ek => ?_, fun e ek => ?_, fun e ek => ?_, fun e ek => ?_, fun e => ?_⟩
  · exact decide_eq_false (h1.resolve_left fun n => n e)
  · exact decide_eq_false (h2.resolve_left fun n => n e)
  · exact decide_eq_false (h3.resolve_left fun n => n e)
  · rcases h4 with (h | h) | h
    · exact absurd e h
    · exact absurd ek h
    · exact h
  · rcases h5 with (h | h) | h
    · exact absurd e h
    · exact absurd ek h
    · exact h
  · rcases h6 with (h | h) | h
    · exact absurd e h
    · exact absurd ek h
    · exact h
  · rcases h7 with (h | h) | h
    · exact absurd e h
    · exact absurd ek h
    · exact h
  · rcases h8 with h | ⟨h, h'⟩
    · exact absurd e h
    · refine ⟨decide_eq_false h, fun ek => ?_⟩
      rcases h' with h' | h'
      · exact absurd ek h'
      · exact h'
def kOf (s : List Nat) : KT × Bool := match s with
  | 34 :: r => (quoK r.dropLast, true)
  | x :: _ => if x ∈ signsL then (signK x, true) else (wordK s, false)
  | [] => (wordK s, false)
def kChk (s : List Nat) : Bool := match s with
  | 34 :: r => decide (r = r.dropLast ++ [34]) && r.dropLast.all quoB
  | x :: r => if x ∈ signsL then decide (r = []) else (x :: r).all wdB
  | [] => false
theorem kOf_ok {s : List Nat} (h : kChk s = true) : KTx (kOf s).1 s (kOf s).2 := by
  cases s with
  | nil => cases h
  | cons x r =>
    by_cases hx : x = 34
    · subst hx
      have h : (decide (r = r.dropLast ++ [34]) && r.dropLast.all quoB) = true := h
      rw [Bool.and_eq_true, decide_eq_true_eq, List.all_eq_true] at h
      have e : (34 : Nat) :: r = [34] ++ r.dropLast ++ [34] := by
        show _ = 34 :: (r.dropLast ++ [34])
        rw [← h.1]
      show KTx (quoK r.dropLast) (34 :: r) true
      rw [e]
      refine .quo fun y hy => ?_
      have := h.2 y hy
      unfold quoB at this
      simpa using this
    · have e1 : kChk (x :: r) = if x ∈ signsL then decide (r = []) else (x :: r).all wdB := by
        unfold kChk
        split
        · rename_i hh; injection hh with hh _; exact absurd hh hx
        · rename_i hh; injection hh with h1 h2; subst h1; subst h2; rfl
        · rename_i hh; cases hh
      have e2 : kOf (x :: r) = if x ∈ signsL then (signK x, true) else (wordK (x :: r), false) := by
        unfold kOf
        split
        · rename_i hh; injection hh with hh _; exact absurd hh hx
        · rename_i hh; injection hh with h1 h2; subst h1; subst h2; rfl
        · rename_i hh; cases hh
      rw [e1] at h
      rw [e2]
      by_cases hs : x ∈ signsL
      · rw [if_pos hs, decide_eq_true_eq] at h
        subst h
        rw [if_pos hs]
        exact .sg hs
      · rw [if_neg hs, List.all_eq_true] at h
        rw [if_neg hs]
        refine .wd (by simp) fun y hy => ?_
        have := h y hy
        unfold wdB at this
        simpa using this
def wrongL (w : Str) : List Str :=
  if w = PySem.Str.ofString "expected a line" then ["a", "(", PySem.Str.ofString "\"" ++ rptS "y" 21 ++ PySem.Str.ofString "\"", "["]
  else if w = PySem.Str.ofString "expected a word" then ["\"\"", PySem.Str.ofString "\"" ++ rptS "y" 13 ++ PySem.Str.ofString "\"", "a", "]"]
  else if w = PySem.Str.ofString "expected a path" then [".", "A", "a/", "\"a\"", "(", "a/b/c/d"]
  else if w = PySem.Str.ofString "expected a place" then ["..", "A", "\"a\"", ")", "a//b"]
  else if w = PySem.Str.ofString "expected an action" then ["reads", "(", "\"read\"", ")"]
  else if w = PySem.Str.ofString "expected )" then ["(", "a", "\"a\"", "]"]
  else if w = PySem.Str.ofString "expected [" then ["(", "a", "\"a\"", "]"]
  else [")", "read", "\"a\"", "["]
def words8 : List Str := ["expected a line", "expected a word", "expected a path", "expected a place", "expected an action", "expected )", "expected [", "expected ("]
theorem wrong_ok : ∀ w ∈ words8, ∀ u ∈ wrongL w, kChk u.cps.toList = true ∧ badB w (kOf u.cps.toList).1 = true ∧ (kOf u.cps.toList).1.1 ≠ PySem.Str.ofString "end" ∧ u.length ≤ 23 ∧ okS u = true := by decide +kernel
section
variable {P : Program} {w : World} {K : PySem.W.Frag} {mg : Str → Option Value} {base : Heap}
def spLWrong (K : PySem.W.Frag) : Sp := fun vs H Q _ => ∃ (b d r : Addr) (t e : Str), vs = [.ref b, .ref r] ∧ Bx H b d ∧ SqT K H r [.str t, .str e] ∧ e ∈ words8 ∧ ∀ u ∈ wrongL e, ∀ H', Kp [b] H H' → Bx H' b d → Q (.str u) H'
theorem sc__law_wrong : FnScope ["_law_box", "_law_row"] ["_law_box", "_law_row"] (defScope s__law_wrong) := ⟨rfl, rfl, rfl, by decide +kernel, rfl, by decide +kernel, by decide +kernel⟩
theorem bn__law_wrong : BindN "_law_wrong" s__law_wrong ["_law_box", "_law_row"] := fun _ _ _ _ _ _ us hl => match us, hl with | [_, _], _ => rfl
theorem b__law_wrong (T : TX K mg) : Body P w K mg base "_law_wrong" s__law_wrong ["_law_box", "_law_row"] 2 (spLWrong K) := by
  intro cdv A outer s H vs Q E h X hr
  obtain ⟨b, d, r, t, e, rfl, B, hrow, he, q⟩ := h
  have D__law_draw := D__law_draw (P := P) (w := w) (base := base) T
  refine ⟨_, (pss_cons (ps_if (pt_cmpR (op_eqU (K := K) hr.units) (pe_ix (ix_U (K := K)) (pv 1) pe_int (fun _ _ => rfl)) pe_str (nomark _)) (pss_one (ps_ret (pe_ix (ix_U (K := K)) (pe_lst (pa_cons pe_str (pa_cons pe_str (pa_cons (pe_op (op_addU (K := K)) (pe_op (op_addU (K := K)) pe_str (pe_op (op_mulU (K := K)) pe_str pe_int)) pe_str) (pa_cons pe_str pa_nil))))) (pe_callA D__law_draw hr pass0 (pa_cons (pv 0) (pa_cons pe_int pa_nil))) (fun _ _ => rfl)))) pss_nil) (pss_cons (ps_if (pt_cmpR (op_eqU (K := K) hr.units) (pe_ix (ix_U (K := K)) (pv 1) pe_int (fun _ _ => rfl)) pe_str (nomark _)) (pss_one (ps_ret (pe_ix (ix_U (K := K)) (pe_lst (pa_cons pe_str (pa_cons (pe_op (op_addU (K := K)) (pe_op (op_addU (K := K)) pe_str (pe_op (op_mulU (K := K)) pe_str pe_int)) pe_str) (pa_cons pe_str (pa_cons pe_str pa_nil))))) (pe_callA D__law_draw hr pass0 (pa_cons (pv 0) (pa_cons pe_int pa_nil))) (fun _ _ => rfl)))) pss_nil) (pss_cons (ps_if (pt_cmpR (op_eqU (K := K) hr.units) (pe_ix (ix_U (K := K)) (pv 1) pe_int (fun _ _ => rfl)) pe_str (nomark _)) (pss_one (ps_ret (pe_ix (ix_U (K := K)) (pe_lst (pa_cons pe_str (pa_cons pe_str (pa_cons pe_str (pa_cons pe_str (pa_cons pe_str (pa_cons pe_str pa_nil))))))) (pe_callA D__law_draw hr pass0 (pa_cons (pv 0) (pa_cons pe_int pa_nil))) (fun _ _ => rfl)))) pss_nil) (pss_cons (ps_if (pt_cmpR (op_eqU (K := K) hr.units) (pe_ix (ix_U (K := K)) (pv 1) pe_int (fun _ _ => rfl)) pe_str (nomark _)) (pss_one (ps_ret (pe_ix (ix_U (K := K)) (pe_lst (pa_cons pe_str (pa_cons pe_str (pa_cons pe_str (pa_cons pe_str (pa_cons pe_str pa_nil)))))) (pe_callA D__law_draw hr pass0 (pa_cons (pv 0) (pa_cons pe_int pa_nil))) (fun _ _ => rfl)))) pss_nil) (pss_cons (ps_if (pt_cmpR (op_eqU (K := K) hr.units) (pe_ix (ix_U (K := K)) (pv 1) pe_int (fun _ _ => rfl)) pe_str (nomark _)) (pss_one (ps_ret (pe_ix (ix_U (K := K)) (pe_lst (pa_cons pe_str (pa_cons pe_str (pa_cons pe_str (pa_cons pe_str pa_nil))))) (pe_callA D__law_draw hr pass0 (pa_cons (pv 0) (pa_cons pe_int pa_nil))) (fun _ _ => rfl)))) pss_nil) (pss_cons (ps_if (pt_cmpR (op_eqU (K := K) hr.units) (pe_ix (ix_U (K := K)) (pv 1) pe_int (fun _ _ => rfl)) pe_str (nomark _)) (pss_one (ps_ret (pe_ix (ix_U (K := K)) (pe_lst (pa_cons pe_str (pa_cons pe_str (pa_cons pe_str (pa_cons pe_str pa_nil))))) (pe_callA D__law_draw hr pass0 (pa_cons (pv 0) (pa_cons pe_int pa_nil))) (fun _ _ => rfl)))) pss_nil) (pss_cons (ps_if (pt_cmpR (op_eqU (K := K) hr.units) (pe_ix (ix_U (K := K)) (pv 1) pe_int (fun _ _ => rfl)) pe_str (nomark _)) (pss_one (ps_ret (pe_ix (ix_U (K := K)) (pe_lst (pa_cons pe_str (pa_cons pe_str (pa_cons pe_str (pa_cons pe_str pa_nil))))) (pe_callA D__law_draw hr pass0 (pa_cons (pv 0) (pa_cons pe_int pa_nil))) (fun _ _ => rfl)))) pss_nil) (pss_one (ps_ret (pe_ix (ix_U (K := K)) (pe_lst (pa_cons pe_str (pa_cons pe_str (pa_cons pe_str (pa_cons pe_str pa_nil))))) (pe_callA D__law_draw hr pass0 (pa_cons (pv 0) (pa_cons pe_int pa_nil))) (fun _ _ => rfl))))))))))), ?_⟩
  have one : (PySem.Str.ofString "\"").length = 1 ∧ (PySem.Str.ofString "y").length = 1 := by decide +kernel
  simp only [words8, List.mem_cons, List.not_mem_nil, or_false] at he
  rcases he with rfl | rfl | rfl | rfl | rfl | rfl | rfl | rfl
  · walk_at "dc"
    refine c_mulS (by omega) (by omega) (by rw [one.2, sizeLine_eq]; omega) ?_
    walk_at "dc"
    refine c_addS (by rw [sizeLine_eq, one.1]; have : (rptS (PySem.Str.ofString "y") 21).length = 21 := by decide +kernel
                      omega) ?_
    walk_at "dc"
    refine c_addS (by rw [sizeLine_eq, app_len, one.1]; have : (rptS (PySem.Str.ofString "y") 21).length = 21 := by decide +kernel
                      omega) ?_
    walk_at "dc"
    walk_at "nw"
    intro p1 H1 N1
    walk_at "st"
    refine ⟨b, d, 4, rfl, B.nw N1, by decide, fun i H2 h0 h1 e2 B2 => ?_⟩
    refine c_pickM (u := V.str) ([PySem.Str.ofString "a", "(", PySem.Str.ofString "\"" ++ rptS "y" 21 ++ PySem.Str.ofString "\"", "["] : List Str) (B.pick N1 e2) h0 h1 fun u hu => ?_
    walk_at "st"
    exact q u (by rw [show wrongL _ = ([PySem.Str.ofString "a", "(", PySem.Str.ofString "\"" ++ rptS "y" 21 ++ PySem.Str.ofString "\"", "["] : List Str) from by kernel_rfl]; exact hu) H2 (N1.kp.trans e2) B2
  · walk_at "dc"
    refine c_mulS (by omega) (by omega) (by rw [one.2, sizeLine_eq]; omega) ?_
    walk_at "dc"
    refine c_addS (by rw [sizeLine_eq, one.1]; have : (rptS (PySem.Str.ofString "y") 13).length = 13 := by decide +kernel
                      omega) ?_
    walk_at "dc"
    refine c_addS (by rw [sizeLine_eq, app_len, one.1]; have : (rptS (PySem.Str.ofString "y") 13).length = 13 := by decide +kernel
                      omega) ?_
    walk_at "dc"
    walk_at "nw"
    intro p1 H1 N1
    walk_at "st"
    refine ⟨b, d, 4, rfl, B.nw N1, by decide, fun i H2 h0 h1 e2 B2 => ?_⟩
    refine c_pickM (u := V.str) ([PySem.Str.ofString "\"\"", PySem.Str.ofString "\"" ++ rptS "y" 13 ++ PySem.Str.ofString "\"", "a", "]"] : List Str) (B.pick N1 e2) h0 h1 fun u hu => ?_
    walk_at "st"
    exact q u (by rw [show wrongL _ = ([PySem.Str.ofString "\"\"", PySem.Str.ofString "\"" ++ rptS "y" 13 ++ PySem.Str.ofString "\"", "a", "]"] : List Str) from by kernel_rfl]; exact hu) H2 (N1.kp.trans e2) B2
  · walk_at "dc"
    walk_at "nw"
    intro p1 H1 N1
    walk_at "st"
    refine ⟨b, d, 6, rfl, B.nw N1, by decide, fun i H2 h0 h1 e2 B2 => ?_⟩
    refine c_pickM (u := V.str) ([PySem.Str.ofString ".", "A", "a/", "\"a\"", "(", "a/b/c/d"] : List Str) (B.pick N1 e2) h0 h1 fun u hu => ?_
    walk_at "st"
    exact q u (by rw [show wrongL _ = ([PySem.Str.ofString ".", "A", "a/", "\"a\"", "(", "a/b/c/d"] : List Str) from by kernel_rfl]; exact hu) H2 (N1.kp.trans e2) B2
  · walk_at "dc"
    walk_at "nw"
    intro p1 H1 N1
    walk_at "st"
    refine ⟨b, d, 5, rfl, B.nw N1, by decide, fun i H2 h0 h1 e2 B2 => ?_⟩
    refine c_pickM (u := V.str) ([PySem.Str.ofString "..", "A", "\"a\"", ")", "a//b"] : List Str) (B.pick N1 e2) h0 h1 fun u hu => ?_
    walk_at "st"
    exact q u (by rw [show wrongL _ = ([PySem.Str.ofString "..", "A", "\"a\"", ")", "a//b"] : List Str) from by kernel_rfl]; exact hu) H2 (N1.kp.trans e2) B2
  · walk_at "dc"
    walk_at "nw"
    intro p1 H1 N1
    walk_at "st"
    refine ⟨b, d, 4, rfl, B.nw N1, by decide, fun i H2 h0 h1 e2 B2 => ?_⟩
    refine c_pickM (u := V.str) ([PySem.Str.ofString "reads", "(", "\"read\"", ")"] : List Str) (B.pick N1 e2) h0 h1 fun u hu => ?_
    walk_at "st"
    exact q u (by rw [show wrongL _ = ([PySem.Str.ofString "reads", "(", "\"read\"", ")"] : List Str) from by kernel_rfl]; exact hu) H2 (N1.kp.trans e2) B2
  · walk_at "dc"
    walk_at "nw"
    intro p1 H1 N1
    walk_at "st"
    refine ⟨b, d, 4, rfl, B.nw N1, by decide, fun i H2 h0 h1 e2 B2 => ?_⟩
    refine c_pickM (u := V.str) ([PySem.Str.ofString "(", "a", "\"a\"", "]"] : List Str) (B.pick N1 e2) h0 h1 fun u hu => ?_
    walk_at "st"
    exact q u (by rw [show wrongL _ = ([PySem.Str.ofString "(", "a", "\"a\"", "]"] : List Str) from by kernel_rfl]; exact hu) H2 (N1.kp.trans e2) B2
  · walk_at "dc"
    walk_at "nw"
    intro p1 H1 N1
    walk_at "st"
    refine ⟨b, d, 4, rfl, B.nw N1, by decide, fun i H2 h0 h1 e2 B2 => ?_⟩
    refine c_pickM (u := V.str) ([PySem.Str.ofString "(", "a", "\"a\"", "]"] : List Str) (B.pick N1 e2) h0 h1 fun u hu => ?_
    walk_at "st"
    exact q u (by rw [show wrongL _ = ([PySem.Str.ofString "(", "a", "\"a\"", "]"] : List Str) from by kernel_rfl]; exact hu) H2 (N1.kp.trans e2) B2
  · walk_at "dc"
    walk_at "nw"
    intro p1 H1 N1
    walk_at "st"
    refine ⟨b, d, 4, rfl, B.nw N1, by decide, fun i H2 h0 h1 e2 B2 => ?_⟩
    refine c_pickM (u := V.str) ([PySem.Str.ofString ")", "read", "\"a\"", "["] : List Str) (B.pick N1 e2) h0 h1 fun u hu => ?_
    walk_at "st"
    exact q u (by rw [show wrongL _ = ([PySem.Str.ofString ")", "read", "\"a\"", "["] : List Str) from by kernel_rfl]; exact hu) H2 (N1.kp.trans e2) B2
theorem D__law_wrong (T : TX K mg) : DefAt P w K mg base CX0 "_law_wrong" 3 ["_law_box", "_law_row"] (spLWrong K) :=
  def_of T 27 44 sc__law_wrong bn__law_wrong (by walk_at "len") (b__law_wrong T)
def toldD (z : Str) : PyData := if 8000 < z.length then .tuple [.str "refused", .str "text"] else match readTx z with
  | .ok acts => .int (acts.length : Int)
  | .error f => .tuple [.str "refused", .int f.line, .int f.col, .str f.words]
def spLTold (K : PySem.W.Frag) : Sp := fun vs H Q _ => ∃ z : Str, vs = [.str z] ∧ z.length ≤ 1000000 ∧ okS z = true ∧ ∀ v H', Kp [] H H' → Dt K H' v (toldD z) → Q v H'
theorem sc__law_told : FnScope ["_law_text", "e"] ["_law_text"] (defScope s__law_told) := ⟨rfl, rfl, rfl, by decide +kernel, rfl, by decide +kernel, by decide +kernel⟩
theorem bn__law_told : BindN "_law_told" s__law_told ["_law_text"] := fun _ _ _ _ _ _ us hl => match us, hl with | [_], _ => rfl
theorem b__law_told (T : TX K mg) : Body P w K mg base "_law_told" s__law_told ["_law_text", "e"] 8 (spLTold K) := by
  intro cdv A outer s H vs Q E h X hr
  obtain ⟨z, rfl, hz, hok, q⟩ := h
  have D_read_actions := D_read_actions (P := P) (w := w) (base := base) T; have E_OutOfRange := E_OutOfRange (P := P) (w := w) (base := base) T; have E_TextFault := E_TextFault (P := P) (w := w) (base := base) T
  refine ⟨_, (pss_one (ps_try_as (i := 1) rfl rfl sc__law_told.nd rfl rfl (names_glo (T.glo 41)) takes_never (fun W pn xe tk1 po1 => (pss_one (ps_ret (pe_callB (cr_len (K := K)) rfl (T.free 2) PySem.boot_len (pa_cons (pe_callX D_read_actions hr tk1 (pa_cons (pv 0) pa_nil)) pa_nil))))) (fun a oe cls d pn hz hf => (pss_cons (ps_if (PW.pt (pw_and (pt_tru (K := K) (pe_callB (cr_isEV (K := K) hz hf) rfl (T.free 42) (by decide +kernel) (pa_cons (pv 1) (pa_cons (pe_gCon (T.glo 7)) pa_nil)))) (pw_and1 (pt_not (pt_tru (K := K) (pe_callB (cr_isEV (K := K) hz hf) rfl (T.free 42) (by decide +kernel) (pa_cons (pv 1) (pa_cons (pe_gCon (T.glo 16)) pa_nil)))))))) (pss_one (ps_ret (pe_tup (pa_cons pe_str (pa_cons (pe_xf E_TextFault.xf E_TextFault.nof hz hf (pv 1)) (pa_cons (pe_xf E_TextFault.xf E_TextFault.nog hz hf (pv 1)) (pa_cons (pe_xf E_TextFault.xf E_TextFault.noh hz hf (pv 1)) pa_nil))))))) pss_nil) (pss_cons (ps_if (pt_tru (K := K) (pe_callB (cr_isEV (K := K) hz hf) rfl (T.free 42) (by decide +kernel) (pa_cons (pv 1) (pa_cons (pe_gCon (T.glo 16)) pa_nil)))) (pss_one (ps_ret (pe_tup (pa_cons pe_str (pa_cons (pe_xf E_OutOfRange.xf E_OutOfRange.no hz hf (pv 1)) pa_nil))))) pss_nil) (pss_one (ps_ret pe_str))))))), ?_⟩
  walk_at "st"
  refine ⟨z, rfl, hz, hok, fun hl => ?_, fun hl => ⟨fun f ef => ?_, fun acts ea htx H1 p xs e1 hp hd => ?_⟩⟩
  · intro d H1 e1 hd
    refine c_caught (He.exm_ok (T.fact 77)) fun ea hea => ?_
    walk_at "st"
    refine c_isE1 (T.exi 6) (T.kit 8) hd ?_
    walk_at "dc"
    refine c_isE1 (T.exi 6) (T.kit 9) hd ?_
    walk_at "dc"
    refine ⟨rfl, rfl, d, _, _, rfl, hd, rfl, ?_⟩
    walk_at "st"
    walk_at "nw"
    intro p2 H2 N2
    refine q _ H2 (e1.trans N2.kp) ?_
    unfold toldD
    rw [if_pos hl]
    exact .tup (SqT.of N2.at_) (.cons (.str _) (.cons (.str _) .nil))
  · intro H1 d H2 k1 t1 N1
    refine c_caught (He.exm_ok (T.fact 78)) fun ea hea => ?_
    have hd := N1.at_
    walk_at "st"
    refine c_isE1 (T.exi 7) (T.kit 10) hd ?_
    walk_at "dc"
    refine c_isE1 (T.exi 7) (T.kit 11) hd ?_
    walk_at "dc"
    refine ⟨rfl, rfl, d, _, _, rfl, hd, rfl, ?_⟩
    walk_at "st"
    refine ⟨rfl, rfl, d, _, _, rfl, hd, rfl, ?_⟩
    walk_at "st"
    refine ⟨rfl, rfl, d, _, _, rfl, hd, rfl, ?_⟩
    walk_at "st"
    walk_at "nw"
    intro p2 H3 N3
    refine q _ H3 ((k1.trans N1.kp).trans N3.kp) ?_
    unfold toldD
    rw [if_neg (by omega), ef]
    exact .tup (SqT.of N3.at_) (.cons (.str _) (.cons (.int _) (.cons (.int _) (.cons (.str _) .nil))))
  · walk_at "st"
    have xl := dta_len hd
    rw [List.length_map] at xl
    refine q _ H1 e1 ?_
    unfold toldD
    rw [if_neg (by omega), ea, xl]
    exact .int _
theorem D__law_told (T : TX K mg) : DefAt P w K mg base CX0 "_law_told" 9 ["_law_text"] (spLTold K) :=
  def_of T 26 43 sc__law_told bn__law_told (by walk_at "len") (b__law_told T)
end
end K07



namespace K07
open PySem L2 Sa
theorem k_ne : PySem.Str.ofString "sign" ≠ PySem.Str.ofString "quoted" ∧ PySem.Str.ofString "word" ≠ PySem.Str.ofString "quoted" := by decide +kernel
theorem txt_sg (s : Str) : txtS (sgK s) = s := if_neg k_ne.1
theorem txt_wd (s : Str) : txtS (wdK s) = s := if_neg k_ne.2
theorem txt_ln (s : Str) : txtS (lineK s) = quoS s := if_pos rfl
theorem row_sg (s w : Str) : rowS (sgK s, w) = (s, w) := by unfold rowS; rw [txt_sg]
theorem row_wd (s w : Str) : rowS (wdK s, w) = (s, w) := by unfold rowS; rw [txt_wd]
theorem row_ln (s w : Str) : rowS (lineK s, w) = (quoS s, w) := by unfold rowS; rw [txt_ln]
theorem row_brack (ls : List Str) : (brackK ls).map rowS = brackR ls := by
  unfold brackK brackR quotedR
  simp only [List.map_append, List.map_cons, List.map_nil, row_sg, List.map_map, List.append_assoc]
  congr 1
theorem row_toks (x : Action) : (tokKR x).map rowS = tokR x := by
  have hd : ∀ w z e, ([(sgK "(", PySem.Str.ofString "expected (")] ++ headK w z e).map rowS = headR w z e := fun w z e => by
    show [rowS _, rowS _, rowS _] = _
    rw [row_sg, row_wd, row_wd]
    rfl
  have en : [(sgK ")", PySem.Str.ofString "expected )")].map rowS = [(PySem.Str.ofString ")", PySem.Str.ofString "expected )")] := by
    show [rowS _] = _
    rw [row_sg]
  unfold tokKR tokR
  rw [← List.append_assoc, List.map_append, en]
  congr 1
  cases x with
  | read p => exact hd _ _ _
  | kind p => exact hd _ _ _
  | list p => exact hd _ _ _
  | count p => exact hd _ _ _
  | remove p => exact hd _ _ _
  | find p u =>
    show ([_] ++ (headK "find" p ePlace ++ [(lineK u, _)])).map rowS = headR "find" p ePlace ++ [(quoS u, _)]
    rw [← List.append_assoc, List.map_append, hd]
    show _ ++ [rowS _] = _
    rw [row_ln]
  | move p u =>
    show ([_] ++ (headK "move" p ePath ++ [(wdK u, _)])).map rowS = headR "move" p ePath ++ [(u, _)]
    rw [← List.append_assoc, List.map_append, hd]
    show _ ++ [rowS _] = _
    rw [row_wd]
    rfl
  | write p ls =>
    show ([_] ++ (headK "write" p ePath ++ brackK ls)).map rowS = headR "write" p ePath ++ brackR ls
    rw [← List.append_assoc, List.map_append, hd, row_brack]
  | splice p o n =>
    show ([_] ++ (headK "splice" p ePath ++ (brackK o ++ brackK n))).map rowS = (headR "splice" p ePath ++ brackR o) ++ brackR n
    rw [← List.append_assoc, List.map_append, hd, List.map_append, row_brack, row_brack, List.append_assoc]
theorem kok_sg {s w : Str} {x : Nat} (h : s.cps.toList = [x]) (hx : x ∈ signsL) : KOk (sgK s, w) := by
  refine ⟨?_, ?_, true, [], x, ?_, ?_, by rw [sgq_iff]; simp [hx]⟩
  · show (txtS (sgK s)).length ≤ 40
    rw [txt_sg]
    show s.cps.toList.length ≤ 40
    rw [h]; exact Nat.le_of_ble_eq_true rfl
  · show okS (txtS (sgK s)) = true
    rw [txt_sg]
    refine okS_iff.mpr fun c hc => ?_
    rw [h, List.mem_singleton] at hc
    rw [hc]
    exact (by decide +kernel : ∀ x ∈ signsL, x < 1114112) x hx
  · show KTx (sgK s) (txtS (sgK s)).cps.toList true
    rw [txt_sg, h]
    have : sgK s = signK x := by unfold sgK signK; rw [txt_of s, h]
    rw [this]
    exact .sg hx
  · show (txtS (sgK s)).cps.toList = _
    rw [txt_sg, h]
    rfl
theorem kok_wd {s w : Str} (h0 : s.cps.toList ≠ []) (h : ∀ y ∈ s.cps.toList, y ∉ endsL) (hl : s.length ≤ 40) (ho : okS s = true) : KOk (wdK s, w) := by
  obtain ⟨init, x, e⟩ : ∃ init x, s.cps.toList = init ++ [x] := ⟨_, _, (List.dropLast_concat_getLast h0).symm⟩
  have hx : x ∉ endsL := h x (by rw [e]; simp)
  refine ⟨by show (txtS (wdK s)).length ≤ 40; rw [txt_wd]; exact hl, by show okS (txtS (wdK s)) = true; rw [txt_wd]; exact ho, false, init, x, ?_, ?_, ?_⟩
  · show KTx (wdK s) (txtS (wdK s)).cps.toList false
    rw [txt_wd, ← wordK_eq]
    exact .wd h0 h
  · show (txtS (wdK s)).cps.toList = _
    rw [txt_wd, e]
  · rw [sgq_iff]
    constructor
    · rintro (h | h)
      · exact absurd (ends_iff.mpr (.inr (.inr (.inr h)))) hx
      · exact absurd (ends_iff.mpr (.inr (.inr (.inl h)))) hx
    · intro h; cases h
theorem kok_ln {s w : Str} (h : isPlainS s = true) (hl : s.length ≤ 38) : KOk (lineK s, w) := by
  have e : (quoS s).cps.toList = ([34] ++ s.cps.toList) ++ [34] := by unfold quoS; rw [cps_app, cps_app, str1.1]
  refine ⟨by show (txtS (lineK s)).length ≤ 40; rw [txt_ln, quoS_len]; omega, ?_, true, [34] ++ s.cps.toList, 34, ?_, ?_, ?_⟩
  · show okS (txtS (lineK s)) = true
    rw [txt_ln]
    refine okS_iff.mpr fun c hc => ?_
    rw [e] at hc
    simp only [List.append_assoc, List.mem_append, List.mem_singleton] at hc
    rcases hc with rfl | hc | rfl
    · decide
    · exact okS_iff.mp (plain_ok h) c hc
    · decide
  · show KTx (lineK s) (txtS (lineK s)).cps.toList true
    rw [txt_ln, e, ← quoK_eq]
    exact .quo (plain_quo h)
  · show (txtS (lineK s)).cps.toList = _
    rw [txt_ln, e]
  · rw [sgq_iff]; simp
theorem kok_brack {ls : List Str} (h : ∀ y ∈ ls, isLineS y = true) : ∀ p ∈ brackK ls, KOk p := by
  intro p hp
  unfold brackK at hp
  simp only [List.mem_append, List.mem_singleton, List.mem_map] at hp
  rcases hp with rfl | ⟨y, hy, rfl⟩ | rfl
  · exact kok_sg (x := 91) (by decide +kernel) in4.2.2.1
  · have := h y hy
    refine kok_ln (line_plain this) ?_
    unfold isLineS at this
    rw [Bool.and_eq_true, decide_eq_true_eq] at this
    omega
  · exact kok_sg (x := 93) (by decide +kernel) in4.2.2.2
theorem kok_path {p w : Str} (h : isPathS p = true) : KOk (wdK p, w) := kok_wd (path_word h).1 (path_word h).2 (by have := path_len h; omega) (path_ok h)
theorem kok_place {z w : Str} (h : isPlaceS z = true) : KOk (wdK (placeS z), w) := by
  unfold isPlaceS at h
  rw [Bool.or_eq_true, decide_eq_true_eq] at h
  rcases h with rfl | h
  · exact kok_wd (by decide +kernel) (by decide +kernel) (by decide +kernel) (by decide +kernel)
  · rw [placeS_path h]
    exact kok_path h
theorem nine_few : ∀ z ∈ ([PySem.Str.ofString "read", "kind", "list", "find", "count", "write", "remove", "move", "splice"] : List Str), z.length ≤ 40 ∧ okS z = true := by decide +kernel
theorem kok_head {w z e : Str} (hw : w ∈ ([PySem.Str.ofString "read", "kind", "list", "find", "count", "write", "remove", "move", "splice"] : List Str)) (hz : isPlaceS z = true) : ∀ p ∈ headK w z e, KOk p := by
  intro p hp
  simp only [headK, List.mem_cons, List.not_mem_nil, or_false] at hp
  rcases hp with rfl | rfl
  · exact kok_wd (words_pt w hw).1 (words_pt w hw).2 (nine_few w hw).1 (nine_few w hw).2
  · exact kok_place hz
theorem kok_toks {x : Action} (h : ∀ p ∈ x.rowsK, KOk p) : ∀ p ∈ tokKR x, KOk p := by
  intro p hp
  unfold tokKR at hp
  simp only [List.mem_append, List.mem_singleton] at hp
  rcases hp with rfl | hp | rfl
  · exact kok_sg (x := 40) (by decide +kernel) in4.1
  · exact h p hp
  · exact kok_sg (x := 41) (by decide +kernel) in4.2.1
theorem kok_app {a b : List KRow} (h1 : ∀ p ∈ a, KOk p) (h2 : ∀ p ∈ b, KOk p) : ∀ p ∈ a ++ b, KOk p := fun p hp => by
  rcases List.mem_append.mp hp with hp | hp
  · exact h1 p hp
  · exact h2 p hp
theorem kok_one {a : KRow} (h : KOk a) : ∀ p ∈ [a], KOk p := fun p hp => by rw [List.mem_singleton.mp hp]; exact h
theorem kok_act {x : Action} (hb : x.bad = none) : ∀ p ∈ tokKR x, KOk p := by
  refine kok_toks ?_
  cases x with
  | read p =>
    simp only [Action.bad] at hb
    split at hb
    · exact kok_head (by simp) (place_of_path ‹_›)
    · cases hb
  | remove p =>
    simp only [Action.bad] at hb
    split at hb
    · exact kok_head (by simp) (place_of_path ‹_›)
    · cases hb
  | kind p =>
    simp only [Action.bad] at hb
    split at hb
    · exact kok_head (by simp) ‹_›
    · cases hb
  | list p =>
    simp only [Action.bad] at hb
    split at hb
    · exact kok_head (by simp) ‹_›
    · cases hb
  | count p =>
    simp only [Action.bad] at hb
    split at hb
    · exact kok_head (by simp) ‹_›
    · cases hb
  | find p u =>
    simp only [Action.bad] at hb
    split at hb
    · split at hb
      · rename_i h1 h2
        exact kok_app (kok_head (by simp) h1) (kok_one (kok_ln (word_plain h2) (by have := word_len h2; omega)))
      · cases hb
    · cases hb
  | move p u =>
    simp only [Action.bad] at hb
    split at hb
    · split at hb
      · rename_i h1 h2
        exact kok_app (kok_head (by simp) (place_of_path h1)) (kok_one (kok_path h2))
      · cases hb
    · cases hb
  | write p ls =>
    simp only [Action.bad] at hb
    split at hb
    · split at hb
      · rename_i h1 h2
        exact kok_app (kok_head (by simp) (place_of_path h1)) (kok_brack (lines_each h2))
      · cases hb
    · cases hb
  | splice p o n =>
    simp only [Action.bad] at hb
    split at hb
    · split at hb
      · split at hb
        · rename_i h1 h2 h3
          rw [Bool.and_eq_true] at h2
          exact kok_app (kok_head (by simp) (place_of_path h1)) (kok_app (kok_brack (lines_each h2.1)) (kok_brack (lines_each h3)))
        · cases hb
      · cases hb
    · cases hb
def noPar (l : List KRow) : Prop := ∀ p ∈ l, p.2 ≠ PySem.Str.ofString "expected ("
theorem words_in {x : Action} : ∀ p ∈ tokKR x, p.2 ∈ words8 := by
  have hd : ∀ w z e, e ∈ words8 → ∀ p ∈ headK w z e, p.2 ∈ words8 := fun w z e he p hp => by
    simp only [headK, List.mem_cons, List.not_mem_nil, or_false] at hp
    rcases hp with rfl | rfl
    · show PySem.Str.ofString "expected an action" ∈ words8; decide +kernel
    · exact he
  have br : ∀ ls, ∀ p ∈ brackK ls, p.2 ∈ words8 := fun ls p hp => by
    unfold brackK at hp
    simp only [List.mem_append, List.mem_singleton, List.mem_map] at hp
    rcases hp with rfl | ⟨y, hy, rfl⟩ | rfl
    · show PySem.Str.ofString "expected [" ∈ words8; decide +kernel
    · show eLine ∈ words8; decide +kernel
    · show eLine ∈ words8; decide +kernel
  have e1 : ePath ∈ words8 := by decide +kernel
  have e2 : ePlace ∈ words8 := by decide +kernel
  have e3 : PySem.Str.ofString "expected a word" ∈ words8 := by decide +kernel
  intro p hp
  unfold tokKR at hp
  simp only [List.mem_append, List.mem_singleton] at hp
  rcases hp with rfl | hp | rfl
  · show PySem.Str.ofString "expected (" ∈ words8; decide +kernel
  · cases x with
    | read z => exact hd _ _ _ e1 p hp
    | remove z => exact hd _ _ _ e1 p hp
    | kind z => exact hd _ _ _ e2 p hp
    | list z => exact hd _ _ _ e2 p hp
    | count z => exact hd _ _ _ e2 p hp
    | find z u =>
      rcases List.mem_append.mp hp with hp | hp
      · exact hd _ _ _ e2 p hp
      · rw [List.mem_singleton.mp hp]; exact e3
    | move z u =>
      rcases List.mem_append.mp hp with hp | hp
      · exact hd _ _ _ e1 p hp
      · rw [List.mem_singleton.mp hp]; exact e1
    | write z ls =>
      rcases List.mem_append.mp hp with hp | hp
      · exact hd _ _ _ e1 p hp
      · exact br _ p hp
    | splice z o n =>
      rcases List.mem_append.mp hp with hp | hp
      · exact hd _ _ _ e1 p hp
      rcases List.mem_append.mp hp with hp | hp
      · exact br _ p hp
      · exact br _ p hp
  · show PySem.Str.ofString "expected )" ∈ words8; decide +kernel
theorem nopar_tail (x : Action) : noPar (x.rowsK ++ [(sgK ")", PySem.Str.ofString "expected )")]) := by
  have n1 : PySem.Str.ofString "expected an action" ≠ PySem.Str.ofString "expected (" ∧ ePath ≠ PySem.Str.ofString "expected (" ∧ ePlace ≠ PySem.Str.ofString "expected (" ∧ eLine ≠ PySem.Str.ofString "expected (" ∧ PySem.Str.ofString "expected [" ≠ PySem.Str.ofString "expected (" ∧ PySem.Str.ofString "expected )" ≠ PySem.Str.ofString "expected (" ∧ PySem.Str.ofString "expected a word" ≠ PySem.Str.ofString "expected (" := by decide +kernel
  obtain ⟨n1, n2, n3, n4, n5, n6, n7⟩ := n1
  have hd : ∀ w z e, e ≠ PySem.Str.ofString "expected (" → noPar (headK w z e) := fun w z e he p hp => by
    simp only [headK, List.mem_cons, List.not_mem_nil, or_false] at hp
    rcases hp with rfl | rfl
    · exact n1
    · exact he
  have br : ∀ ls, noPar (brackK ls) := fun ls p hp => by
    unfold brackK at hp
    simp only [List.mem_append, List.mem_singleton, List.mem_map] at hp
    rcases hp with rfl | ⟨y, hy, rfl⟩ | rfl
    · exact n5
    · exact n4
    · exact n4
  intro p hp
  rcases List.mem_append.mp hp with hp | hp
  · cases x with
    | read z => exact hd _ _ _ n2 p hp
    | remove z => exact hd _ _ _ n2 p hp
    | kind z => exact hd _ _ _ n3 p hp
    | list z => exact hd _ _ _ n3 p hp
    | count z => exact hd _ _ _ n3 p hp
    | find z u =>
      rcases List.mem_append.mp hp with hp | hp
      · exact hd _ _ _ n3 p hp
      · rw [List.mem_singleton.mp hp]; exact n7
    | move z u =>
      rcases List.mem_append.mp hp with hp | hp
      · exact hd _ _ _ n2 p hp
      · rw [List.mem_singleton.mp hp]; exact n2
    | write z ls =>
      rcases List.mem_append.mp hp with hp | hp
      · exact hd _ _ _ n2 p hp
      · exact br _ p hp
    | splice z o n =>
      rcases List.mem_append.mp hp with hp | hp
      · exact hd _ _ _ n2 p hp
      rcases List.mem_append.mp hp with hp | hp
      · exact br _ p hp
      · exact br _ p hp
  · rw [List.mem_singleton.mp hp]; exact n6
def parN (l : List KRow) : Nat := (l.filter fun p => decide (p.2 = PySem.Str.ofString "expected (")).length
theorem parN_no {l : List KRow} (h : noPar l) : parN l = 0 := by
  unfold parN
  rw [List.filter_eq_nil_iff.mpr fun p hp => by rw [decide_eq_true_eq]; exact h p hp]
  rfl
theorem parN_app (a b : List KRow) : parN (a ++ b) = parN a + parN b := by unfold parN; rw [List.filter_append, List.length_append]
theorem parN_tok (x : Action) : parN (tokKR x) = 1 := by
  unfold tokKR
  rw [parN_app, parN_no (nopar_tail x)]
  rfl
theorem par_at : ∀ {acts : List Action} {k : Nat} {row : KRow}, (allK acts)[k]? = some row → row.2 = PySem.Str.ofString "expected (" → ∃ j, j ≤ acts.length ∧ (allK acts).take k = allK (acts.take j) ∧ parN ((allK acts).take k) = j
  | [], k, row, h, _ => by simp [allK] at h
  | x :: acts, k, row, h, hw => by
    have ea : allK (x :: acts) = tokKR x ++ allK acts := List.flatMap_cons
    rw [ea] at h ⊢
    by_cases hk : k < (tokKR x).length
    · rw [List.getElem?_append_left hk] at h
      cases k with
      | zero => exact ⟨0, Nat.zero_le _, rfl, rfl⟩
      | succ k =>
        rw [show (tokKR x)[k + 1]? = (x.rowsK ++ [(sgK ")", PySem.Str.ofString "expected )")])[k]? from rfl] at h
        exact absurd hw (nopar_tail x row (List.mem_of_getElem? h))
    · rw [List.getElem?_append_right (by omega)] at h
      obtain ⟨j, h1, h2, h3⟩ := par_at h hw
      refine ⟨j + 1, by rw [List.length_cons]; omega, ?_, ?_⟩
      · rw [List.take_append, List.take_of_length_le (by omega), h2]
        exact List.flatMap_cons.symm
      · rw [List.take_append, List.take_of_length_le (by omega), parN_app, parN_tok, h3]
        omega
theorem linesL_many : ∀ {ls found us : List Str} {ts : List Tok} {t : Tok} {r : List Tok}, ts.map Tok.k = ls.map lineK → found.length + ls.length = 12 → (∀ y ∈ ls, y.length ≤ 20) → t.kind = "quoted" → t.text.length ≤ 20 → linesL 0 found (ts ++ t :: r) = .error (fltAt t "too many lines")
  | [], found, us, ts, t, r, h, hf, _, hk, hl => by
    cases ts with
    | cons t2 u => cases h
    | nil =>
      have hs : isSg "]" t = false := by
        unfold isSg
        rw [decide_eq_false_iff_not]
        intro e
        injection e with e _
        rw [hk] at e
        exact absurd e (by decide +kernel)
      show linesL 0 found (t :: r) = _
      rw [linesL, if_pos (.inr hs), if_pos hk, if_neg (by omega), if_pos (by simpa using hf)]
  | y :: ls, found, us, ts, t, r, h, hf, hy, hk, hl => by
    cases ts with
    | nil => cases h
    | cons t2 u =>
      rw [List.map_cons, List.map_cons] at h
      injection h with h1 h2
      have hs := sg_line y "]" h1
      obtain ⟨h3, h4⟩ := k_inj h1
      have yl := hy y (List.mem_cons_self ..)
      rw [List.length_cons] at hf
      rw [List.cons_append, linesL, if_pos (.inr hs), if_pos h3, h4, if_neg (by omega), if_neg (by omega)]
      exact linesL_many (us := us) h2 (by rw [List.length_append, List.length_singleton]; omega) (fun z hz => hy z (List.mem_cons_of_mem _ hz)) hk hl
end K07



namespace K07
open PySem L2 Sa
local macro_rules | `(tactic| walk_at "s1") => `(tactic| first | (with_reducible apply c_dgetK))
local macro_rules | `(tactic| walk_at "s1") => `(tactic| (with_reducible apply c_raiseO))
local macro_rules | `(tactic| walk_at "s1") => `(tactic| first | (with_reducible apply c_dgetK))
local macro_rules | `(tactic| walk_at "s1") => `(tactic| (with_reducible apply c_raiseO))
local macro_rules | `(tactic| walk_at "s1") => `(tactic| first | (with_reducible apply c_un) | (with_reducible apply c_negI))
set_option pp.maxSteps 1500
theorem many_err {us : List Tok} {t : Tok} {r : List Tok} (h : us.map Tok.k = [sgK "(", wdK "write", wdK "a", sgK "["] ++ (List.replicate 12 (PySem.Str.ofString "x")).map lineK) (hk : t.kind = "quoted") (hl : t.text.length ≤ 20) : actRF (us ++ t :: r) = .error (fltAt t "too many lines") := by
  obtain ⟨u1, u2, rfl, h1, h2⟩ := map_split h
  obtain ⟨a1, v1, rfl, e1, h1⟩ := k_cons h1
  obtain ⟨a2, v2, rfl, e2, h1⟩ := k_cons h1
  obtain ⟨a3, v3, rfl, e3, h1⟩ := k_cons h1
  obtain ⟨a4, v4, rfl, e4, h1⟩ := k_cons h1
  cases v4 with
  | cons x y => cases h1
  | nil =>
  have lm := linesL_many (ls := List.replicate 12 (PySem.Str.ofString "x")) (found := []) (us := []) (ts := u2) (t := t) (r := r) h2 (by simp) (fun y hy => by rw [List.eq_of_mem_replicate hy]; decide +kernel) hk hl
  rw [act_bodyF]
  have s1 : expF "(" (a1 :: a2 :: a3 :: a4 :: (u2 ++ t :: r)) = .ok ((), a2 :: a3 :: a4 :: (u2 ++ t :: r)) := (exp_rds (s := "(") (w := PySem.Str.ofString "expected (") (by decide +kernel) fun t h => h.par rfl).ok [a1] (a2 :: a3 :: a4 :: (u2 ++ t :: r)) (by rw [List.map_cons, e1]; rfl)
  have s2 : wordF (a2 :: a3 :: a4 :: (u2 ++ t :: r)) = .ok (PySem.Str.ofString "write", a3 :: a4 :: (u2 ++ t :: r)) := (word_rds (u := "write") (by decide +kernel)).ok [a2] (a3 :: a4 :: (u2 ++ t :: r)) (by rw [List.map_cons, e2]; rfl)
  have s3 : pathF (a3 :: a4 :: (u2 ++ t :: r)) = .ok (PySem.Str.ofString "a", a4 :: (u2 ++ t :: r)) := (path_rds (p := "a") (by decide +kernel)).ok [a3] (a4 :: (u2 ++ t :: r)) (by rw [List.map_cons, e3]; rfl)
  have s4 : expF "[" (a4 :: (u2 ++ t :: r)) = .ok ((), u2 ++ t :: r) := (exp_rds (s := "[") (w := PySem.Str.ofString "expected [") (by decide +kernel) fun t h => h.bra rfl).ok [a4] (u2 ++ t :: r) (by rw [List.map_cons, e4]; rfl)
  have s5 : linesF 0 (a4 :: (u2 ++ t :: r)) = .error (fltAt t "too many lines") := by
    unfold linesF
    rw [go_app s4, lm]
  have s6 : restF "write" (a3 :: a4 :: (u2 ++ t :: r)) = .error (fltAt t "too many lines") := by rw [rest_write, go_app s3, go_err s5]
  have s7 : bodyF (a2 :: a3 :: a4 :: (u2 ++ t :: r)) = .error (fltAt t "too many lines") := by
    unfold bodyF
    rw [go_app s2, s6]
  show (expF "(" (a1 :: a2 :: a3 :: a4 :: (u2 ++ t :: r))).go _ = _
  rw [go_app s1, go_err s7]
theorem laid_ok {acts : List Action} {is : List It} {cl : Bool} (h : Lay true is cl) (hk : is.map It.k = (allK acts).map Prod.fst) (hb : ∀ x ∈ acts, x.bad = none) {b : List Nat} (hbl : Bl b) {z : Str} (hz : z.cps.toList = flatI is ++ b) : readTx z = .ok acts := by
  rw [read_cut h hbl hz]
  exact readN_end hb (by rw [toks_k, hk]) rfl (Nat.le_refl _)
theorem toks_get : ∀ (is : List It) (p : Int × Int) (k : Nat) (i : It), is[k]? = some i → toksI is p = toksI (is.take k) p ++ tokAt i.k (mvp p (flatI (is.take k) ++ i.gap)) :: toksI (is.drop (k + 1)) (mvp p (flatI (is.take (k + 1))))
  | [], _, _, _, h => by simp at h
  | j :: r, p, 0, i, h => by
    rw [List.getElem?_cons_zero] at h
    injection h with h
    subst h
    show tokAt j.k (mvp p j.gap) :: toksI r _ = [] ++ tokAt j.k _ :: toksI r _
    rw [List.take_zero, show flatI ([] : List It) = [] from rfl, List.nil_append, List.nil_append, List.take_succ_cons, List.take_zero, flat_cons, show flatI ([] : List It) = [] from rfl, List.append_nil]
  | j :: r, p, k + 1, i, h => by
    rw [List.getElem?_cons_succ] at h
    show tokAt j.k (mvp p j.gap) :: toksI r (mvp p (j.gap ++ j.s)) = (tokAt j.k (mvp p j.gap) :: toksI (r.take k) (mvp p (j.gap ++ j.s))) ++ tokAt i.k _ :: toksI (r.drop (k + 1)) _
    rw [toks_get r _ k i h, List.take_succ_cons, List.take_succ_cons, flat_cons, flat_cons, ← mvp_app, ← mvp_app]
    simp only [List.append_assoc, List.cons_append]
def manyA (m : Nat) : Action := .write "a" (List.replicate m "x")
theorem many_rows (m : Nat) : tokKR (manyA m) = [(sgK "(", PySem.Str.ofString "expected ("), (wdK "write", PySem.Str.ofString "expected an action"), (wdK "a", ePath), (sgK "[", PySem.Str.ofString "expected [")] ++ (List.replicate m (lineK "x", eLine) ++ [(sgK "]", eLine), (sgK ")", PySem.Str.ofString "expected )")]) := by
  unfold tokKR manyA
  show [_] ++ ((headK "write" "a" ePath ++ brackK (List.replicate m "x")) ++ [_]) = _
  unfold headK brackK
  rw [List.map_replicate, show placeS "a" = PySem.Str.ofString "a" from by decide +kernel]
  simp
theorem laid_many {is : List It} {cl : Bool} (h : Lay true is cl) (hk : is.map It.k = (tokKR (manyA 13)).map Prod.fst) {i : It} (hi : is[16]? = some i) : readTx (txt (flatI is)) = .error ⟨(mvp (1, 1) (flatI (is.take 16) ++ i.gap)).1, (mvp (1, 1) (flatI (is.take 16) ++ i.gap)).2, "too many lines"⟩ := by
  rw [read_cut (b := []) h (fun _ h => by cases h) (by rw [txt_cps, List.append_nil]), toks_get is (1, 1) 16 i hi]
  have ek := congrArg (List.take 16) hk
  have e2 : (toksI (is.take 16) (1, 1)).map Tok.k = [sgK "(", wdK "write", wdK "a", sgK "["] ++ (List.replicate 12 (PySem.Str.ofString "x")).map lineK := by
    rw [toks_k, List.map_take, ek, many_rows]
    rfl
  have e3 : i.k = lineK "x" := by
    have := congrArg (fun l => l[16]?) hk
    simp only [List.getElem?_map, hi] at this
    rw [many_rows] at this
    have h2 : (some i.k : Option KT) = some (lineK "x") := this
    injection h2
  have hA := many_err (t := tokAt i.k (mvp (1, 1) (flatI (is.take 16) ++ i.gap))) (r := toksI (is.drop 17) (mvp (1, 1) (flatI (is.take 17))) ++ [endT (mvp (1, 1) (txt (flatI is)).cps.toList).1 (mvp (1, 1) (txt (flatI is)).cps.toList).2]) e2 (by show i.k.1 = _; rw [e3]; rfl) (by show i.k.2.length ≤ 20; rw [e3]; decide +kernel)
  rw [List.append_assoc, List.cons_append]
  obtain ⟨t0, r0, e0, hk0⟩ : ∃ t0 r0, toksI (is.take 16) (1, 1) = t0 :: r0 ∧ t0.kind ≠ "end" := by
    obtain ⟨t0, r0, e0, h0, _⟩ := k_cons (k := sgK "(") (ks := [wdK "write", wdK "a", sgK "["] ++ (List.replicate 12 (PySem.Str.ofString "x")).map lineK) e2
    exact ⟨t0, r0, e0, by rw [(k_inj h0).1]; decide +kernel⟩
  rw [e0] at hA ⊢
  rw [List.cons_append, List.length_cons] at *
  rw [readN, if_neg hk0, hA]
  rfl
end K07



namespace K07
open PySem L2 Sa
local macro_rules | `(tactic| walk_at "s1") => `(tactic| first | (with_reducible apply c_dgetK))
local macro_rules | `(tactic| walk_at "s1") => `(tactic| (with_reducible apply c_raiseO))
local macro_rules | `(tactic| walk_at "s1") => `(tactic| first | (with_reducible apply c_dgetK))
local macro_rules | `(tactic| walk_at "s1") => `(tactic| (with_reducible apply c_raiseO))
local macro_rules | `(tactic| walk_at "s1") => `(tactic| first | (with_reducible apply c_un) | (with_reducible apply c_negI))
set_option pp.maxSteps 1500
section
variable {P : Program} {w : World} {K : PySem.W.Frag} {mg : Str → Option Value} {base : Heap}
theorem rows_d (ks : List KRow) : (ks.map fun p => rowT (rowS p)) = (ks.map rowS).map rowT := by rw [List.map_map]; rfl
def refD (l c : Int) (s : Str) : PyData := .tuple [.str "refused", .int l, .int c, .str s]
theorem shaped_ref (l c : Int) {s : Str} (h : okS s = true) : SeqAt.shaped (refD l c s) = true := by
  have h0 : okS "refused" = true := by decide +kernel
  unfold refD
  simp only [SeqAt.shaped, PyData.canLay0, PyData.canLayAll0, PyData.depth, PyData.depthAll, Bool.and_eq_true, decide_eq_true_eq]
  refine ⟨⟨h0, ?_⟩, by simp⟩
  simp
  exact h
theorem eqv_ref (l c : Int) (s : Str) : PyData.eqv (refD l c s) (refD l c s) = true := by simp [refD, PyData.eqv, PyData.eqvAll]
theorem flat_ok {is : List It} {cl c1 : Bool} : Lay c1 is cl → (∀ i ∈ is, ∀ c ∈ i.s, c < 1114112) → ∀ c ∈ flatI is, c < 1114112 := by
  intro h hs c hc
  induction h with
  | nil => cases hc
  | @cons _ _ _ i r hb _ _ _ ih =>
    rw [flat_cons] at hc
    rcases List.mem_append.mp hc with hc | hc
    · rcases List.mem_append.mp hc with hc | hc
      · rcases hb c hc with rfl | rfl <;> decide
      · exact hs i (List.mem_cons_self ..) c hc
    · exact ih (fun j hj => hs j (List.mem_cons_of_mem _ hj)) hc
theorem items_ok {is : List It} {ks : List KRow} (hk : is.map It.k = ks.map Prod.fst) (hs : ∀ i ∈ is, i.s = (txtS i.k).cps.toList) (kok : ∀ p ∈ ks, KOk p) : ∀ i ∈ is, ∀ c ∈ i.s, c < 1114112 := fun i hi c hc => by
  rw [hs i hi] at hc
  have : i.k ∈ ks.map Prod.fst := by rw [← hk]; exact List.mem_map_of_mem hi
  obtain ⟨p, hp, e⟩ := List.mem_map.mp this
  rw [← e] at hc
  exact okS_iff.mp (kok p hp).2.1 c hc
theorem rowP_inv {K : PySem.W.Frag} {H : Hp} {v : V} {n : Nat} {p : Int × Int} {i : It} (h : Dt K H v (rowP n p i)) : ∃ a, v = .ref a ∧ SqT K H a [.int (mvp p i.gap).1, .int (mvp p i.gap).2, .int ((n + i.gap.length : Nat) : Int), .int (n : Int)] := by
  obtain ⟨a, xs, e, h1, h2⟩ := dt_tup h
  obtain ⟨v1, x1, e1, g1, h2⟩ := dta_cons h2
  obtain ⟨v2, x2, e2, g2, h2⟩ := dta_cons h2
  obtain ⟨v3, x3, e3, g3, h2⟩ := dta_cons h2
  obtain ⟨v4, x4, e4, g4, h2⟩ := dta_cons h2
  have e5 := dta_nil h2
  subst e5; subst e4; subst e3; subst e2; subst e1
  rw [dt_int g1, dt_int g2, dt_int g3, dt_int g4] at h1
  exact ⟨a, e, h1⟩
def spLMany (K : PySem.W.Frag) : Sp := fun vs H Q _ => ∃ (b d : Addr), vs = [.ref b] ∧ Bx H b d ∧ ∀ H', Kp [b] H H' → Bx H' b d → Q (.bl true) H'
theorem sc__law_many : FnScope ["_law_box", "_law_many_here", "_law_rows_here", "_law_laid", "_law_place_here"] ["_law_box"] (defScope s__law_many) := ⟨rfl, rfl, rfl, by decide +kernel, rfl, by decide +kernel, by decide +kernel⟩
theorem bn__law_many : BindN "_law_many" s__law_many ["_law_box"] := fun _ _ _ _ _ _ us hl => match us, hl with | [_], _ => rfl
theorem b__law_many (T : TX K mg) : Body P w K mg base "_law_many" s__law_many ["_law_box", "_law_many_here", "_law_rows_here", "_law_laid", "_law_place_here"] 9 (spLMany K) := by
  intro cdv A outer s H vs Q E h X hr
  obtain ⟨b, d, rfl, B, q⟩ := h
  have D__law_draw := D__law_draw (P := P) (w := w) (base := base) T; have D__law_lay := D__law_lay (P := P) (w := w) (base := base) T; have D__law_tokens := D__law_tokens (P := P) (w := w) (base := base) T; have D__law_told := D__law_told (P := P) (w := w) (base := base) T
  refine ⟨_, (pss_cons (ps_set (i := 1) sc__law_many.nd rfl (Or.inl rfl) (pe_op (op_addU (K := K)) pe_int (pe_callA D__law_draw hr pass0 (pa_cons (pv 0) (pa_cons pe_int pa_nil))))) (pss_cons (ps_set (i := 2) sc__law_many.nd rfl (Or.inl rfl) (pe_callA D__law_tokens hr pass0 (pa_cons (pe_tup (pa_cons pe_str (pa_cons pe_str (pa_cons (pe_op (op_mulU (K := K)) (pe_tup (pa_cons pe_str pa_nil)) (pv 1)) pa_nil)))) pa_nil))) (pss_cons (ps_set (i := 3) sc__law_many.nd rfl (Or.inl rfl) (pe_callA D__law_lay hr pass0 (pa_cons (pv 0) (pa_cons (pv 2) pa_nil)))) (pss_cons (ps_if (pt_cmpR op_leU (pv 1) pe_int (nomark _)) (pss_one (ps_ret (pe_cmpR (op_eqU (K := K) hr.units) (pe_callA D__law_told hr pass0 (pa_cons (pe_ix (ix_U (K := K)) (pv 3) pe_int (fun _ _ => rfl)) pa_nil)) pe_int (nomark _)))) pss_nil) (pss_cons (ps_set (i := 4) sc__law_many.nd rfl (Or.inl rfl) (pe_ix (ix_U (K := K)) (pe_ix (ix_U (K := K)) (pv 3) pe_int (fun _ _ => rfl)) (pe_op (op_addU (K := K)) pe_int pe_int) (fun _ _ => rfl))) (pss_one (ps_ret (pe_cmpR (op_eqU (K := K) hr.units) (pe_callA D__law_told hr pass0 (pa_cons (pe_ix (ix_U (K := K)) (pv 3) pe_int (fun _ _ => rfl)) pa_nil)) (pe_tup (pa_cons pe_str (pa_cons (pe_ix (ix_U (K := K)) (pv 4) pe_int (fun _ _ => rfl)) (pa_cons (pe_ix (ix_U (K := K)) (pv 4) pe_int (fun _ _ => rfl)) (pa_cons pe_str pa_nil))))) (nomark _))))))))), ?_⟩
  walk_at "st"
  refine ⟨b, d, 3, rfl, B, by decide, fun n H1 h0 h1 e1 B1 => ?_⟩
  walk_at "st"
  walk_at "nw"
  intro t1 H2 N2
  walk_at "st"
  refine c_mulT (SqT.of (xs := [V.str "x"]) N2.at_) (by simp) (by omega) (by omega) (by simp) fun t3 H3 N3 => ?_
  walk_at "st"
  walk_at "nw"
  intro t4 H4 N4
  walk_at "st"
  obtain ⟨m, hm, hmn⟩ : ∃ m : Nat, 11 + n = (m : Int) ∧ (m = 11 ∨ m = 12 ∨ m = 13) := ⟨(11 + n).toNat, by omega, by omega⟩
  have et : (List.replicate (11 + n).toNat [V.str "x"]).flatten = (List.replicate m (PySem.Str.ofString "x")).map V.str := by
    rw [hm, Int.toNat_natCast, List.map_replicate]
    clear hm hmn
    induction m with
    | zero => rfl
    | succ m ih => rw [List.replicate_succ, List.replicate_succ, List.flatten_cons, ih]; rfl
  have hs3 : SqT K H4 t3 ((List.replicate m (PySem.Str.ofString "x")).map V.str) := by rw [← et]; exact SqT.kp N4.kp (SqT.of N3.at_)
  have ltx : LsTx (List.replicate m (PySem.Str.ofString "x")) := ⟨by rw [List.length_replicate]; omega, fun y hy => by rw [List.eq_of_mem_replicate hy]; exact ⟨by decide +kernel, by decide +kernel⟩⟩
  refine ⟨t4, manyA m, rfl, ⟨t3, SqT.of N4.at_, hs3⟩, ⟨⟨by decide +kernel, by decide +kernel⟩, ltx⟩, fun H5 pr ws e5 hpr hws => ?_⟩
  have k15 : Kp [b] H1 H5 := ((N2.kp.trans N3.kp).trans N4.kp).trans e5.mono
  have B5 : Bx H5 b d := (((B1.nw N2).nw N3).nw N4).kp0 e5
  have kok : ∀ p ∈ tokKR (manyA m), KOk p := kok_toks (kok_app (kok_head (by simp) (by decide +kernel)) (kok_brack fun y hy => by rw [List.eq_of_mem_replicate hy]; decide +kernel))
  have krl : (tokKR (manyA m)).length ≤ 22 := by
    rw [many_rows]
    simp only [List.length_append, List.length_cons, List.length_nil, List.length_replicate]
    omega
  walk_at "st"
  refine ⟨b, d, pr, ws, tokKR (manyA m), rfl, B5, hpr, by rw [rows_d, row_toks]; exact hws, kok, by omega, fun p pl pls is cl H6 hlay hks hss hlen k6 B6 hp' npb nplb hpl hpd => ?_⟩
  have hp : SqL K H6 p _ := SqL.of hp'
  have okt : okS (txt (flatI is)) = true := okS_iff.mpr (by rw [txt_cps]; exact flat_ok hlay (items_ok hks hss kok))
  have tl : (txt (flatI is)).length = (flatI is).length := txt_len _
  have k06 : Kp [b] H H6 := (e1.trans k15).trans k6
  walk_at "st"
  refine c_ite (fun g => ?_) (fun g => ?_)
  · walk_at "st"
    refine ⟨txt (flatI is), rfl, by omega, okt, fun v H7 e7 hv => ?_⟩
    have hb : ∀ x ∈ [manyA m], x.bad = none := fun x hx => by
      rw [List.mem_singleton.mp hx]
      rcases hmn with rfl | rfl | rfl
      · decide +kernel
      · decide +kernel
      · omega
    have er := laid_ok (acts := [manyA m]) (z := txt (flatI is)) hlay (by rw [hks]; unfold allK; rw [List.flatMap_cons, List.flatMap_nil, List.append_nil]) hb (b := []) (fun _ h => by cases h) (by rw [txt_cps, List.append_nil])
    have et : toldD (txt (flatI is)) = .int 1 := by
      unfold toldD
      rw [if_neg (by omega), er]
      rfl
    rw [et] at hv
    rw [dt_int hv]
    walk_at "st"
    rw [decide_eq_true rfl]
    exact q H7 (k06.trans e7.mono) (B6.kp0 e7)
  · have hm13 : m = 13 := by omega
    subst hm13
    have isl : is.length = (tokKR (manyA 13)).length := by have := congrArg List.length hks; simpa using this
    have l19 : (tokKR (manyA 13)).length = 19 := by rw [many_rows]; rfl
    obtain ⟨it, hit⟩ : ∃ it, is[16]? = some it := ⟨_, List.getElem?_eq_getElem (by omega)⟩
    obtain ⟨v, hv, hdv⟩ := dta_get hpd (plD_get is 0 (1, 1) 16 it hit)
    obtain ⟨pa, rfl, hpa⟩ := rowP_inv hdv
    walk_at "st"
    refine c_ixL (SqL.of hpl) (atI_nat (j := 16) hv) ?_
    walk_at "st"
    refine ⟨txt (flatI is), rfl, by omega, okt, fun v H7 e7 hv => ?_⟩
    have er := laid_many hlay hks hit
    have et : toldD (txt (flatI is)) = refD (mvp (1, 1) (flatI (is.take 16) ++ it.gap)).1 (mvp (1, 1) (flatI (is.take 16) ++ it.gap)).2 "too many lines" := by
      unfold toldD
      rw [if_neg (by omega), er]
      rfl
    rw [et] at hv
    have hpa7 := SqT.kp e7 hpa
    rw [← mvp_app] at hpa7
    walk_at "st"
    walk_at "nw"
    intro p8 H8 N8
    have okm : okS "too many lines" = true := by decide +kernel
    refine c_eqD (hv.kp N8.kp).dp (Dt.tup (SqT.of N8.at_) (.cons (.str _) (.cons (.int _) (.cons (.int _) (.cons (.str _) .nil))))).dp (shaped_ref _ _ okm) (shaped_ref _ _ okm) ?_
    have ee := eqv_ref (mvp (1, 1) (flatI (is.take 16) ++ it.gap)).1 (mvp (1, 1) (flatI (is.take 16) ++ it.gap)).2 "too many lines"
    unfold refD at ee
    unfold refD
    rw [ee]
    exact q H8 ((k06.trans e7.mono).trans N8.kp) ((B6.kp0 e7).nw N8)
theorem D__law_many (T : TX K mg) : DefAt P w K mg base CX0 "_law_many" 10 ["_law_box"] (spLMany K) :=
  def_of T 28 45 sc__law_many bn__law_many (by walk_at "len") (b__law_many T)
theorem lx_read : lx .nrm (PySem.Str.ofString "(read a)").cps.toList = some (([Action.read "a"]).flatMap toksK ++ [endK]) := by decide +kernel
theorem blanks_ok (n : Nat) : readTx (rptS (PySem.Str.ofString " ") (n : Int) ++ PySem.Str.ofString "(read a)") = .ok [Action.read "a"] ∧ (rptS (PySem.Str.ofString " ") (n : Int) ++ PySem.Str.ofString "(read a)").length = n + 8 ∧ okS (rptS (PySem.Str.ofString " ") (n : Int) ++ PySem.Str.ofString "(read a)") = true := by
  have e1 : PySem.Str.ofString " " = txt [32] := by decide +kernel
  have e2 : (rptS (PySem.Str.ofString " ") (n : Int)).cps.toList = List.replicate n 32 := by rw [e1, rptS_txt, txt_cps, Int.toNat_natCast]
  have e3 : (rptS (PySem.Str.ofString " ") (n : Int)).length = n := by
    show (rptS (PySem.Str.ofString " ") (n : Int)).cps.toList.length = n
    rw [e2, List.length_replicate]
  refine ⟨read_lx ?_ ?_, ?_, ?_⟩
  · rw [cps_app, e2, lx_bl fun x hx => .inl (List.eq_of_mem_replicate hx)]
    exact lx_read
  · intro x hx
    rw [List.mem_singleton.mp hx]
    decide +kernel
  · rw [app_len, e3, show (PySem.Str.ofString "(read a)").length = 8 from by decide +kernel]
  · refine okS_iff.mpr fun c hc => ?_
    rw [cps_app, e2] at hc
    rcases List.mem_append.mp hc with hc | hc
    · rw [List.eq_of_mem_replicate hc]; decide
    · exact okS_iff.mp (by decide +kernel : okS (PySem.Str.ofString "(read a)") = true) c hc
theorem shaped2 : SeqAt.shaped (.tuple [.str "refused", .str "text"]) = true := by decide +kernel
theorem tok_len {x : Action} (h : x.tx) : (tokKR x).length ≤ 40 := by
  have := congrArg List.length (row_toks x)
  rw [List.length_map] at this
  rw [this]
  unfold tokR
  rw [List.length_append]
  cases x with
  | write p ls =>
    have := brack_len h.2
    show (headR "write" p ePath ++ brackR ls).length + 1 ≤ _
    rw [List.length_append]
    show 3 + _ + 1 ≤ _
    omega
  | splice p o n =>
    have := brack_len h.2.1
    have := brack_len h.2.2
    show ((headR "splice" p ePath ++ brackR o) ++ brackR n).length + 1 ≤ _
    rw [List.length_append, List.length_append]
    show 3 + _ + _ + 1 ≤ _
    omega
  | _ => exact Nat.le_of_ble_eq_true rfl
theorem bl3 : ∀ z ∈ ([PySem.Str.ofString "", " ", "\n"] : List Str), Bl z.cps.toList ∧ z.length ≤ 2 ∧ okS z = true := by
  unfold Bl
  decide +kernel
theorem op3 : ∀ z ∈ ([PySem.Str.ofString "", "\n", "\n(read a)"] : List Str), (z.cps.toList = [] ∨ ∃ r, z.cps.toList = 10 :: r) ∧ z.length ≤ 10 ∧ okS z = true := by
  intro z hz
  simp only [List.mem_cons, List.not_mem_nil, or_false] at hz
  rcases hz with rfl | rfl | rfl
  · exact ⟨.inl (by decide +kernel), by decide +kernel, by decide +kernel⟩
  · exact ⟨.inr ⟨[], by decide +kernel⟩, by decide +kernel, by decide +kernel⟩
  · exact ⟨.inr ⟨(PySem.Str.ofString "(read a)").cps.toList, by decide +kernel⟩, by decide +kernel, by decide +kernel⟩
theorem cut_to (A B : List Nat) : cutS (txt (A ++ B)) none (some (A.length : Int)) = txt A := by
  rw [cutS_txt, sIx_of (by omega), Int.toNat_natCast]
  have e0 : HT.sIx (A ++ B).length 0 none = 0 := rfl
  rw [e0, Nat.sub_zero, List.drop_zero, Nat.min_eq_left (by rw [List.length_append]; omega), List.take_left]
theorem cut_from (A B : List Nat) : cutS (txt (A ++ B)) (some (A.length : Int)) none = txt B := by
  rw [cutS_txt, sIx_of (by omega), Int.toNat_natCast]
  have e0 : HT.sIx (A ++ B).length (A ++ B).length none = (A ++ B).length := rfl
  rw [e0, Nat.min_eq_left (by rw [List.length_append]; omega), List.drop_left, List.take_of_length_le (by rw [List.length_append]; omega)]
theorem flat_split {is : List It} {k : Nat} {it : It} (h : is[k]? = some it) : flatI is = flatI (is.take k) ++ (it.gap ++ (it.s ++ flatI (is.drop (k + 1)))) ∧ is = is.take k ++ it :: is.drop (k + 1) := by
  have hk : k < is.length := (List.getElem?_eq_some_iff.mp h).1
  have hd : is.drop k = it :: is.drop (k + 1) := by rw [List.drop_eq_getElem_cons hk]; congr 1; exact (List.getElem?_eq_some_iff.mp h).2
  have e : is = is.take k ++ it :: is.drop (k + 1) := by rw [← hd, List.take_append_drop]
  refine ⟨?_, e⟩
  conv => lhs; rw [e]
  rw [flat_app, flat_cons, List.append_assoc]
def dueD (acts : List Action) (k : Nat) (w : Str) (p : Int × Int) : PyData := if w = PySem.Str.ofString "expected (" then .int (parN ((allK acts).take k) : Nat) else refD p.1 p.2 w
theorem endT_bad (w : Str) (l c : Int) : Bad w (endT l c) := by
  have n : ∀ s : Str, isSg s (endT l c) = false := fun s => by
    unfold isSg
    rw [decide_eq_false_iff_not]
    intro e
    injection e with e _
    exact absurd e (by decide +kernel : PySem.Str.ofString "end" ≠ PySem.Str.ofString "sign")
  have nw : ¬ (endT l c).kind = PySem.Str.ofString "word" := (by decide +kernel : PySem.Str.ofString "end" ≠ PySem.Str.ofString "word")
  have nq : ¬ (endT l c).kind = PySem.Str.ofString "quoted" := (by decide +kernel : PySem.Str.ofString "end" ≠ PySem.Str.ofString "quoted")
  exact ⟨fun _ => n _, fun _ => n _, fun _ => n _, fun _ h => absurd h nw, fun _ h => absurd h nw, fun _ h => absurd h nw, fun _ h => absurd h nq, fun _ => ⟨n _, fun h => absurd h nq⟩⟩
section
variable {acts : List Action} {is : List It} {cl : Bool} {k : Nat} {kr : KRow} {it : It}
theorem told_cut (hb : ∀ x ∈ acts, x.bad = none) (hlay : Lay true is cl) (hks : is.map It.k = (allK acts).map Prod.fst) (hkr : (allK acts)[k]? = some kr) (hit : is[k]? = some it) {u : Str} (hu : Bl u.cps.toList) (hl : (txt (flatI (is.take k)) ++ u).length ≤ 8000) :
    toldD (txt (flatI (is.take k)) ++ u) = dueD acts k kr.2 (mvp (1, 1) (txt (flatI (is.take k)) ++ u).cps.toList) := by
  obtain ⟨_, e2⟩ := flat_split hit
  rw [e2] at hlay
  obtain ⟨c1, h1, _⟩ := lay_split hlay
  have er := read_cut (z := txt (flatI (is.take k)) ++ u) h1 hu (by rw [cps_app, txt_cps])
  have hm : (toksI (is.take k) (1, 1)).map Tok.k = ((allK acts).take k).map Prod.fst := by rw [toks_k, List.map_take, hks, List.map_take]
  unfold toldD dueD
  rw [if_neg (by omega), er]
  by_cases hw : kr.2 = PySem.Str.ofString "expected ("
  · obtain ⟨j, j1, j2, j3⟩ := par_at hkr hw
    rw [j2] at hm
    rw [if_pos hw, readN_end (fun x hx => hb x (List.mem_of_mem_take hx)) hm rfl (Nat.le_refl _), j3]
    show PyData.int _ = _
    rw [List.length_take, Nat.min_eq_left j1]
  · rw [if_neg hw, readN_bad hb hkr hm (endT_bad _ _ _) (fun h => absurd h hw) (Nat.le_refl _)]
    rfl
theorem told_wrong (hb : ∀ x ∈ acts, x.bad = none) (hlay : Lay true is cl) (hks : is.map It.k = (allK acts).map Prod.fst) (hkr : (allK acts)[k]? = some kr) (hit : is[k]? = some it) {u : Str} (hw8 : kr.2 ∈ words8) (hu : u ∈ wrongL kr.2) {z : Str}
    (hz : z.cps.toList = flatI (is.take k) ++ (it.gap ++ (u.cps.toList ++ (32 :: (it.s ++ flatI (is.drop (k + 1))))))) (hl : z.length ≤ 8000) :
    toldD z = refD (mvp (1, 1) (flatI (is.take k) ++ it.gap)).1 (mvp (1, 1) (flatI (is.take k) ++ it.gap)).2 kr.2 := by
  obtain ⟨_, e2⟩ := flat_split hit
  rw [e2] at hlay
  obtain ⟨g1, g2, g3, _, _⟩ := wrong_ok kr.2 hw8 u hu
  obtain ⟨us, eu⟩ := read_wrong (c1 := true) hlay (kOf_ok g1) hz
  have hm : (toksI (is.take k) (1, 1)).map Tok.k = ((allK acts).take k).map Prod.fst := by rw [toks_k, List.map_take, hks, List.map_take]
  have hbad : Bad kr.2 (tokAt (kOf u.cps.toList).1 (mvp (1, 1) (flatI (is.take k) ++ it.gap))) := bad_of g2
  unfold toldD
  rw [if_neg (by omega)]
  have er : readTx z = .error (fltAt (tokAt (kOf u.cps.toList).1 (mvp (1, 1) (flatI (is.take k) ++ it.gap))) kr.2) := by
    unfold readTx
    rw [eu]
    exact readN_bad hb hkr hm hbad (fun _ => g3) (Nat.le_refl _)
  rw [er]
  rfl
theorem told_open (hlay : Lay true is cl) (hit : is[k]? = some it) {u o : Str} {w : Str} (hw8 : w ∈ words8) (hu : u ∈ wrongL w) (ho : o.cps.toList = [] ∨ ∃ r, o.cps.toList = 10 :: r) {W z : Str}
    (hW : W.cps.toList = flatI (is.take k) ++ (it.gap ++ (u.cps.toList ++ [32]))) (hz : z.cps.toList = W.cps.toList ++ (34 :: ([111, 112, 101, 110] ++ o.cps.toList))) (hl : z.length ≤ 8000) :
    toldD z = refD (mvp (1, 1) W.cps.toList).1 ((mvp (1, 1) W.cps.toList).2 + 5) "text is not closed" := by
  obtain ⟨_, e2⟩ := flat_split hit
  rw [e2] at hlay
  obtain ⟨c1, h1, h2⟩ := lay_split hlay
  obtain ⟨g1, _⟩ := wrong_ok w hw8 u hu
  cases h2 with
  | cons a1 a2 a3 a4 =>
    have eo := read_open h1 a1 a2 (kOf_ok g1) ho (z := z) (by rw [hz, hW])
    unfold toldD
    rw [if_neg (by omega)]
    have er : readTx z = .error ⟨(mvp (1, 1) W.cps.toList).1, (mvp (1, 1) W.cps.toList).2 + 5, "text is not closed"⟩ := by
      unfold readTx
      rw [eo, hW]
    rw [er]
    rfl
end
end
end K07



namespace K07
open PySem L2 Sa
local macro_rules | `(tactic| walk_at "s1") => `(tactic| first | (with_reducible apply c_dgetK))
local macro_rules | `(tactic| walk_at "s1") => `(tactic| (with_reducible apply c_raiseO))
local macro_rules | `(tactic| walk_at "s1") => `(tactic| first | (with_reducible apply c_dgetK))
local macro_rules | `(tactic| walk_at "s1") => `(tactic| (with_reducible apply c_raiseO))
local macro_rules | `(tactic| walk_at "s1") => `(tactic| first | (with_reducible apply c_un) | (with_reducible apply c_negI))
set_option pp.maxSteps 1500
section
variable {P : Program} {w : World} {K : PySem.W.Frag} {mg : Str → Option Value} {base : Heap}
theorem cnt_rows (L : List KRow) (w : Str) : ((List.range L.length).filter fun i => decide ((L.map Prod.snd).getD i Str.empty = w)).length = (L.filter fun p => decide (p.2 = w)).length := by
  have e1 : L.map Prod.snd = (List.range L.length).map fun i => (L.map Prod.snd).getD i Str.empty := by
    refine List.ext_getElem (by simp) fun i h1 h2 => ?_
    simp only [List.length_map] at h1
    rw [List.getElem_map, List.getElem_map, List.getElem_range, List.getD_eq_getElem?_getD, List.getElem?_eq_getElem (by simpa using h1), List.getElem_map]
    rfl
  have e2 : ((L.map Prod.snd).filter fun s => decide (s = w)).length = (L.filter fun p => decide (p.2 = w)).length := by
    rw [List.filter_map, List.length_map]
    rfl
  rw [← e2]
  conv => rhs; rw [e1]
  rw [List.filter_map, List.length_map]
  rfl
def spLaw (K : PySem.W.Frag) : Sp := fun vs H Q _ => ∃ (a : Addr) (ns : List Int), vs = [.ref a] ∧ SqL K H a (ns.map V.int) ∧ ∀ H', Q (.bl true) H'
theorem sc_law : FnScope ["_law_script", "_law_box", "_law_turn", "_law_files_here", "_law_rows_here", "_law_k", "_law_laid", "_law_at", "_law_place_here", "_law_cut", "_law_end", "_law_due", "_law_wrong_here", "_law_start", "_law_row"] ["_law_script"] (defScope s_law) := ⟨rfl, rfl, rfl, by decide +kernel, rfl, by decide +kernel, by decide +kernel⟩
theorem bn_law : BindN "law" s_law ["_law_script"] := fun _ _ _ _ _ _ us hl => match us, hl with | [_], _ => rfl
theorem b_law (T : TX K mg) : Body P w K mg base "law" s_law ["_law_script", "_law_box", "_law_turn", "_law_files_here", "_law_rows_here", "_law_k", "_law_laid", "_law_at", "_law_place_here", "_law_cut", "_law_end", "_law_due", "_law_wrong_here", "_law_start", "_law_row"] 10 (spLaw K) := by
  intro cdv A outer s H vs Q E h X hr
  obtain ⟨a, ns, rfl, hs, q⟩ := h
  have D__law_action := D__law_action (P := P) (w := w) (base := base) T; have D__law_digits := D__law_digits (P := P) (w := w) (base := base) T; have D__law_draw := D__law_draw (P := P) (w := w) (base := base) T; have D__law_files := D__law_files (P := P) (w := w) (base := base) T; have D__law_lay := D__law_lay (P := P) (w := w) (base := base) T; have D__law_many := D__law_many (P := P) (w := w) (base := base) T; have D__law_move := D__law_move (P := P) (w := w) (base := base) T; have D__law_tokens := D__law_tokens (P := P) (w := w) (base := base) T; have D__law_told := D__law_told (P := P) (w := w) (base := base) T; have D__law_wrong := D__law_wrong (P := P) (w := w) (base := base) T
  refine ⟨_, (pss_cons (ps_set (i := 1) sc_law.nd rfl (Or.inl rfl) (pe_lst (pa_cons (pe_callA D__law_digits hr pass0 (pa_cons (pv 0) (pa_cons pe_int (pa_cons pe_int pa_nil)))) (pa_cons pe_int pa_nil)))) (Evl.pss_cut (ps_if (PW.pt (pw_or (pt_cmpR (op_neU (K := K) hr.units) (pe_gInt (T.int 15)) pe_int (nomark _)) (pw_or (pt_cmpR (op_neU (K := K) hr.units) (pe_callA D__law_told hr pass0 (pa_cons (pe_op (op_addU (K := K)) (pe_op (op_mulU (K := K)) pe_str pe_int) pe_str) pa_nil)) pe_int (nomark _)) (pw_or1 (pt_cmpR (op_neU (K := K) hr.units) (pe_callA D__law_told hr pass0 (pa_cons (pe_op (op_addU (K := K)) (pe_op (op_mulU (K := K)) pe_str pe_int) pe_str) pa_nil)) (pe_tup (pa_cons pe_str (pa_cons pe_str pa_nil))) (nomark _)))))) (pss_one (ps_ret pe_bl)) pss_nil) (pss_cons (ps_for PassesOwn.never rfl (pi_range1 rfl (T.free 19) (pa_cons pe_int pa_nil)) (pg_name (i := 2) sc_law.nd rfl (Or.inl rfl)) (pss_cons (ps_set (i := 3) sc_law.nd rfl (Or.inl rfl) (pe_callA D__law_files hr pass0 (pa_cons (pv 1) (pa_cons pe_int pa_nil)))) (pss_cons (ps_set (i := 4) sc_law.nd rfl (Or.inl rfl) (pe_lst pa_nil)) (pss_cons (ps_for PassesOwn.never rfl (pi_range1 rfl (T.free 19) (pa_cons (pe_op (op_addU (K := K)) pe_int (pe_callA D__law_draw hr pass0 (pa_cons (pv 1) (pa_cons pe_int pa_nil)))) pa_nil)) (pg_name (i := 5) sc_law.nd rfl (Or.inl rfl)) (pss_one (ps_set (i := 4) sc_law.nd rfl (Or.inl rfl) (pe_op (op_addU (K := K)) (pv 4) (pe_callA D__law_tokens hr pass0 (pa_cons (pe_callA D__law_action hr pass0 (pa_cons (pv 1) (pa_cons (pv 3) pa_nil))) pa_nil)))))) (pss_cons (ps_set (i := 6) sc_law.nd rfl (Or.inl rfl) (pe_callA D__law_lay hr pass0 (pa_cons (pv 1) (pa_cons (pv 4) pa_nil)))) (pss_cons (ps_set (i := 7) sc_law.nd rfl (Or.inl rfl) (pe_callA D__law_draw hr pass0 (pa_cons (pv 1) (pa_cons (pe_callB (cr_len (K := K)) rfl (T.free 2) PySem.boot_len (pa_cons (pv 4) pa_nil)) pa_nil)))) (pss_cons (ps_set (i := 8) sc_law.nd rfl (Or.inl rfl) (pe_ix (ix_U (K := K)) (pe_ix (ix_U (K := K)) (pv 6) pe_int (fun _ _ => rfl)) (pv 7) (fun _ _ => rfl))) (pss_cons (ps_if (PW.pt (pw_or (pt_cmpR op_gtU (pe_callB (cr_len (K := K)) rfl (T.free 2) PySem.boot_len (pa_cons (pe_ix (ix_U (K := K)) (pv 6) pe_int (fun _ _ => rfl)) pa_nil)) pe_int (nomark _)) (pw_or1 (pt_not (pt_tru (K := K) (pe_callA D__law_many hr pass0 (pa_cons (pv 1) pa_nil))))))) (pss_one (ps_ret (pe_cmpR op_gtU (pe_callB (cr_len (K := K)) rfl (T.free 2) PySem.boot_len (pa_cons (pe_ix (ix_U (K := K)) (pv 6) pe_int (fun _ _ => rfl)) pa_nil)) pe_int (nomark _)))) pss_nil) (pss_cons (ps_set (i := 9) sc_law.nd rfl (Or.inl rfl) (pe_op (op_addU (K := K)) (pe_slice (sl_U (K := K)) (pe_ix (ix_U (K := K)) (pv 6) pe_int (fun _ _ => rfl)) po_none (po_some (pe_ix (ix_U (K := K)) (pv 8) pe_int (fun _ _ => rfl)))) (pe_ix (ix_U (K := K)) (pe_lst (pa_cons pe_str (pa_cons pe_str (pa_cons pe_str pa_nil)))) (pe_callA D__law_draw hr pass0 (pa_cons (pv 1) (pa_cons pe_int pa_nil))) (fun _ _ => rfl)))) (pss_cons (ps_set (i := 10) sc_law.nd rfl (Or.inl rfl) (pe_callA D__law_move hr pass0 (pa_cons (pe_tup (pa_cons pe_int (pa_cons pe_int pa_nil))) (pa_cons (pv 9) pa_nil)))) (pss_cons (ps_set (i := 11) sc_law.nd rfl (Or.inl rfl) (pe_tup (pa_cons pe_str (pa_cons (pe_ix (ix_U (K := K)) (pv 10) pe_int (fun _ _ => rfl)) (pa_cons (pe_ix (ix_U (K := K)) (pv 10) pe_int (fun _ _ => rfl)) (pa_cons (pe_ix (ix_U (K := K)) (pe_ix (ix_U (K := K)) (pv 4) (pv 7) (fun _ _ => rfl)) pe_int (fun _ _ => rfl)) pa_nil)))))) (Evl.pss_cut (ps_if (pt_cmpR (op_eqU (K := K) hr.units) (pe_ix (ix_U (K := K)) (pe_ix (ix_U (K := K)) (pv 4) (pv 7) (fun _ _ => rfl)) pe_int (fun _ _ => rfl)) pe_str (nomark _)) (pss_one (ps_set (i := 11) sc_law.nd rfl (Or.inl rfl) (pe_callB (cr_len (K := K)) rfl (T.free 2) PySem.boot_len (pa_cons (pe_lc (own := [("_law_row", 14)]) rfl sc_law.nd (pi_listU (K := K) (pe_slice (sl_U (K := K)) (pv 4) po_none (po_some (pv 7)))) (blkOk_by (N := ["_law_script", "_law_box", "_law_turn", "_law_files_here", "_law_rows_here", "_law_k", "_law_laid", "_law_at", "_law_place_here", "_law_cut", "_law_end", "_law_due", "_law_wrong_here", "_law_start", "_law_row"]) (sc := defScope s_law) (by decide +kernel)) (fun _ _ _ _ _ => (pg_name (i := 14) sc_law.nd rfl (Or.inl rfl))) (fun _ _ _ _ _ => (pts_one (pt_cmpR (op_eqU (K := K) hr.units) (pe_ix (ix_U (K := K)) (pv 14) pe_int (fun _ _ => rfl)) pe_str (nomark _)))) (fun _ _ _ _ _ => (pv 14))) pa_nil)))) pss_nil) (pss_cons (ps_if (pt_cmpR (op_neU (K := K) hr.units) (pe_callA D__law_told hr pass0 (pa_cons (pv 9) pa_nil)) (pv 11) (nomark _)) (pss_one (ps_ret pe_bl)) pss_nil) (pss_cons (ps_set (i := 12) sc_law.nd rfl (Or.inl rfl) (pe_op (op_addU (K := K)) (pe_op (op_addU (K := K)) (pe_slice (sl_U (K := K)) (pe_ix (ix_U (K := K)) (pv 6) pe_int (fun _ _ => rfl)) po_none (po_some (pe_ix (ix_U (K := K)) (pv 8) pe_int (fun _ _ => rfl)))) (pe_callA D__law_wrong hr pass0 (pa_cons (pv 1) (pa_cons (pe_ix (ix_U (K := K)) (pv 4) (pv 7) (fun _ _ => rfl)) pa_nil)))) pe_str)) (pss_cons (ps_if (pt_cmpR (op_neU (K := K) hr.units) (pe_callA D__law_told hr pass0 (pa_cons (pe_op (op_addU (K := K)) (pv 12) (pe_slice (sl_U (K := K)) (pe_ix (ix_U (K := K)) (pv 6) pe_int (fun _ _ => rfl)) (po_some (pe_ix (ix_U (K := K)) (pv 8) pe_int (fun _ _ => rfl))) po_none)) pa_nil)) (pe_tup (pa_cons pe_str (pa_cons (pe_ix (ix_U (K := K)) (pv 8) pe_int (fun _ _ => rfl)) (pa_cons (pe_ix (ix_U (K := K)) (pv 8) pe_int (fun _ _ => rfl)) (pa_cons (pe_ix (ix_U (K := K)) (pe_ix (ix_U (K := K)) (pv 4) (pv 7) (fun _ _ => rfl)) pe_int (fun _ _ => rfl)) pa_nil))))) (nomark _)) (pss_one (ps_ret pe_bl)) pss_nil) (pss_cons (ps_set (i := 13) sc_law.nd rfl (Or.inl rfl) (pe_callA D__law_move hr pass0 (pa_cons (pe_tup (pa_cons pe_int (pa_cons pe_int pa_nil))) (pa_cons (pv 12) pa_nil)))) (pss_one (ps_if (pt_cmpR (op_neU (K := K) hr.units) (pe_callA D__law_told hr pass0 (pa_cons (pe_op (op_addU (K := K)) (pe_op (op_addU (K := K)) (pv 12) pe_str) (pe_ix (ix_U (K := K)) (pe_lst (pa_cons pe_str (pa_cons pe_str (pa_cons pe_str pa_nil)))) (pe_callA D__law_draw hr pass0 (pa_cons (pv 1) (pa_cons pe_int pa_nil))) (fun _ _ => rfl))) pa_nil)) (pe_tup (pa_cons pe_str (pa_cons (pe_ix (ix_U (K := K)) (pv 13) pe_int (fun _ _ => rfl)) (pa_cons (pe_op (op_addU (K := K)) (pe_ix (ix_U (K := K)) (pv 13) pe_int (fun _ _ => rfl)) pe_int) (pa_cons pe_str pa_nil))))) (nomark _)) (pss_one (ps_ret pe_bl)) pss_nil)))))))))))))))))) (pss_one (ps_ret (pe_and (pe_cmpR (op_eqU (K := K) hr.units) (pe_callA D__law_told hr pass0 (pa_cons pe_str pa_nil)) (pe_tup (pa_cons pe_str (pa_cons pe_int (pa_cons pe_int (pa_cons pe_str pa_nil))))) (nomark _)) (pe_one (pe_cmpR (op_eqU (K := K) hr.units) (pe_callA D__law_told hr pass0 (pa_cons pe_str pa_nil)) pe_int (nomark _))))))))), ?_⟩
  walk_at "st"
  refine ⟨a, ns, rfl, hs, fun d ds hd => ?_⟩
  walk_at "st"
  walk_at "nw"
  intro b H1 N1
  have B1 : Bx H1 b d := ⟨0, ds, N1.at_, N1.keep upd_same, by decide⟩
  walk_at "st"
  have l1 : (PySem.Str.ofString " ").length = 1 := by decide +kernel
  have l8 : (PySem.Str.ofString "(read a)").length = 8 := by decide +kernel
  have hB1 := blanks_ok 7992
  have hB2 := blanks_ok 7993
  rw [show ((7992 : Nat) : Int) = 7992 from rfl] at hB1
  rw [show ((7993 : Nat) : Int) = 7993 from rfl] at hB2
  obtain ⟨r1, r2, r3⟩ := hB1
  obtain ⟨u1, u2, u3⟩ := hB2
  have z1 : (rptS (PySem.Str.ofString " ") (7992 : Int)).length = 7992 := by rw [app_len, l8] at r2; omega
  have z2 : (rptS (PySem.Str.ofString " ") (7993 : Int)).length = 7993 := by rw [app_len, l8] at u2; omega
  refine c_cut (fun σ' H' => Bx H' b d ∧ σ' = [some (.ref a), some (.ref b), none, none, none, none, none, none, none, none, none, none, none, none, none]) ?_ ?_
  · walk_at "st"
    refine c_iteF (by decide) ?_
    walk_at "st"
    refine c_mulS (by omega) (by omega) (by rw [l1, sizeLine_eq]; decide) ?_
    walk_at "st"
    refine c_addS (by rw [l8, sizeLine_eq, z1]; decide) ?_
    walk_at "st"
    refine ⟨_, rfl, by omega, r3, fun v H2 e2 hv => ?_⟩
    have t1 : toldD (rptS (PySem.Str.ofString " ") (7992 : Int) ++ PySem.Str.ofString "(read a)") = .int 1 := by
      unfold toldD
      rw [if_neg (by omega), r1]
      rfl
    rw [t1] at hv
    rw [dt_int hv]
    walk_at "st"
    refine c_iteF (by decide) ?_
    walk_at "st"
    refine c_mulS (by omega) (by omega) (by rw [l1, sizeLine_eq]; decide) ?_
    walk_at "st"
    refine c_addS (by rw [l8, sizeLine_eq, z2]; decide) ?_
    walk_at "st"
    refine ⟨_, rfl, by omega, u3, fun v H3 e3 hv2 => ?_⟩
    have t2 : toldD (rptS (PySem.Str.ofString " ") (7993 : Int) ++ PySem.Str.ofString "(read a)") = .tuple [.str "refused", .str "text"] := by
      unfold toldD
      rw [if_pos (by omega)]
    rw [t2] at hv2
    walk_at "st"
    walk_at "nw"
    intro p4 H4 N4
    refine c_neD (hv2.kp N4.kp).dp (Dt.tup (SqT.of N4.at_) (.cons (.str _) (.cons (.str _) .nil))).dp shaped2 shaped2 ?_
    walk_at "dc"
    exact ⟨((B1.kp0 e2).kp0 e3).nw N4, rfl⟩
  rintro _ H2 ⟨B2, rfl⟩
  clear r1 r2 r3 u1 u2 u3 z1 z2 l1 l8
  walk_at "st"
  refine forR (fun i σ H' => ∃ v2 v3 v4 v5 v6 v7 v8 v9 v10 v11 v12 v13 v14, σ = [some (.ref a), some (.ref b), v2, v3, v4, v5, v6, v7, v8, v9, v10, v11, v12, v13, v14] ∧ Bx H' b d) ⟨_, _, _, _, _, _, _, _, _, _, _, _, _, rfl, B2⟩ ?_ ?_
  · rintro i σ H3 hi ⟨v2, v3, v4, v5, v6, v7, v8, v9, v10, v11, v12, v13, v14, rfl, B3⟩
    walk_at "st"
    refine ⟨b, d, 5, rfl, B3, by decide, by decide, fun f fs H4 G hfl F4 e4 B4 hfn => ?_⟩
    walk_at "st"
    walk_at "nw"
    intro l0 H5 N5
    have F5 := F4.kp N5.kp
    have B5 := B4.nw N5
    walk_at "st"
    refine ⟨b, d, 6, rfl, B5, by decide, fun n H6 n0 n1 e6 B6 => ?_⟩
    have F6 := F5.kb B5 e6
    have hl6 := e6.at1 (B4.ne_new N5.fr).1 N5.at_
    walk_at "st"
    refine forR (fun k σ H' => ∃ (l : Addr) (ws : List V) (acts : List Action) (v5 : Option V), σ = [some (.ref a), some (.ref b), some (.int (0 + (i : Int))), some (.ref f), some (.ref l), v5, v6, v7, v8, v9, v10, v11, v12, v13, v14] ∧ Bx H' b d ∧ FilesAt K H' f fs ∧ H' l = some (.lst ws) ∧
      DtAll K H' ws ((allK acts).map fun p => rowT (rowS p)) ∧ acts.length = k ∧ (∀ x ∈ acts, x.bad = none) ∧ (allK acts).length ≤ 40 * k ∧ k ≤ (allK acts).length) ⟨l0, [], [], _, rfl, B6, F6, hl6, .nil, rfl, by simp, Nat.zero_le _, Nat.zero_le _⟩ ?_ ?_
    · rintro k σ H7 hk ⟨l, ws, acts, v5, rfl, B7, F7, hl7, hd7, hal, hab, hkl, hkl2⟩
      have nlb := rows_ne B7 hl7 (rows := (allK acts).map rowS) (by rw [← rows_d]; exact hd7)
      have wl := dta_len hd7
      rw [List.length_map] at wl
      walk_at "st"
      refine ⟨b, d, f, fs, rfl, B7, F7, G, fun p x H8 hx _ e8 B8 hA => ?_⟩
      have htx := bad_tx hx
      walk_at "st"
      refine ⟨p, x, rfl, hA, htx, fun H9 pr ws' e9 hpr hd' => ?_⟩
      have k79 : Kp [b] H7 H9 := e8.trans e9.mono
      have tl := tok_len htx
      have wl' := dta_len hd'
      rw [List.length_map, ← row_toks, List.length_map] at wl'
      have tl1 : 1 ≤ (tokKR x).length := by unfold tokKR; simp
      have hl9 := k79.at1 nlb hl7
      walk_at "st"
      refine c_addL hl9 hpr (by rw [sizeLine_eq]; omega) fun p2 H10 N10 => ?_
      walk_at "st"
      refine ⟨p2, ws ++ ws', acts ++ [x], _, rfl, (B8.kp0 e9).nw N10, ((F7.kb B7 e8).kp e9).kp N10.kp, N10.at_, ?_, by rw [List.length_append, hal]; rfl, fun y hy => ?_, ?_, ?_⟩
      · have e : allK (acts ++ [x]) = allK acts ++ tokKR x := by unfold allK; rw [List.flatMap_append, List.flatMap_cons, List.flatMap_nil, List.append_nil]
        rw [e, List.map_append]
        refine dta_app (DtAll.kt N10.kp.kt (DtAll.kt (B7.kt k79) hd7)) (hd'.kp N10.kp |> fun h => ?_)
        rw [rows_d, row_toks]
        exact h
      · rcases List.mem_append.mp hy with hy | hy
        · exact hab y hy
        · rw [List.mem_singleton.mp hy]; exact hx
      · have e : allK (acts ++ [x]) = allK acts ++ tokKR x := by unfold allK; rw [List.flatMap_append, List.flatMap_cons, List.flatMap_nil, List.append_nil]
        rw [e, List.length_append]
        omega
      · have e : allK (acts ++ [x]) = allK acts ++ tokKR x := by unfold allK; rw [List.flatMap_append, List.flatMap_cons, List.flatMap_nil, List.append_nil]
        rw [e, List.length_append]
        omega
    rintro σ H7 ⟨l, ws, acts, v5, rfl, B7, F7, hl7, hd7, hal, hab, hkl, hkl2⟩
    have nlb := rows_ne B7 hl7 (rows := (allK acts).map rowS) (by rw [← rows_d]; exact hd7)
    have wl := dta_len hd7
    rw [List.length_map] at wl
    have kok : ∀ p ∈ allK acts, KOk p := fun p hp => by
      obtain ⟨x, hx, hp⟩ := List.mem_flatMap.mp hp
      exact kok_act (hab x hx) p hp
    have w8 : ∀ p ∈ allK acts, p.2 ∈ words8 := fun p hp => by
      obtain ⟨x, hx, hp⟩ := List.mem_flatMap.mp hp
      exact words_in p hp
    clear F7 F6 F5 F4 hl6 B6 B5 B4 B3 e6 e4
    walk_at "st"
    refine ⟨b, d, l, ws, allK acts, rfl, B7, hl7, hd7, kok, by omega, fun p pl pls is cl H8 hlay hks hss hlen k8 B8 hp npb nplb hpl hpd => ?_⟩
    have hl8 := k8.at1 nlb hl7
    have okf := flat_ok hlay (items_ok hks hss kok)
    walk_at "st"
    refine ⟨b, d, _, rfl, B8, by rw [wl]; omega, fun j H9 j0 j1 e9 B9 => ?_⟩
    obtain ⟨k, rfl⟩ := Int.eq_ofNat_of_zero_le j0
    have hkk : k < (allK acts).length := by rw [← wl]; omega
    have isl : is.length = (allK acts).length := by have := congrArg List.length hks; simpa using this
    obtain ⟨kr, hkr⟩ : ∃ kr, (allK acts)[k]? = some kr := ⟨_, List.getElem?_eq_getElem hkk⟩
    obtain ⟨it, hit⟩ : ∃ it, is[k]? = some it := ⟨_, List.getElem?_eq_getElem (by omega)⟩
    obtain ⟨v, hv, hdv⟩ := dta_get hpd (plD_get is 0 (1, 1) k it hit)
    obtain ⟨pa, rfl, hpa⟩ := rowP_inv hdv
    obtain ⟨v', hv', hdv'⟩ := dta_get hd7 (show ((allK acts).map fun p => rowT (rowS p))[k]? = some (rowT (rowS kr)) from by rw [List.getElem?_map, hkr]; rfl)
    obtain ⟨ra, rfl, hra⟩ := two_inv hdv'
    have hra : SqT K H7 ra [V.str (txtS kr.1), V.str kr.2] := hra
    have hp9 := e9.at1 npb hp
    have hpl9 := e9.at1 nplb hpl
    have hl9 := e9.at1 nlb hl8
    have hpa9 := SqT.kt (B8.kt e9) hpa
    have hra9 := SqT.kt ((B7.kt k8).trans (B8.kt e9)) hra
    rw [Nat.zero_add] at hpa9
    obtain ⟨fe, ise⟩ := flat_split hit
    have tl : (txt (flatI is)).length = (flatI is).length := txt_len _
    walk_at "st"
    refine c_ixL (SqL.of hpl9) (atI_nat hv) ?_
    walk_at "st"
    refine c_ite (fun g7 => ?_) (fun g7 => ?_)
    · walk_at "st"
      rw [decide_eq_true g7]
      exact q _
    rw [tl] at g7
    walk_at "st"
    refine ⟨b, d, rfl, B9, fun H10 e10 B10 => ?_⟩
    have hp10 := e10.at1 npb hp9
    have hl10 := e10.at1 nlb hl9
    have hpa10 := SqT.kt (B9.kt e10) hpa9
    have hra10 := SqT.kt (B9.kt e10) hra9
    walk_at "dc"
    have ts : (txt (flatI is)).length ≤ sizeLine := by rw [sizeLine_eq, tl]; omega
    have ftl : (flatI (is.take k)).length + it.gap.length + it.s.length + (flatI (is.drop (k + 1))).length = (flatI is).length := by
      rw [fe]
      simp only [List.length_append]
      omega
    have kt710 : Kt H7 H10 := ((B7.kt k8).trans (B8.kt e9)).trans (B9.kt e10)
    have c1 : cutS (txt (flatI is)) none (some ((flatI (is.take k)).length : Int)) = txt (flatI (is.take k)) := by
      rw [fe]; exact cut_to _ _
    have c2 : cutS (txt (flatI is)) none (some (((flatI (is.take k)).length + it.gap.length : Nat) : Int)) = txt (flatI (is.take k) ++ it.gap) := by
      rw [fe, ← List.append_assoc, ← List.length_append]; exact cut_to _ _
    have c3 : cutS (txt (flatI is)) (some (((flatI (is.take k)).length + it.gap.length : Nat) : Int)) none = txt (it.s ++ flatI (is.drop (k + 1))) := by
      rw [fe, ← List.append_assoc, ← List.length_append]; exact cut_from _ _
    refine c_slS ts ?_
    rw [c1]
    walk_at "st"
    walk_at "nw"
    intro p11 H11 N11
    walk_at "st"
    refine ⟨b, d, 3, rfl, B10.nw N11, by decide, fun j12 H12 m0 m1 e12 B12 => ?_⟩
    refine c_pickM (u := V.str) [PySem.Str.ofString "", " ", "\n"] (B10.pick N11 e12) m0 m1 fun u hu => ?_
    obtain ⟨hu1, hu2, hu3⟩ := bl3 u hu
    have k1012 : Kp [b] H10 H12 := N11.kp.trans e12
    have okt : ∀ c ∈ flatI (is.take k), c < 1114112 := fun c hc => okf c (by rw [fe]; exact List.mem_append_left _ hc)
    have zl1 : (txt (flatI (is.take k)) ++ u).length ≤ 8000 := by rw [app_len, txt_len]; omega
    have zo1 : okS (txt (flatI (is.take k)) ++ u) = true := okS_iff.mpr fun c hc => by
      rw [cps_app, txt_cps] at hc
      rcases List.mem_append.mp hc with hc | hc
      · exact okt c hc
      · exact okS_iff.mp hu3 c hc
    have td1 := told_cut hab hlay hks hkr hit hu1 zl1
    refine c_addS (by rw [sizeLine_eq, txt_len]; omega) ?_
    generalize hz1 : txt (flatI (is.take k)) ++ u = z1 at *
    walk_at "st"
    walk_at "nw"
    intro p13 H13 N13
    walk_at "st"
    refine ⟨p13, (1, 1), z1, rfl, SqT.of N13.at_, by omega, fun q1 H14 e14 hq1 => ?_⟩
    have k1014 : Kp [b] H10 H14 := (k1012.trans N13.kp).trans e14.mono
    have hp14 := k1014.at1 npb hp10
    have hl14 := k1014.at1 nlb hl10
    have hpa14 := SqT.kt (B10.kt k1014) hpa10
    have hra14 := SqT.kt (B10.kt k1014) hra10
    have B14 : Bx H14 b d := ((B12.nw N13).kp0 e14)
    clear hp10 hl10 hpa10 hra10 hp9 hl9 hpa9 hra9 hpl9 hl8 hl7 hp hpl hpa hra
    walk_at "st"
    refine c_ixL (SqL.of hl14) (atI_nat hv') ?_
    walk_at "st"
    walk_at "nw"
    intro p15 H15 N15
    have hl15 := N15.keep hl14
    have hra15 := SqT.kp N15.kp hra14
    walk_at "st"
    dsimp only
    refine c_cut (fun σ' H' => ∃ v o, Dt K H' v (dueD acts k kr.2 (mvp (1, 1) z1.cps.toList)) ∧ Kp [] H15 H' ∧ σ' = [some (.ref a), some (.ref b), some (.int (0 + (i : Int))), some (.ref f), some (.ref l), v5, some (.ref p), some (.int (k : Int)), some (.ref pa), some (.str z1), some (.ref q1), some v, v12, v13, o]) ?_ ?_
    · walk_at "st"
      refine c_ixL (SqL.of hl15) (atI_nat hv') ?_
      walk_at "st"
      refine c_ite (fun g => ?_) (fun g => ?_)
      · walk_at "st"
        refine c_slL (SqL.of hl15) fun p16 H16 N16 => ?_
        have ec : cutV ws none (some (k : Int)) = ws.take k := by
          rw [cutV_eq, cutL_to (by omega) (by omega), Int.toNat_natCast]
        have h16 := N16.at_
        rw [ec] at h16
        walk_at "st"
        have kt16 : Kt H7 H16 := ((kt710.trans (B10.kt k1014)).trans N15.kp.kt).trans N16.kp.kt
        have wtl : (ws.take k).length = k := by rw [List.length_take, Nat.min_eq_left (by omega)]
        refine lcQ_fil (itn_l (ys := ws.take k) (u := id)) (fun i => (ws.take k).getD i .non) (fun i => decide ((((allK acts).take k).map Prod.snd).getD i Str.empty = PySem.Str.ofString "expected (")) (by rw [wtl]; omega) (fun H' e => by rw [List.map_id]; exact SqL.of (e.at0 h16)) (fun i x H' H'' R S hi e y k1 k2 => ?_) (fun Dl H17 hD e17 hacc => ?_)
        · obtain ⟨rfl, y, hy, hxy⟩ := y
          have hxy : x = y := hxy
          subst hxy
          rw [wtl] at hi
          have hy2 : ws[i]? = some x := by rw [List.getElem?_take, if_pos hi] at hy; exact hy
          obtain ⟨ri, hri⟩ : ∃ ri, (allK acts)[i]? = some ri := ⟨_, List.getElem?_eq_getElem (by omega)⟩
          obtain ⟨vi, hvi, hdi⟩ := dta_get hd7 (show ((allK acts).map fun p => rowT (rowS p))[i]? = some (rowT (rowS ri)) from by rw [List.getElem?_map, hri]; rfl)
          rw [hy2] at hvi
          injection hvi with hvi
          subst hvi
          obtain ⟨ai, rfl, hai⟩ := two_inv hdi
          have hai : SqT K H7 ai [V.str (txtS ri.1), V.str ri.2] := hai
          have hai2 := SqT.kp e (SqT.kt kt16 hai)
          have eg : (((allK acts).take k).map Prod.snd).getD i Str.empty = ri.2 := by
            rw [List.getD_eq_getElem?_getD, List.getElem?_map, List.getElem?_take, if_pos hi, hri]; rfl
          have eg2 : (ws.take k).getD i .non = .ref ai := by rw [List.getD_eq_getElem?_getD, hy]; rfl
          rw [eg, eg2] at k1
          rw [eg] at k2
          walk_at "st"
          refine ⟨rfl, ?_⟩
          walk_at "st"
          refine c_ite (fun g => ?_) (fun g => ?_)
          · walk_at "st"
            exact k1 (decide_eq_true g) _ Kp.refl
          · walk_at "st"
            exact k2 (decide_eq_false g) _ Kp.refl
        · walk_at "st"
          refine ⟨_, _, ?_, N16.kp.trans e17, rfl⟩
          unfold dueD
          rw [if_pos g, List.length_map, wtl]
          have ec := cnt_rows ((allK acts).take k) (PySem.Str.ofString "expected (")
          rw [List.length_take, Nat.min_eq_left (by omega)] at ec
          rw [ec]
          exact .int _
      · walk_at "st"
        refine ⟨_, _, ?_, Kp.refl, rfl⟩
        unfold dueD
        rw [if_neg g]
        exact Dt.tup (SqT.of N15.at_) (.cons (.str _) (.cons (.int _) (.cons (.int _) (.cons (.str _) .nil))))
    rintro _ H16 ⟨vd, o14, hvd, k16, rfl⟩
    have kr8 : kr.2 ∈ words8 := w8 kr (List.mem_of_getElem? hkr)
    have kro : okS kr.2 = true := (by decide +kernel : ∀ w ∈ words8, okS w = true) kr.2 kr8
    have sdue : SeqAt.shaped (dueD acts k kr.2 (mvp (1, 1) z1.cps.toList)) = true := by
      unfold dueD
      split
      · rfl
      · exact shaped_ref _ _ kro
    have edue : PyData.eqv (dueD acts k kr.2 (mvp (1, 1) z1.cps.toList)) (dueD acts k kr.2 (mvp (1, 1) z1.cps.toList)) = true := by
      unfold dueD
      split
      · simp [PyData.eqv]
      · exact eqv_ref _ _ _
    walk_at "st"
    refine ⟨z1, rfl, by omega, zo1, fun v17 H17 e17 hv17 => ?_⟩
    rw [td1] at hv17
    walk_at "st"
    refine c_neD hv17.dp (hvd.kp e17).dp sdue sdue ?_
    rw [edue]
    have k1417 : Kp [] H14 H17 := (N15.kp.trans k16).trans e17
    have hp17 := k1417.at0 hp14
    have hl17 := k1417.at0 hl14
    have hpa17 := SqT.kp k1417 hpa14
    have hra17 := SqT.kp k1417 hra14
    have B17 := B14.kp0 k1417
    walk_at "dc"
    refine c_slS ts ?_
    rw [c2]
    walk_at "st"
    refine c_ixL (SqL.of hl17) (atI_nat hv') ?_
    walk_at "st"
    refine ⟨b, d, ra, _, _, rfl, B17, hra17, kr8, fun w hw H18 e18 B18 => ?_⟩
    obtain ⟨_, _, _, wl23, wok⟩ := wrong_ok kr.2 kr8 w hw
    have hp18 := e18.at1 npb hp17
    have hl18 := e18.at1 nlb hl17
    have hpa18 := SqT.kt (B17.kt e18) hpa17
    have hra18 := SqT.kt (B17.kt e18) hra17
    have l1 : (PySem.Str.ofString " ").length = 1 := by decide +kernel
    have gl : (txt (flatI (is.take k) ++ it.gap)).length = (flatI (is.take k)).length + it.gap.length := by rw [txt_len, List.length_append]
    refine c_addS (by rw [sizeLine_eq, gl]; omega) ?_
    walk_at "st"
    refine c_addS (by rw [sizeLine_eq, app_len, gl, l1]; omega) ?_
    have hW : (txt (flatI (is.take k) ++ it.gap) ++ w ++ PySem.Str.ofString " ").cps.toList = flatI (is.take k) ++ (it.gap ++ (w.cps.toList ++ [32])) := by
      rw [cps_app, cps_app, txt_cps, show (PySem.Str.ofString " ").cps.toList = [32] from by decide +kernel]
      simp only [List.append_assoc]
    have hWl : (txt (flatI (is.take k) ++ it.gap) ++ w ++ PySem.Str.ofString " ").length ≤ (flatI (is.take k)).length + it.gap.length + 24 := by
      rw [app_len, app_len, gl, l1]
      omega
    generalize txt (flatI (is.take k) ++ it.gap) ++ w ++ PySem.Str.ofString " " = W at *
    have okW : okS W = true := okS_iff.mpr fun c hc => by
      rw [hW] at hc
      rcases List.mem_append.mp hc with hc | hc
      · exact okt c hc
      rcases List.mem_append.mp hc with hc | hc
      · exact okf c (by rw [fe]; exact List.mem_append_right _ (List.mem_append_left _ hc))
      rcases List.mem_append.mp hc with hc | hc
      · exact okS_iff.mp wok c hc
      · rw [List.mem_singleton.mp hc]; decide
    walk_at "st"
    refine c_slS ts ?_
    rw [c3]
    walk_at "st"
    refine c_addS (by rw [sizeLine_eq, txt_len, List.length_append]; omega) ?_
    have hz2 : (W ++ txt (it.s ++ flatI (is.drop (k + 1)))).cps.toList = flatI (is.take k) ++ (it.gap ++ (w.cps.toList ++ (32 :: (it.s ++ flatI (is.drop (k + 1)))))) := by
      rw [cps_app, hW, txt_cps]
      simp only [List.append_assoc, List.cons_append, List.nil_append]
    have zl2 : (W ++ txt (it.s ++ flatI (is.drop (k + 1)))).length ≤ 8000 := by
      rw [app_len, txt_len, List.length_append]
      omega
    have zo2 : okS (W ++ txt (it.s ++ flatI (is.drop (k + 1)))) = true := okS_iff.mpr fun c hc => by
      rw [cps_app, txt_cps] at hc
      rcases List.mem_append.mp hc with hc | hc
      · exact okS_iff.mp okW c hc
      · exact okf c (by rw [fe]; exact List.mem_append_right _ (List.mem_append_right _ hc))
    have td2 := told_wrong hab hlay hks hkr hit kr8 hw hz2 zl2
    generalize W ++ txt (it.s ++ flatI (is.drop (k + 1))) = z2 at *
    walk_at "st"
    refine ⟨z2, rfl, by omega, zo2, fun v19 H19 e19 hv19 => ?_⟩
    rw [td2] at hv19
    have hp19 := e19.at0 hp18
    have hl19 := e19.at0 hl18
    have hpa19 := SqT.kp e19 hpa18
    have hra19 := SqT.kp e19 hra18
    have B19 := B18.kp0 e19
    walk_at "st"
    refine c_ixL (SqL.of hl19) (atI_nat hv') ?_
    walk_at "st"
    walk_at "nw"
    intro p20 H20 N20
    rw [← mvp_app] at N20
    refine c_neD (hv19.kp N20.kp).dp (Dt.tup (SqT.of N20.at_) (.cons (.str _) (.cons (.int _) (.cons (.int _) (.cons (.str _) .nil))))).dp (shaped_ref _ _ kro) (shaped_ref _ _ kro) ?_
    have ee := eqv_ref (mvp (1, 1) (flatI (is.take k) ++ it.gap)).1 (mvp (1, 1) (flatI (is.take k) ++ it.gap)).2 kr.2
    unfold refD at ee
    unfold refD
    rw [ee]
    walk_at "dc"
    walk_at "nw"
    intro p21 H21 N21
    walk_at "st"
    refine ⟨p21, (1, 1), W, rfl, SqT.of N21.at_, by omega, fun q2 H22 e22 hq2 => ?_⟩
    walk_at "st"
    have lo : (PySem.Str.ofString "\"open").length = 5 ∧ (PySem.Str.ofString "\"open").cps.toList = [34, 111, 112, 101, 110] ∧ okS (PySem.Str.ofString "\"open") = true := by decide +kernel
    refine c_addS (by rw [sizeLine_eq, lo.1]; omega) ?_
    have B22 : Bx H22 b d := (((B19.nw N20).nw N21).kp0 e22)
    walk_at "st"
    walk_at "nw"
    intro p23 H23 N23
    walk_at "st"
    refine ⟨b, d, 3, rfl, B22.nw N23, by decide, fun j24 H24 y0 y1 e24 B24 => ?_⟩
    refine c_pickM (u := V.str) [PySem.Str.ofString "", "\n", "\n(read a)"] (B22.pick N23 e24) y0 y1 fun o ho => ?_
    obtain ⟨ho1, ho2, ho3⟩ := op3 o ho
    refine c_addS (by rw [sizeLine_eq, app_len, lo.1]; omega) ?_
    have hz3 : (W ++ PySem.Str.ofString "\"open" ++ o).cps.toList = W.cps.toList ++ (34 :: ([111, 112, 101, 110] ++ o.cps.toList)) := by
      rw [cps_app, cps_app, lo.2.1, List.append_assoc]
      rfl
    have zl3 : (W ++ PySem.Str.ofString "\"open" ++ o).length ≤ 8000 := by
      rw [app_len, app_len, lo.1]
      omega
    have zo3 : okS (W ++ PySem.Str.ofString "\"open" ++ o) = true := okS_iff.mpr fun c hc => by
      rw [cps_app, cps_app] at hc
      rcases List.mem_append.mp hc with hc | hc
      · rcases List.mem_append.mp hc with hc | hc
        · exact okS_iff.mp okW c hc
        · exact okS_iff.mp lo.2.2 c hc
      · exact okS_iff.mp ho3 c hc
    have td3 := told_open hlay hit kr8 hw ho1 hW hz3 zl3
    generalize W ++ PySem.Str.ofString "\"open" ++ o = z3 at *
    have hq24 := SqT.kt (B22.kt (N23.kp.trans e24)) hq2
    walk_at "st"
    refine ⟨z3, rfl, by omega, zo3, fun v25 H25 e25 hv25 => ?_⟩
    rw [td3] at hv25
    have hq25 := SqT.kp e25 hq24
    walk_at "st"
    walk_at "nw"
    intro p26 H26 N26
    have okc : okS "text is not closed" = true := by decide +kernel
    refine c_neD (hv25.kp N26.kp).dp (Dt.tup (SqT.of N26.at_) (.cons (.str _) (.cons (.int _) (.cons (.int _) (.cons (.str _) .nil))))).dp (shaped_ref _ _ okc) (shaped_ref _ _ okc) ?_
    have ee := eqv_ref (mvp (1, 1) W.cps.toList).1 ((mvp (1, 1) W.cps.toList).2 + 5) "text is not closed"
    unfold refD at ee
    unfold refD
    rw [ee]
    walk_at "dc"
    exact ⟨_, _, _, _, _, _, _, _, _, _, _, _, _, rfl, (B24.kp0 e25).nw N26⟩
  · rintro σ H7 ⟨v2, v3, v4, v5, v6, v7, v8, v9, v10, v11, v12, v13, v14, rfl, B7⟩
    walk_at "st"
    have e1 : readTx (PySem.Str.ofString "(splice a [] [\"x\"])") = .error ⟨1, 12, "expected a line"⟩ := by kernel_rfl
    have e2 : readTx (PySem.Str.ofString "(splice a [\"x\"] [])") = .ok [.splice "a" ["x"] []] := by kernel_rfl
    refine ⟨_, rfl, by decide +kernel, by decide +kernel, fun v H8 e8 hv => ?_⟩
    have t1 : toldD (PySem.Str.ofString "(splice a [] [\"x\"])") = refD 1 12 "expected a line" := by
      unfold toldD
      rw [if_neg (by decide +kernel), e1]
      rfl
    rw [t1] at hv
    walk_at "st"
    walk_at "nw"
    intro p9 H9 N9
    have okl : okS "expected a line" = true := by decide +kernel
    refine c_eqD (hv.kp N9.kp).dp (Dt.tup (SqT.of N9.at_) (.cons (.str _) (.cons (.int _) (.cons (.int _) (.cons (.str _) .nil))))).dp (shaped_ref _ _ okl) (shaped_ref _ _ okl) ?_
    have ee := eqv_ref 1 12 "expected a line"
    unfold refD at ee
    unfold refD
    rw [ee]
    walk_at "dc"
    refine ⟨_, rfl, by decide +kernel, by decide +kernel, fun v H10 e10 hv => ?_⟩
    have t2 : toldD (PySem.Str.ofString "(splice a [\"x\"] [])") = .int 1 := by
      unfold toldD
      rw [if_neg (by decide +kernel), e2]
      rfl
    rw [t2] at hv
    rw [dt_int hv]
    walk_at "st"
    rw [decide_eq_true rfl]
    exact q _
end
end K07



namespace K07
open PySem L2 Sa
theorem atEnd {P : Program} {w : World} {K : PySem.W.Frag} {h : Heap} {mg : Str → Option Value} {f : Addr} (KX : K.In h) (G : h.Ns mainGlobals mg) (hf : mg "law" = some (.ref f)) (c : He.SaysD fa fn K) (cx : exs fx K = true) :
    ∃ fd : FuncData, (∀ (s : Shared) (v : Value), BindsTo s fd ⟨[v], []⟩ [("_law_script", v)]) ∧ ∀ base : Heap, K.In base → base.Ns mainGlobals mg → FnOk P w K mg base CX0 11 f fd ["_law_script"] (spLaw K) :=
  law_of KX G c hf 29 46 sc_law bn_law (fun vs H Q E z => by obtain ⟨a, ns, rfl, _⟩ := z; rfl) fun base => b_law ⟨h, KX, G, c, cx⟩
end K07
open PySem PySem.W PySem.Calls PyProof.Rows
set_option maxRecDepth 100000 in
set_option maxHeartbeats 0 in
theorem PySem.Challenge.cw_sameanswers_k07_first_fault_of_actions_holds : PySem.Challenge.rw_sameanswers_k07_first_fault_of_actions.Holds := by
  w_on; o_law
  refine HandSHeadRun.head_any (r := OpenLaw.row PySem.Challenge.rw_sameanswers_k07_first_fault_of_actions) (q := K07.qv) (H := K07.hk) (ob := K07.ob) (M := 4000) (loose := K07.loose) (d := HandSHeadRun.topDef (OpenLaw.row PySem.Challenge.rw_sameanswers_k07_first_fault_of_actions).prog 51) (kwd := []) K07.ob_eq
    (by kernel_rfl) (fun s => by kernel_rfl) K07.run (by kernel_rfl) (by kernel_rfl) (by kernel_rfl) (by rfl) (by first | assumption | decide +kernel) (by decide +kernel) ⟨rfl, rfl, rfl, rfl, rfl, by decide +kernel⟩ ?hw ?hc
  case hw => w_witness2
  case hc =>
    refine L2.walk_ofE (l := PySem.Challenge.rw_sameanswers_k07_first_fault_of_actions) (n := 63) (k := 11) (x := "_law_script") (CX := L2.CX0) rfl (by decide) (by kernel_rfl) ⟨rfl, by decide, by decide⟩ ?F (fun _ _ _ _ z => z)
    intro w mg fa h Y G hmg0
    obtain ⟨K, KX, c⟩ := Y
    have cd := c.t.d
    have cx := c.more
    have hmg : mg ("law" : PySem.Str) = some (.ref fa) := by
      have e : (HandSHeadRun.topDef (OpenLaw.row PySem.Challenge.rw_sameanswers_k07_first_fault_of_actions).prog 51).name = ("law" : PySem.Str) := by kernel_rfl
      rw [← e]
      exact hmg0
    obtain ⟨fd, hb, hF⟩ := K07.atEnd (P := (PySem.Challenge.rw_sameanswers_k07_first_fault_of_actions).prog) (w := w) KX G hmg cd cx
    exact ⟨K, fd, K07.spLaw K, KX, hb, fun H a ns hl _ hS => ⟨a, ns, rfl, hS, fun _ => rfl⟩, hF⟩
#print axioms PySem.Challenge.cw_sameanswers_k07_first_fault_of_actions_holds



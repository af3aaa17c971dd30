import PyProof.Rows.All
import Wide.All
import OpenK.AllK
import Wide.FinOn
import HandS.ForMost
import HandS.ForExc
import HandS.Evl
import HandS.TupAny
import HandS.TupMul
import HandS.TryMany
import HandS.ExcField
import HandS.ExcInit
import HandS.Zip
import HandS.DictComp
import HandS.Defaults
import HandS.More
import HandS.SetKeys
import HandS.Deep
import HandS.Codes
import HandS.HeadHook2
import HandS.HeadHook4
import HandS.HeadEnd
import HandS.Head2
import KE.KIsAll
import KE.KEqSeq
import PyProof.StrLawsChain
import PyProof.StrLawsTight
import PyProof.StrLawsAffix
import HandS.IsInst
import KE.BitLaws
import HandS.ExcIs
import HandS.Strs
import PyProof.Rows.StrMeet
import KE.GoesEnum
import KE.GoesMore
import HandS.Walk
import HandS.Style
import HandS.ExcOwn
import PyProof.P3Eq
import PySem.Challenge.RW_sameanswers_k06_actions_written_and_read
set_option Elab.async false
set_option linter.all false
set_option maxRecDepth 100000
set_option maxHeartbeats 4000000
namespace Sa
open PySem PySem.Spec PyProof.Rows L2

section
variable {X : Cx}
def orR (r r' : R2) : R2 := fun x y H Q => r x y H Q ∨ r' x y H Q
def rAddS : R2 := fun x y H Q => ∃ i j, x = .str i ∧ y = .str j ∧ i.length + j.length ≤ sizeLine ∧ Q (.str (i ++ j)) H
def rAddU (K : PySem.W.Frag) : R2 := orR (rI0 fun i j => .int (i + j)) (orR rAddS (orR rCat (rCatA K)))
theorem op_addU {K : PySem.W.Frag} (hK : X.K = K := by rfl) : OpR X (binaryOp .Add) (rAddU K) := hK ▸ op_add.or (op_add_str.or (op_cat.or op_catA))
def rptS (z : Str) (n : Int) : Str := ⟨(List.replicate n.toNat z.cps.toList).flatten.toArray⟩
theorem foldl_cps (a : Array Nat) : ∀ (m : Nat) (b : Array Nat), (List.replicate m a).foldl (fun x y => x ++ y) b = (b.toList ++ (List.replicate m a.toList).flatten).toArray
  | 0, b => by simp
  | m + 1, b => by
    rw [List.replicate_succ, List.foldl_cons, foldl_cps a m (b ++ a), List.replicate_succ, List.flatten_cons, Array.toList_append, List.append_assoc]
def rMulS : R2 := fun x y H Q => ∃ (z : Str) (n : Int), x = .str z ∧ y = .int n ∧ -(2 ^ 63) ≤ n ∧ n < 2 ^ 63 ∧ z.length * n.toNat ≤ sizeLine ∧ Q (.str (rptS z n)) H
theorem rptS_len (z : Str) (n : Int) : (rptS z n).length = z.length * n.toNat := by
  show ((List.replicate n.toNat z.cps.toList).flatten.toArray).size = z.cps.size * n.toNat
  rw [List.size_toArray, List.length_flatten, List.map_replicate, List.sum_replicate_nat, Array.length_toList, Nat.mul_comm]
theorem rptS_one {z : Str} : rptS z 1 = z := by
  show Str.mk _ = z
  cases z
  simp [rptS]
theorem op_mulS : OpR X (binaryOp .Mult) rMulS := by
  intro pins s σ H x y v u Q I rx ry h
  obtain ⟨z, n, rfl, rfl, h1, h2, hl, q⟩ := h
  obtain ⟨t, rfl⟩ := rx
  obtain ⟨t', rfl⟩ := ry
  have fin : ∀ t tk, EP X pins σ Q (.str (rptS z n) t) { s with toks := tk } := fun t tk => ⟨.str (rptS z n), H, I.tok _, ⟨_, rfl⟩, q⟩
  have e63 : (2 : Int) ^ 63 = 9223372036854775808 := by decide
  rw [e63] at h1 h2
  refine PySem.P.mul_str (by rw [e63, decide_eq_false (by omega), decide_eq_false (by omega)]; rfl) (fun hn hz hgt => ?_) (fun _ _ => decide_eq_false (by omega)) ?_
  · rw [sizeLine_eq] at hl
    have hz1 : n ≠ 1 ∧ z.length ≠ 0 := by simpa using hz
    have e : ((z.length * n.toNat : Nat) : Int) = (z.length : Int) * n := by rw [Int.natCast_mul]; congr 1; omega
    have g : (z.length : Int) ≤ 9223372036854775807 / n := (Int.le_ediv_iff_mul_le (by omega)).mpr (by omega)
    rw [e63] at hgt
    have g2 : (9223372036854775808 - 1 : Int) / n = 9223372036854775807 / n := rfl
    omega
  · by_cases hn : n < 1
    · rw [if_pos hn]
      refine ⟨by decide, ?_⟩
      have e : rptS z n = Str.empty := by
        have : n.toNat = 0 := by omega
        unfold rptS
        rw [this]
        rfl
      rw [← e]
      exact fin _ _
    · rw [if_neg hn]
      by_cases h : (n == 1 || z.length == 0) = true
      · rw [if_pos h]
        have e : rptS z n = z := by
          rcases Bool.or_eq_true _ _ |>.mp h with h | h
          · rw [eq_of_beq h, rptS_one]
          · have hl0 : z.cps = #[] := Array.size_eq_zero_iff.mp (eq_of_beq h)
            have hz : z = ⟨#[]⟩ := by cases z; simp_all
            subst hz
            simp [rptS]
        have f := fin t s.toks
        rw [e] at f
        exact f
      · rw [if_neg h]
        have e : (⟨(List.replicate n.toNat z.cps).foldl (· ++ ·) #[]⟩ : Str) = rptS z n := by
          rw [foldl_cps]
          simp [rptS]
        rw [e]
        exact ⟨by rw [rptS_len]; exact hl, fin _ _⟩
def rMulU (K : PySem.W.Frag) : R2 := orR (rI CMul fun i j => .int (i * j)) (orR rRep (orR (rRepT K) rMulS))
theorem op_mulU {K : PySem.W.Frag} (hK : X.K = K := by rfl) : OpR X (binaryOp .Mult) (rMulU K) := hK ▸ op_mul.or (op_rep.or (op_repT.or op_mulS))
def rSubU : R2 := rI0 fun i j => .int (i - j)
theorem op_subU : OpR X (binaryOp .Sub) rSubU := op_sub
def rDivU : R2 := rI CDiv fun i j => .int (i / j)
theorem op_divU : OpR X (binaryOp .FloorDiv) rDivU := op_fdiv
def rModU : R2 := rI (fun _ j => 0 < j) fun i j => .int (i % j)
theorem op_modU : OpR X (binaryOp .Mod) rModU := op_mod
def rBandU : R2 := rI0 fun i j => .int (Builtin.bitAnd i j)
def rOrdS (p : List Nat → List Nat → Bool) : R2 := fun x y H Q => ∃ i j, x = .str i ∧ y = .str j ∧ Q (.bl (p i.cps.toList j.cps.toList)) H
def rLtU : R2 := orR (rI0 fun i j => .bl (decide (i < j))) (rOrdS fun a b => decide (a < b))
def rLeU : R2 := orR (rI0 fun i j => .bl (decide (i ≤ j))) (rOrdS fun a b => !decide (b < a))
def rGtU : R2 := orR (rI0 fun i j => .bl (decide (j < i))) (rOrdS fun a b => decide (b < a))
def rGeU : R2 := orR (rI0 fun i j => .bl (decide (j ≤ i))) (rOrdS fun a b => !decide (a < b))
theorem op_ltU : OpR X (compareOp .Lt) rLtU := op_lt.or op_lt_str
theorem op_leU : OpR X (compareOp .LtE) rLeU := op_le.or op_le_str
theorem op_gtU : OpR X (compareOp .Gt) rGtU := op_gt.or op_gt_str
theorem op_geU : OpR X (compareOp .GtE) rGeU := op_ge.or op_ge_str
def rEqU (K : PySem.W.Frag) : R2 := orR rEq (rEqD K)
def rNeU (K : PySem.W.Frag) : R2 := orR rNe (rNeD K)
theorem op_eqU {K : PySem.W.Frag} {A : Around} (hu : A.units + 64 < cLine) (hA : X.A = A := by rfl) (hK : X.K = K := by rfl) : OpR X (compareOp .Eq) (rEqU K) := hK ▸ op_eq.or (op_eqD (by rw [hA]; exact hu))
theorem op_neU {K : PySem.W.Frag} {A : Around} (hu : A.units + 64 < cLine) (hA : X.A = A := by rfl) (hK : X.K = K := by rfl) : OpR X (compareOp .NotEq) (rNeU K) := hK ▸ op_ne.or (op_neD (by rw [hA]; exact hu))
def rIsU : R2 := fun x y H Q => y = .non ∧ Q (.bl (decide (x = .non))) H
def rIsNotU : R2 := fun x y H Q => y = .non ∧ Q (.bl (!decide (x = .non))) H
def rInC : R2 := fun x y H Q => ∃ (c : Nat) (z : Str), x = .str ⟨#[c]⟩ ∧ y = .str z ∧ Q (.bl (decide (c ∈ z.cps.toList))) H
def rInT : R2 := fun x y H Q => ∃ i j, x = .str i ∧ y = .str j ∧ Q (.bl (!(Builtin.Str.occurrences j i 0 j.length 1).isEmpty)) H
def rNotInC : R2 := fun x y H Q => ∃ (c : Nat) (z : Str), x = .str ⟨#[c]⟩ ∧ y = .str z ∧ Q (.bl (!decide (c ∈ z.cps.toList))) H
def rNotInT : R2 := fun x y H Q => ∃ i j, x = .str i ∧ y = .str j ∧ Q (.bl (!(!(Builtin.Str.occurrences j i 0 j.length 1).isEmpty))) H
def rInU (K : PySem.W.Frag) : R2 := orR rInC (orR rInT (rIn K false))
def rNotInU (K : PySem.W.Frag) : R2 := orR rNotInC (orR rNotInT (rIn K true))
theorem op_inU {K : PySem.W.Frag} (hK : X.K = K := by rfl) : OpR X (compareOp .In) (rInU K) := hK ▸ op_in_sign.or (op_in_str.or op_in_seq)
theorem op_notInU {K : PySem.W.Frag} (hK : X.K = K := by rfl) : OpR X (compareOp .NotIn) (rNotInU K) := hK ▸ op_notIn_sign.or (op_notin_str.or op_notIn_seq)
def rSlU (K : PySem.W.Frag) : V → Option Int → Option Int → Hp → VK → Prop := fun x lo hi H Q => rSlL K x lo hi H Q ∨ rSlS x lo hi H Q ∨ rSlA K x lo hi H Q
theorem ix_U {K : PySem.W.Frag} (hK : X.K = K := by rfl) : IxR X (rIx K) := hK ▸ ix_seq
theorem sl_U {K : PySem.W.Frag} (hK : X.K = K := by rfl) : SlR X (rSlU K) := hK ▸ L2.SlR.or sl_list (L2.SlR.or sl_str sl_tupA)
end
end Sa

namespace Sa
open PySem L2

def dOf (x : Str) (st : Stmt) : He.DefD := ⟨(x, none), x, x, defArgs st, defBody st, defScope st, [], []⟩
inductive Fx where
  | oex (x : Str)
  | xf (x : Str)
  | cst (x : Str) (d : PyData)
  | cstA (p : PySem.W.Frag → Addr) (d : PyData)
  | exi (x : Str)
  | kit (x y : Str) (b : Bool)
  | gaeq (x y : Str)
mutual
def cstB (K : PySem.W.Frag) : PyData → Value → Bool
  | .none, v => decide (v = .none)
  | .bool b, v => decide (v = .bool b)
  | .int i, v => (match v with
    | .int j _ => decide (i = j)
    | _ => false)
  | .str x, v => (match v with
    | .str y _ => decide (x = y)
    | _ => false)
  | .list _, _ => false
  | .tuple ds, v => (match v with
    | .ref a => (match K.lookup a with
      | some ⟨.type t, _, .seq its _, _⟩ => decide (t = "tuple") && (decide (its.size ≤ sizeLine) && cstAll K ds its.toList)
      | _ => false)
    | _ => false)
  | .dict _, _ => false
def cstAll (K : PySem.W.Frag) : List PyData → List Value → Bool
  | [], [] => true
  | d :: ds, v :: vs => cstB K d v && cstAll K ds vs
  | [], _ :: _ => false
  | _ :: _, [] => false
end
mutual
theorem cstB_ok {K : PySem.W.Frag} : ∀ (d : PyData) (v : Value), cstB K d v = true → ∃ x, RelV x v ∧ ∀ H, Dp K H x d
  | .none, v, h => by
    unfold cstB at h
    cases of_decide_eq_true h
    exact ⟨.non, rfl, fun H => .non⟩
  | .bool b, v, h => by
    unfold cstB at h
    cases of_decide_eq_true h
    exact ⟨.bl b, rfl, fun H => .bl b⟩
  | .int i, v, h => by
    unfold cstB at h
    split at h
    · rename_i j t
      cases of_decide_eq_true h
      exact ⟨.int i, ⟨t, rfl⟩, fun H => .int i⟩
    · cases h
  | .str x, v, h => by
    unfold cstB at h
    split at h
    · rename_i y t
      cases of_decide_eq_true h
      exact ⟨.str x, ⟨t, rfl⟩, fun H => .str x⟩
    · cases h
  | .list _, v, h => by unfold cstB at h; cases h
  | .dict _, v, h => by unfold cstB at h; cases h
  | .tuple ds, v, h => by
    unfold cstB at h
    split at h
    · rename_i a
      split at h
      · rename_i t dd its n sl hk
        simp only [Bool.and_eq_true, decide_eq_true_eq] at h
        obtain ⟨rfl, hz, ha⟩ := h
        obtain ⟨xs, r, hx⟩ := cstAll_ok ds its.toList ha
        exact ⟨.ref a, rfl, fun H => .tup (.inr ⟨_, its, n, hk, rfl, rfl, hz, r⟩) (hx H)⟩
      · cases h
    · cases h
theorem cstAll_ok {K : PySem.W.Frag} : ∀ (ds : List PyData) (vs : List Value), cstAll K ds vs = true → ∃ xs, Vals xs vs ∧ ∀ H, DpAll K H xs ds
  | [], [], _ => ⟨[], .nil, fun H => .nil⟩
  | d :: ds, v :: vs, h => by
    unfold cstAll at h
    rw [Bool.and_eq_true] at h
    obtain ⟨x, r1, h1⟩ := cstB_ok d v h.1
    obtain ⟨xs, r2, h2⟩ := cstAll_ok ds vs h.2
    exact ⟨x :: xs, .cons r1 r2, fun H => .cons (h1 H) (h2 H)⟩
  | [], _ :: _, h => by unfold cstAll at h; cases h
  | _ :: _, [], h => by unfold cstAll at h; cases h
end
theorem cst_ref {K : PySem.W.Frag} {d : PyData} {a : Addr} (h : cstB K d (.ref a) = true) (H : Hp) : Dp K H (.ref a) d := by
  obtain ⟨x, r, hx⟩ := cstB_ok d _ h
  cases x <;> first | (cases r; done) | (obtain ⟨_, r⟩ := r; cases r; done) | (injection r with r; subst r; exact hx H)
def oexB (K : PySem.W.Frag) (C : Addr) : Bool :=
  (match K.lookup C with
  | some ⟨.type t, _, .cls cd, sl⟩ => (match cd.mro, sl.toList with
    | .ref D :: bm, [_, _, _, _, some (.builtin n), _] => decide (t = "type") && (decide (D = C) && (decide (n = "ValueError.__new__") && (!cd.hasDel && (cd.hasDict && PySem.HandSPX.refsVE bm))))
    | _, _ => false)
  | _ => false) && (decide (PySem.W.findIn K (.ref C) "__setattr__" = some (some (.builtin "object.__setattr__"))) && (decide (PySem.W.subIn K (.ref C) (.type "BaseException") = some true) &&
    (decide (PySem.W.typeIn K (.ref C) = some (.type "type")) && PySem.W.keepIn K (.ref C))))
theorem oexB_ok {K : PySem.W.Frag} {C : Addr} (h : oexB K C = true) : OexC K C := by
  unfold oexB at h
  rw [Bool.and_eq_true] at h
  obtain ⟨h1, h2⟩ := h
  simp only [Bool.and_eq_true, decide_eq_true_eq] at h2
  obtain ⟨h3, h4, h5, h6⟩ := h2
  refine ⟨?_, h3, h4, h5, h6⟩
  cases q : K.lookup C with
  | none => rw [q] at h1; cases h1
  | some o =>
    rw [q] at h1
    obtain ⟨oc, dd, dt, sl⟩ := o
    cases oc <;> try (cases h1; done)
    cases dt <;> try (cases h1; done)
    rename_i t cd
    obtain ⟨nm, bs, mro, ns, qn, hd, sn, sub, ab, col, dl⟩ := cd
    obtain ⟨l⟩ := sl
    dsimp only at h1
    split at h1
    · rename_i m1 l1 D bm k0 k1 k2 k3 n k5
      simp only [Bool.and_eq_true, decide_eq_true_eq, Bool.not_eq_true'] at h1
      obtain ⟨rfl, rfl, rfl, hdel, rfl, hr⟩ := h1
      subst hdel
      exact ⟨nm, qn, ns, bs, bm, sn, sub, ab, col, dd, k0, k1, k2, k3, k5, rfl, hr⟩
    · cases h1
def exiB (K : PySem.W.Frag) (D : Addr) : Bool :=
  decide (PySem.W.findIn K (.ref D) "__getattribute__" = some (some (.builtin "BaseException.__getattribute__"))) && (decide (PySem.W.findIn K (.ref D) "__getattr__" = some none) &&
  (decide (PySem.W.subIn K (.ref D) (.type "BaseException") = some true) && (PySem.W.hasDictIn K D && (decide (PySem.W.findIn K (.ref D) "__class__" = some (some (.builtin "object.__class__"))) &&
  (decide (PySem.W.specialIn K (.builtin "object.__class__") "__get__" = some (some (.builtin "getset_descriptor.__get__"))) && (decide (PySem.W.takesIn K (.builtin "object.__class__") = some true) && decide (PySem.W.mroIn K D (.type "object") = some true)))))))
def Fx.ok (K : PySem.W.Frag) : Fx → Bool
  | .oex x => oexB K (He.ga K x)
  | .xf x => xfB K (He.ga K x)
  | .cst x d => cstB K d (.ref (He.ga K x))
  | .cstA p d => cstB K d (.ref (p K))
  | .exi x => exiB K (He.ga K x)
  | .kit x y b => decide (PySem.W.kitOne K (.ref (He.ga K x)) (.ref (He.ga K y)) = some b)
  | .gaeq x y => decide (He.ga K x = He.ga K y)
def exs (fx : List Fx) (K : PySem.W.Frag) : Bool := fx.all fun f => f.ok K
def Tx (fa : List He.Fa) (fn : List He.DefD) (fx : List Fx) (K : PySem.W.Frag) (mg : Str → Option Value) : Prop := ∃ h : Heap, K.In h ∧ h.Ns mainGlobals mg ∧ He.SaysD fa fn K ∧ exs fx K = true
section
variable {fa : List He.Fa} {fn : List He.DefD} {fx : List Fx} {K : PySem.W.Frag} {mg : Str → Option Value}
theorem Tx.free (T : Tx fa fn fx K mg) (i : Nat) {x : Str} (h : fa[i]? = some (.free x) := by rfl) : mg x = none := by
  obtain ⟨hp, X, G, c, _⟩ := T
  exact He.free_ok X G (c.fact i h)
theorem Tx.glo (T : Tx fa fn fx K mg) (i : Nat) {x : Str} (h : fa[i]? = some (.glo x) := by rfl) : mg x = some (.ref (He.ga K x)) := by
  obtain ⟨hp, X, G, c, _⟩ := T
  exact He.glo_ok X G (c.fact i h)
theorem Tx.int (T : Tx fa fn fx K mg) (i : Nat) {x : Str} {n : Int} (h : fa[i]? = some (.int x n) := by rfl) : ∃ t, mg x = some (.int n t) := by
  obtain ⟨hp, X, G, c, _⟩ := T
  exact He.int_ok X G (c.fact i h)
theorem Tx.str (T : Tx fa fn fx K mg) (i : Nat) {x z : Str} (h : fa[i]? = some (.str x z) := by rfl) : ∃ t, mg x = some (.str z t) := by
  obtain ⟨hp, X, G, c, _⟩ := T
  exact He.str_ok X G (c.fact i h)
end
theorem Tx.fact {fa : List He.Fa} {fn : List He.DefD} {fx : List Fx} {K : PySem.W.Frag} {mg : Str → Option Value} (T : Tx fa fn fx K mg) (i : Nat) {f : He.Fa} (h : fa[i]? = some f := by rfl) : f.ok K = true := by
  obtain ⟨hp, X, G, c, _⟩ := T
  exact c.fact i h
theorem Tx.fx {fa : List He.Fa} {fn : List He.DefD} {fx : List Fx} {K : PySem.W.Frag} {mg : Str → Option Value} (T : Tx fa fn fx K mg) (i : Nat) {f : Fx} (h : fx[i]? = some f := by rfl) : f.ok K = true := by
  obtain ⟨hp, X, G, c, e⟩ := T
  exact List.all_eq_true.mp e f (List.mem_of_getElem? h)
structure DefAt (P : Program) (w : World) (K : PySem.W.Frag) (mg : Str → Option Value) (base : Heap) (CX : CXT) (x : Str) (k : Nat) (ps : List Str) (sp : Sp) : Prop where
  gl : mg x = some (.ref (He.ga K x))
  kp : PySem.W.keepIn K (.ref (He.ga K x)) = true
  ok : ∃ fd, FnOk P w K mg base CX k (He.ga K x) fd ps sp ∧ Binds K fd ps []
def BindN (x : Str) (st : Stmt) (ps : List Str) : Prop := ∀ (kV doc pm : Value) (an : Option Addr) (cdv ct : Value) (us : List Value), us.length = ps.length →
  bindArgs (PySem.W.fnOf x x (defArgs st) (defBody st) (defScope st) .none kV doc pm an cdv ct) ⟨us, []⟩ = pure (ps.zip us)
section
variable {fa : List He.Fa} {fn : List He.DefD} {fx : List Fx} {P : Program} {w : World} {K : PySem.W.Frag} {mg : Str → Option Value} {base : Heap}
def Body (P : Program) (w : World) (K : PySem.W.Frag) (mg : Str → Option Value) (base : Heap) (x : Str) (st : Stmt) (N : List Str) (k : Nat) (sp : Sp) : Prop :=
  ∀ (cdv : Value) (A : Around) (outer : List Env) (s : Shared) (H : Hp) (vs : List V) (Q : VK) (E : XK), sp vs H Q E → let X : Cx := (cxOf CX0 P w K mg base N x (defScope st) (He.ga K x) cdv A outer s H E).nox
    Room k X.A → ∃ t, PSs X (defBody st) t ∧ t { nx := fun _ H' => Q .non H', rt := Q } (start N vs) H
theorem def_of (T : Tx fa fn fx K mg) (i j : Nat) {x : Str} {st : Stmt} {N ps : List Str} {k : Nat} {sp : Sp} (S : FnScope N ps (defScope st)) (B : BindN x st ps) (len : ∀ vs H Q E, sp vs H Q E → vs.length = ps.length)
    (body : Body P w K mg base x st N k sp) (hd : fn[i]? = some (dOf x st) := by rfl) (hg : fa[j]? = some (.glo x) := by rfl) : DefAt P w K mg base CX0 x (k + 1) ps sp := by
  have gl := T.glo j hg
  obtain ⟨hp, X, G, c, _⟩ := T
  obtain ⟨fd, F⟩ := c.def_ i hd
  refine ⟨gl, F.kp, fd, F.ok S len fun cdv A outer s H vs Q E hr h => ?_, F.bindsN B⟩
  obtain ⟨t, h1, h2⟩ := body cdv A outer s H vs Q E h hr
  exact ⟨t, h1.nox, h2⟩
end
theorem DefAt.up {P : Program} {w : World} {K : PySem.W.Frag} {mg : Str → Option Value} {base : Heap} {CX : CXT} {x : Str} {j k : Nat} {ps : List Str} {sp : Sp} (D : DefAt P w K mg base CX x j ps sp) (h : j ≤ k) : DefAt P w K mg base CX x k ps sp :=
  ⟨D.gl, D.kp, let ⟨fd, F, B⟩ := D.ok; ⟨fd, F.mono h, B⟩⟩
section
variable {X : Cx} {CX : CXT} {x : Str} {k j : Nat} {ps : List Str} {sp : Sp} {E : XK} {p pos : Pos} {e : Expr} {es : List Expr} {t : TA}
def tCallA (sp : Sp) (E : XK) (t : TA) : TE := fun σ H Q => t σ H fun vs H1 => sp vs H1 Q E
theorem pe_callA (D : DefAt X.prog X.w X.K X.mg X.base CX x j ps sp) (hr : Room k X.A) (hx : Passes CX X E) (ha : PA X (e :: es) t) (hjk : j ≤ k := by decide) (hg : Gl X x := by rfl)
    (hdb : (x == ("__debug__" : Str)) = false := by decide) (he : starEach (e :: es) X.env = (false, eval e X.env) :: starEach es X.env := by rfl) (hpl : (backTo pos (starEach es X.env)).any (·.1) = false := by rfl) :
    PE X (.Call (.Name x p) (e :: es) [] pos) (tCallA sp E t) := by
  obtain ⟨fd, F, B⟩ := D.ok
  have h := pe_call (F.mono hjk) hr hg D.gl D.kp B .nil hx ha hdb he hpl (p := p)
  have e : tCall sp [] E t = tCallA sp E t := by
    funext σ H Q
    unfold tCall tCallA
    simp only [List.append_nil]
  rw [← e]
  exact h
theorem pe_gInt {i : Int} (hm : ∃ t, X.mg x = some (.int i t)) (hg : Gl X x := by rfl) (hd : (x == ("__debug__" : Str)) = false := by decide) : PE X (.Name x pos) (tC (.int i)) :=
  let ⟨t, h⟩ := hm; pe_glob hg h ⟨t, rfl⟩ hd
theorem pe_gStr {z : Str} (hm : ∃ t, X.mg x = some (.str z t)) (hg : Gl X x := by rfl) (hd : (x == ("__debug__" : Str)) = false := by decide) : PE X (.Name x pos) (tC (.str z)) :=
  let ⟨t, h⟩ := hm; pe_glob hg h ⟨t, rfl⟩ hd
end

theorem pe_gCon {X : Cx} {x : Str} {pos : Pos} {a : Addr} (hm : X.mg x = some (.ref a)) (hg : Gl X x := by rfl) (hd : (x == ("__debug__" : Str)) = false := by decide) : PE X (.Name x pos) (tC (.ref a)) := pe_glob hg hm rfl hd
structure New (H : Hp) (p : Addr) (o : HO) (H' : Hp) : Prop where
  fr : H p = none
  eq : H' = upd H p o
section
variable {K : PySem.W.Frag} {σ : St} {H : Hp} {D : Ends} {Q : VK} {i j : Int} {n : Nat} {v x y : V} {te ta tb tc : TE} {t u : TS} {g : TG} {tt tA tB1 : TT} {r r' : R2} {a b p : Addr} {xs ys : List V} {s z : Str}
theorem c_seq (h : t { D with nx := u D } σ H) : tSeq t u D σ H := h
theorem c_next (h : D.nx σ H) : tNext D σ H := h
theorem c_ret (h : te σ H D.rt) : tRet te D σ H := h
theorem c_retN (h : D.rt .non H) : tRetN D σ H := h
theorem c_asg (h : te σ H fun x H1 => g x σ H1 D.nx) : tAsg te g D σ H := h
theorem c_gName {R : St → Hp → Prop} (h : R (σ.set n (some v)) H) : gName n v σ H R := h
theorem c_drop (h : te σ H fun _ H1 => D.nx σ H1) : tDrop te D σ H := h
theorem c_ifs (h : tt σ H fun b H1 => if b = true then t D σ H1 else u D σ H1) : tIfS tt t u D σ H := h
theorem c_var (e : σ[n]? = some (some v)) (q : Q v H) : tVar n σ H Q := ⟨v, e, q⟩
theorem c_c (q : Q v H) : tC v σ H Q := q
theorem c_op (h : ta σ H fun x H1 => tb σ H1 fun y H2 => r x y H2 Q) : tOp r ta tb σ H Q := h
theorem c_chain (h : ta σ H fun x H1 => tb σ H1 fun y H2 => r x y H2 fun z H3 => ∃ k, z = .bl k ∧ (if k = true then tc σ H3 fun w' H4 => r' y w' H4 Q else Q (.bl false) H3)) : tChain r r' ta tb tc σ H Q := h
theorem c_test {R : Bool → Hp → Prop} (h : te σ H fun x H1 => ∃ k, x = .bl k ∧ R k H1) : tTest te σ H R := h
theorem c_tB {R : Bool → Hp → Prop} (h : te σ H fun x H1 => ∃ k, x = .bl k ∧ R k H1) : tB te σ H R := h
theorem c_not {R : Bool → Hp → Prop} (h : tt σ H fun c H1 => R (!c) H1) : tNot tt σ H R := h
theorem c_and {R : Bool → Hp → Prop} (h : tA σ H fun c H1 => if c = true then tB1 σ H1 R else R false H1) : tAnd tA tB1 σ H R := h
theorem c_or {R : Bool → Hp → Prop} (h : tA σ H fun c H1 => if c = true then R true H1 else tB1 σ H1 R) : tOr tA tB1 σ H R := h
theorem c_andV (h : ta σ H fun x H1 => ∃ c, x = .bl c ∧ if c = true then tb σ H1 Q else Q (.bl false) H1) : tAndV ta tb σ H Q := h
theorem c_orV (h : ta σ H fun x H1 => ∃ c, x = .bl c ∧ if c = true then Q (.bl true) H1 else tb σ H1 Q) : tOrV ta tb σ H Q := h
theorem c_notV (h : ta σ H fun x H1 => ∃ c, x = .bl c ∧ Q (.bl (!c)) H1) : tNotV ta σ H Q := h
theorem c_if (h : tt σ H fun c H1 => if c = true then ta σ H1 Q else tb σ H1 Q) : tIf tt ta tb σ H Q := h
theorem c_nil {R : List V → Hp → Prop} (h : R [] H) : tNil σ H R := h
theorem c_cons {tr : TA} {R : List V → Hp → Prop} (h : te σ H fun x H1 => tr σ H1 fun xs H2 => R (x :: xs) H2) : tCons te tr σ H R := h
theorem c_call {sp : Sp} {E : XK} {tr : TA} (h : tr σ H fun vs H1 => sp vs H1 Q E) : tCallA sp E tr σ H Q := h
theorem c_cb {rr : List V → Hp → VK → Prop} {tr : TA} (h : tr σ H fun vs H1 => rr vs H1 Q) : tCB rr tr σ H Q := h
def Ret (Q : VK) (v : V) (H : Hp) : Prop := Q v H
theorem c_nw {A : Prop} {o : HO} (hl : A) (h : ∀ p H', New H p o H' → Q (.ref p) H') : A ∧ ∀ p, H p = none → Ret Q (.ref p) (upd H p o) := ⟨hl, fun p hp => h p _ ⟨hp, rfl⟩⟩
theorem c_tup {tr : TA} (h : tr σ H fun xs H1 => xs.length ≤ sizeLine ∧ ∀ p, H1 p = none → Ret Q (.ref p) (upd H1 p (.tup xs))) : tTup tr σ H Q := h
theorem c_lst {tr : TA} (h : tr σ H fun xs H1 => xs.length ≤ sizeLine ∧ ∀ p, H1 p = none → Ret Q (.ref p) (upd H1 p (.lst xs))) : tLst tr σ H Q := h
theorem c_sl {rr : V → Option Int → Option Int → Hp → VK → Prop} {tl th : TO} (h : te σ H fun x H1 => tl σ H1 fun l H2 => th σ H2 fun u H3 => rr x l u H3 Q) : tSl rr te tl th σ H Q := h
theorem c_noPart {R : Option Int → Hp → Prop} (h : R none H) : tNoPart σ H R := h
theorem c_part {R : Option Int → Hp → Prop} (h : te σ H fun x H1 => ∃ i, x = .int i ∧ R (some i) H1) : tPart te σ H R := h
theorem c_bm {T : String} {rr : V → List V → Hp → VK → Prop} {tr : TA} (h : te σ H fun x H1 => tyV K T x H1 ∧ tr σ H1 fun xs H2 => rr x xs H2 Q) : tBM K T rr te tr σ H Q := h
theorem c_bm0 {T : String} {rr : V → List V → Hp → VK → Prop} (h : te σ H fun x H1 => tyV K T x H1 ∧ rr x [] H1 Q) : tBM0 K T rr te σ H Q := h
theorem c_bl {b : Bool} {R : Bool → Prop} (h : R b) : ∃ k, V.bl b = V.bl k ∧ R k := ⟨b, rfl, h⟩
theorem c_int {R : Int → Prop} (h : R i) : ∃ k, V.int i = V.int k ∧ R k := ⟨i, rfl, h⟩
theorem c_addI (q : Q (.int (i + j)) H) : rAddU K (.int i) (.int j) H Q := .inl ⟨i, j, rfl, rfl, q⟩
theorem c_addS (hl : s.length + z.length ≤ sizeLine) (q : Q (.str (s ++ z)) H) : rAddU K (.str s) (.str z) H Q := .inr (.inl ⟨s, z, rfl, rfl, hl, q⟩)
theorem c_addL (ha : H a = some (.lst xs)) (hb : H b = some (.lst ys)) (hl : xs.length + ys.length ≤ sizeLine) (q : ∀ p H', New H p (.lst (xs ++ ys)) H' → Q (.ref p) H') : rAddU K (.ref a) (.ref b) H Q :=
  .inr (.inr (.inl ⟨a, b, xs, ys, rfl, rfl, ha, hb, hl, fun p hp => q p _ ⟨hp, rfl⟩⟩))
theorem c_subI (q : Q (.int (i - j)) H) : rSubU (.int i) (.int j) H Q := ⟨i, j, rfl, rfl, q⟩
theorem c_mulI (hc : (-(2 ^ 64) < i ∧ i < 2 ^ 64) ∨ (-(2 ^ 64) < j ∧ j < 2 ^ 64)) (q : Q (.int (i * j)) H) : rMulU K (.int i) (.int j) H Q := .inl ⟨i, j, rfl, rfl, hc, q⟩
theorem c_divI (hc : 0 < j ∧ j < 1073741824) (q : Q (.int (i / j)) H) : rDivU (.int i) (.int j) H Q := ⟨i, j, rfl, rfl, hc, q⟩
theorem c_modI (hc : 0 < j) (q : Q (.int (i % j)) H) : rModU (.int i) (.int j) H Q := ⟨i, j, rfl, rfl, hc, q⟩
theorem c_bandI (q : Q (.int (Builtin.bitAnd i j)) H) : rBandU (.int i) (.int j) H Q := ⟨i, j, rfl, rfl, q⟩
theorem c_ltI (q : Q (.bl (decide (i < j))) H) : rLtU (.int i) (.int j) H Q := .inl ⟨i, j, rfl, rfl, q⟩
theorem c_leI (q : Q (.bl (decide (i ≤ j))) H) : rLeU (.int i) (.int j) H Q := .inl ⟨i, j, rfl, rfl, q⟩
theorem c_gtI (q : Q (.bl (decide (j < i))) H) : rGtU (.int i) (.int j) H Q := .inl ⟨i, j, rfl, rfl, q⟩
theorem c_geI (q : Q (.bl (decide (j ≤ i))) H) : rGeU (.int i) (.int j) H Q := .inl ⟨i, j, rfl, rfl, q⟩
theorem dI : decide (V.int i = V.int j) = decide (i = j) := by rw [dec_int]; exact Bool.beq_eq_decide_eq _ _
theorem dS : decide (V.str s = V.str z) = decide (s = z) := by rw [dec_str]; exact Bool.beq_eq_decide_eq _ _
theorem c_eqI (q : Q (.bl (decide (i = j))) H) : rEqU K (.int i) (.int j) H Q := .inl ⟨rfl, by rw [dI]; exact q⟩
theorem c_neI (q : Q (.bl (!decide (i = j))) H) : rNeU K (.int i) (.int j) H Q := .inl ⟨rfl, by rw [dI]; exact q⟩
theorem c_eqS (q : Q (.bl (decide (s = z))) H) : rEqU K (.str s) (.str z) H Q := .inl ⟨rfl, by rw [dS]; exact q⟩
theorem c_neS (q : Q (.bl (!decide (s = z))) H) : rNeU K (.str s) (.str z) H Q := .inl ⟨rfl, by rw [dS]; exact q⟩
theorem c_eqB {b c : Bool} (q : Q (.bl (b == c)) H) : rEqU K (.bl b) (.bl c) H Q := .inl ⟨rfl, by rw [dec_bl]; exact q⟩
theorem c_neB {b c : Bool} (q : Q (.bl (b != c)) H) : rNeU K (.bl b) (.bl c) H Q := .inl ⟨rfl, by rw [dec_bl]; exact q⟩
theorem c_eqD {d e : PyData} (hx : Dp K H x d) (hy : Dp K H y e) (sd : SeqAt.shaped d = true) (se : SeqAt.shaped e = true) (q : Q (.bl (PyData.eqv d e)) H) : rEqU K x y H Q := .inr ⟨d, e, hx, hy, sd, se, q⟩
theorem c_neD {d e : PyData} (hx : Dp K H x d) (hy : Dp K H y e) (sd : SeqAt.shaped d = true) (se : SeqAt.shaped e = true) (q : Q (.bl (!PyData.eqv d e)) H) : rNeU K x y H Q := .inr ⟨d, e, hx, hy, sd, se, q⟩
theorem c_isN (q : Q (.bl (decide (x = .non))) H) : rIsU x .non H Q := ⟨rfl, q⟩
theorem c_notN (q : Q (.bl (!decide (x = .non))) H) : rIsNotU x .non H Q := ⟨rfl, q⟩
theorem c_inC {c : Nat} (q : Q (.bl (decide (c ∈ z.cps.toList))) H) : rInU K (.str ⟨#[c]⟩) (.str z) H Q := .inl ⟨c, z, rfl, rfl, q⟩
theorem c_notInC {c : Nat} (q : Q (.bl (!decide (c ∈ z.cps.toList))) H) : rNotInU K (.str ⟨#[c]⟩) (.str z) H Q := .inl ⟨c, z, rfl, rfl, q⟩
theorem c_ixL (h : SqL K H a xs) (e : atI xs i = some v) (q : Q v H) : rIx K (.ref a) (.int i) H Q := .inl ⟨a, xs, i, v, rfl, rfl, h, e, q⟩
theorem c_ixT (h : SqT K H a xs) (e : atI xs i = some v) (q : Q v H) : rIx K (.ref a) (.int i) H Q := .inr (.inl ⟨a, xs, i, v, rfl, rfl, h, e, q⟩)
theorem c_ixS {c : Nat} (h : z.length ≤ sizeLine) (e : atI z.cps.toList i = some c) (q : Q (.str ⟨#[c]⟩) H) : rIx K (.str z) (.int i) H Q := .inr (.inr ⟨z, i, c, rfl, rfl, h, e, q⟩)
theorem c_slL {lo hi : Option Int} (h : SqL K H a xs) (q : ∀ p H', New H p (.lst (cutV xs lo hi)) H' → Q (.ref p) H') : rSlU K (.ref a) lo hi H Q := .inl ⟨a, xs, rfl, h, fun p hp => q p _ ⟨hp, rfl⟩⟩
theorem c_slS {lo hi : Option Int} (h : z.length ≤ sizeLine) (q : Q (.str (cutS z lo hi)) H) : rSlU K (.str z) lo hi H Q := .inr (.inl ⟨z, rfl, h, q⟩)
theorem c_append {l : Addr} (h : H l = some (.lst xs)) (hl : xs.length < sizeLine) (q : Q .non (upd H l (.lst (xs ++ [y])))) : rAppend (.ref l) [y] H Q := ⟨l, xs, y, rfl, rfl, h, hl, q⟩
theorem c_tyL (h : SqL K H a xs) : tyV K "list" (.ref a) H := Or.inl ⟨rfl, _, h⟩
theorem c_tyA {B : Prop} (h : SqL K H a xs) (q : B) : tyV K "list" (.ref a) H ∧ B := ⟨c_tyL h, q⟩
theorem c_setL {l : Addr} {k : Nat} {R : Hp → Prop} (h : H l = some (.lst xs)) (e : ixN xs.length i = some k) (q : R (upd H l (.lst (xs.set k v)))) : rSetL (.ref l) (.int i) v H R := ⟨l, xs, i, k, rfl, rfl, h, e, q⟩
theorem c_gSub {to ti : TE} {ts : TSet} {R : St → Hp → Prop} (h : to σ H fun o H1 => ti σ H1 fun i H2 => ts o i v H2 fun H3 => R σ H3) : gSub to ti ts v σ H R := h
theorem c_truB {b : Bool} {R : Bool → Prop} (q : R b) : ∃ k, TruV K (.bl b) H k ∧ R k := ⟨b, rfl, q⟩
theorem c_ite {c : Prop} [Decidable c] {A B : Prop} (h1 : c → A) (h2 : ¬ c → B) : if decide c = true then A else B := by
  by_cases h : c
  · rw [decide_eq_true h, if_pos rfl]; exact h1 h
  · rw [decide_eq_false h, if_neg Bool.false_ne_true]; exact h2 h
theorem c_iteN {c : Prop} [Decidable c] {A B : Prop} (h1 : ¬ c → A) (h2 : c → B) : if (!decide c) = true then A else B := by
  by_cases h : c
  · rw [decide_eq_true h, Bool.not_true, if_neg Bool.false_ne_true]; exact h2 h
  · rw [decide_eq_false h, Bool.not_false, if_pos rfl]; exact h1 h
theorem c_iteT {b : Bool} {A B : Prop} (hb : b = true) (h : A) : if b = true then A else B := by rw [if_pos hb]; exact h
theorem c_iteF {b : Bool} {A B : Prop} (hb : b = false) (h : B) : if b = true then A else B := by rw [hb, if_neg Bool.false_ne_true]; exact h
theorem c_it1 {A B : Prop} (h : A) : if true = true then A else B := c_iteT rfl h
theorem c_it2 {A B : Prop} (h : B) : if false = true then A else B := c_iteF rfl h
theorem c_it3 {A B : Prop} (h : A) : if (!false) = true then A else B := c_iteT rfl h
theorem c_it4 {A B : Prop} (h : B) : if (!true) = true then A else B := c_iteF rfl h
theorem c_iteB {b : Bool} {A B : Prop} (h1 : b = true → A) (h2 : b = false → B) : if b = true then A else B := by
  cases b with
  | true => exact c_iteT rfl (h1 rfl)
  | false => exact c_iteF rfl (h2 rfl)
theorem c_iteNB {b : Bool} {A B : Prop} (h1 : b = false → A) (h2 : b = true → B) : if (!b) = true then A else B := by
  cases b with
  | true => exact c_iteF rfl (h2 rfl)
  | false => exact c_iteT rfl (h1 rfl)
end
end Sa

namespace Sa
open PySem L2

section
variable {X : Cx} {K : PySem.W.Frag} {H : Hp} {Q : VK} {i j : Int} {a : Addr} {xs : List V} {s z : Str}
def rLenU (K : PySem.W.Frag) : List V → Hp → VK → Prop := fun xs H Q => ∃ x n, xs = [x] ∧ LenV K x H n ∧ Q (.int n) H
theorem cr_len {K : PySem.W.Frag} (hK : X.K = K := by rfl) : CallR X (.builtin "len") (rLenU K) := hK ▸ call_len
theorem c_lenL (h : SqL K H a xs) (q : Q (.int xs.length) H) : rLenU K [.ref a] H Q := ⟨_, _, rfl, .inl ⟨xs, h, rfl⟩, q⟩
theorem c_lenT (h : SqT K H a xs) (q : Q (.int xs.length) H) : rLenU K [.ref a] H Q := ⟨_, _, rfl, .inr ⟨xs, h, rfl⟩, q⟩
theorem c_lenS (h : s.length ≤ sizeLine) (q : Q (.int s.length) H) : rLenU K [.str s] H Q := ⟨_, _, rfl, ⟨h, rfl⟩, q⟩
def rIntU : List V → Hp → VK → Prop := fun xs H Q => (∃ i, xs = [.int i] ∧ Q (.int i) H) ∨ ∃ k, xs = [.bl k] ∧ Q (.int (if k then 1 else 0)) H
theorem cr_int : CallR X (.type "int") rIntU := call_int1
theorem c_intI (q : Q (.int i) H) : rIntU [.int i] H Q := .inl ⟨i, rfl, q⟩
def rOrdU : List V → Hp → VK → Prop := fun xs H Q => ∃ x, xs = [.str x] ∧ x.length = 1 ∧ Q (.int (x.cps.getD 0 0 : Nat)) H
theorem c_ord {c : Nat} (q : Q (.int c) H) : rOrdU [.str ⟨#[c]⟩] H Q := ⟨_, rfl, rfl, q⟩
def rMax2U : List V → Hp → VK → Prop := fun xs H Q => ∃ i j, xs = [.int i, .int j] ∧ Q (.int (if j > i then j else i)) H
def rMin2U : List V → Hp → VK → Prop := fun xs H Q => ∃ i j, xs = [.int i, .int j] ∧ Q (.int (if j < i then j else i)) H
theorem c_max2 (q : Q (.int (max i j)) H) : rMax2U [.int i, .int j] H Q := ⟨i, j, rfl, by
  have e : (if j > i then j else i) = max i j := by split <;> omega
  rw [e]; exact q⟩
theorem c_min2 (q : Q (.int (min i j)) H) : rMin2U [.int i, .int j] H Q := ⟨i, j, rfl, by
  have e : (if j < i then j else i) = min i j := by split <;> omega
  rw [e]; exact q⟩
def rTupU (K : PySem.W.Frag) : List V → Hp → VK → Prop := fun xs H Q => ∃ p ys, xs = [.ref p] ∧ ((SqL K H p ys ∧ ∀ l, H l = none → Q (.ref l) (upd H l (.tup ys))) ∨ (SqT K H p ys ∧ Q (.ref p) H))
theorem cr_tuple {K : PySem.W.Frag} (hK : X.K = K := by rfl) : CallR X (.type "tuple") (rTupU K) := hK ▸ call_tuple_of
theorem c_tupleL (h : SqL K H a xs) (q : ∀ l H', New H l (.tup xs) H' → Q (.ref l) H') : rTupU K [.ref a] H Q := ⟨a, xs, rfl, .inl ⟨h, fun p hp => q p _ ⟨hp, rfl⟩⟩⟩
def rAllU (K : PySem.W.Frag) : List V → Hp → VK → Prop := rAll K
theorem cr_allU {K : PySem.W.Frag} (hc : X.calm = true) (hK : X.K = K := by rfl) : CallR X (.builtin "all") (rAllU K) := hK ▸ cr_all hc
theorem c_allB {bs : List Bool} (h : SqL K H a (bs.map V.bl)) (q : Q (.bl (bs.all id)) H) : rAllU K [.ref a] H Q := ⟨a, bs, rfl, h, q⟩
end
section
variable {X : Cx} {K : PySem.W.Frag} {σ : St} {H : Hp} {Q : VK} {a : Addr} {s z : Str} {ys : List Str} {to te : TE} {o e : Expr}
theorem c_m1 {r : V → List V → Hp → VK → Prop} (h : to σ H fun x H1 => (∃ a, x = .str a) ∧ te σ H1 fun y H2 => r x [y] H2 Q) : tM1 r to te σ H Q := h
theorem c_isStr {A : Prop} (h : A) : (∃ b, V.str s = V.str b) ∧ A := ⟨⟨s, rfl⟩, h⟩
def rJoin (K : PySem.W.Frag) : V → List V → Hp → VK → Prop := fun x xs H Q => ∃ a p, ∃ ys : List Str, x = .str a ∧ xs = [.ref p] ∧ (SqL K H p (ys.map V.str) ∨ SqT K H p (ys.map V.str)) ∧
  (ys.map (·.length)).sum + ys.length * a.length ≤ 16777216 ∧ Q (.str (Txt.join a ys)) H
theorem pe_joinU {K : PySem.W.Frag} {apos pos : Pos} (ho : PE X o to) (he : PE X e te) (hK : X.K = K := by rfl) (hs : starEach [e] X.env = [(false, eval e X.env)] := by rfl) (hbase : attributeBase o "join" X.env (eval o X.env) = eval o X.env := by rfl) (hline : (apos.endLine == pos.line) = true := by rfl) :
    PE X (.Call (.Attribute o "join" apos) [e] [] pos) (tM1 (rJoin K) to te) := hK ▸ pe_join ho he hs hbase hline
theorem c_join (h : SqL K H a (ys.map V.str)) (hl : (ys.map (·.length)).sum + ys.length * s.length ≤ 16777216) (q : Q (.str (Txt.join s ys)) H) : rJoin K (.str s) [.ref a] H Q := ⟨s, a, ys, rfl, rfl, .inl h, hl, q⟩
end

section
variable {X : Cx} {K : PySem.W.Frag} {e o : Expr} {es : List Expr} {te to ta : TE} {tr : TA} {tg : Expr} {x : Str}
theorem pt_tru {a : Expr} (ha : PE X a ta) (hK : X.K = K := by rfl) (he : ∀ whole, isTrue a X.env whole = (do let v ← whole; standAt a.pos; holding [v] (truthy v)) := by intro _; rfl) :
    PT X a (fun σ H Q => ta σ H fun x H' => ∃ k, TruV K x H' k ∧ Q k H') := hK ▸ pt_truth ha he
theorem pi_listU (hl : PE X e te) (hK : X.K = K := by rfl) : PI X tg e (iList K te) := hK ▸ pi_list hl
theorem pi_tupU (hl : PE X e te) (hK : X.K = K := by rfl) : PI X tg e (iTup K te) := hK ▸ pi_tup hl
theorem pg_tupU {pos : Pos} {k n : Nat} {t : TGs} (hc : X.calm = true) (h : PGs X es t) (hK : X.K = K := by rfl) (hn : (assignEach es X.env).length = n := by rfl) (hst : (assignEach es X.env).findIdx? (·.1) = none := by rfl) : PG X (.Tuple es k pos) (gTup K n t) := hK ▸ pg_tup hc h hn hst
theorem pe_appendU {apos cpos : Pos} (ho : PE X o to) (he : PE X e te) (hK : X.K = K := by rfl) (hbase : attributeBase o "append" X.env (eval o X.env) = eval o X.env := by rfl)
    (hfew : ((backTo cpos (starEach [e] X.env)).all (fun x => !x.1) && (backToKw cpos (keywordEach [] X.env)).all (fun x => x.1.isSome)
      && decide (([e] : List Expr).length + ([] : List Keyword).length + (if ([] : List Keyword).isEmpty then 0 else 1) < 30)) = true := by rfl)
    (hline : (apos.endLine == cpos.line) = true := by rfl) (hs : starEach [e] X.env = (false, eval e X.env) :: starEach [] X.env := by rfl) (hplain : (backTo cpos (starEach [] X.env)).any (·.1) = false := by rfl) :
    PE X (.Call (.Attribute o "append" apos) [e] [] cpos) (tBM K "list" rAppend to (tCons te tNil)) :=
  hK ▸ pe_bm PySem.F.plainAttrs_list PySem.F.slot_list_append PySem.F.type_list_append mt_append ho (pa_cons he pa_nil hs) hbase hfew hline hs hplain
theorem pe_extendU {apos cpos : Pos} (ho : PE X o to) (he : PE X e te) (hK : X.K = K := by rfl) (hbase : attributeBase o "extend" X.env (eval o X.env) = eval o X.env := by rfl)
    (hfew : ((backTo cpos (starEach [e] X.env)).all (fun x => !x.1) && (backToKw cpos (keywordEach [] X.env)).all (fun x => x.1.isSome)
      && decide (([e] : List Expr).length + ([] : List Keyword).length + (if ([] : List Keyword).isEmpty then 0 else 1) < 30)) = true := by rfl)
    (hline : (apos.endLine == cpos.line) = true := by rfl) (hs : starEach [e] X.env = (false, eval e X.env) :: starEach [] X.env := by rfl) (hplain : (backTo cpos (starEach [] X.env)).any (·.1) = false := by rfl) :
    PE X (.Call (.Attribute o "extend" apos) [e] [] cpos) (tBM K "list" rExtend to (tCons te tNil)) :=
  hK ▸ pe_bm PySem.F.plainAttrs_list PySem.F.slot_list_extend PySem.F.type_list_extend mt_extend ho (pa_cons he pa_nil hs) hbase hfew hline hs hplain
end

def Kp (ms : List Addr) (H H' : Hp) : Prop := ∀ a o, a ∉ ms → H a = some o → H' a = some o
section
variable {K : PySem.W.Frag} {H H1 H2 : Hp} {a b p : Addr} {o u : HO} {ms ns : List Addr} {xs : List V}
theorem Kp.refl : Kp ms H H := fun _ _ _ h => h
theorem Kp.trans (e : Kp ms H H1) (f : Kp ms H1 H2) : Kp ms H H2 := fun a o n h => f a o n (e a o n h)
theorem Kp.mono (e : Kp [] H H1) : Kp ms H H1 := fun a o _ h => e a o (by simp) h
theorem Kp.new (hp : H p = none) : Kp ms H (upd H p o) := fun a u _ h => by rw [upd_ne (ne_of_none h hp)]; exact h
theorem Kp.mut (hp : p ∈ ms) : Kp ms H (upd H p o) := fun a u n h => by rw [upd_ne (fun e : a = p => n (by rw [e]; exact hp))]; exact h
theorem Kp.at0 (e : Kp [] H H1) (h : H a = some o) : H1 a = some o := e a o (by simp) h
theorem Kp.at1 (e : Kp [b] H H1) (n : a ≠ b) (h : H a = some o) : H1 a = some o := e a o (by simpa using n) h
theorem Kp.fresh_mut (e : Kp ms H H1) (hp : H p = none) : Kp ms H (upd H1 p o) := fun a u n h => by rw [upd_ne (ne_of_none h hp)]; exact e a u n h
theorem Kp.drop_fresh (e : Kp (p :: ms) H H1) (hp : H p = none) : Kp ms H H1 := fun a u n h => e a u (by simp only [List.mem_cons, not_or]; exact ⟨ne_of_none h hp, n⟩) h
theorem upd_new (hp : H p = none) (h : H a = some o) : upd H p u a = some o := by rw [upd_ne (ne_of_none h hp)]; exact h
theorem upd_other (n : a ≠ p) (h : H a = some o) : upd H p u a = some o := by rw [upd_ne n]; exact h
theorem free_upd (h : upd H p u a = none) : H a = none := by
  by_cases e : a = p
  · subst e; rw [upd_same] at h; cases h
  · rw [upd_ne e] at h; exact h
theorem rd_at (e : ∀ o, H a = some o → H1 a = some o) (h : Rd H a u) : Rd H1 a u := by
  rcases h with h | ⟨o, h⟩
  · exact .inl (e _ h)
  · exact .inr ⟨o, e _ h⟩
theorem SqL.at (e : ∀ o, H a = some o → H1 a = some o) (h : SqL K H a xs) : SqL K H1 a xs := h.elim (fun h => .inl (rd_at e h)) .inr
theorem SqT.at (e : ∀ o, H a = some o → H1 a = some o) (h : SqT K H a xs) : SqT K H1 a xs := h.elim (fun h => .inl (rd_at e h)) .inr
theorem SqL.kp (e : Kp [] H H1) (h : SqL K H a xs) : SqL K H1 a xs := SqL.at (fun _ => e.at0) h
theorem SqT.kp (e : Kp [] H H1) (h : SqT K H a xs) : SqT K H1 a xs := SqT.at (fun _ => e.at0) h
theorem SqL.kp1 (e : Kp [b] H H1) (n : a ≠ b) (h : SqL K H a xs) : SqL K H1 a xs := SqL.at (fun _ => e.at1 n) h
theorem SqT.kp1 (e : Kp [b] H H1) (n : a ≠ b) (h : SqT K H a xs) : SqT K H1 a xs := SqT.at (fun _ => e.at1 n) h
theorem SqL.new (hp : H p = none) (h : SqL K H a xs) : SqL K (upd H p u) a xs := SqL.at (fun _ => upd_new hp) h
theorem SqT.new (hp : H p = none) (h : SqT K H a xs) : SqT K (upd H p u) a xs := SqT.at (fun _ => upd_new hp) h
theorem SqL.other (n : a ≠ p) (h : SqL K H a xs) : SqL K (upd H p u) a xs := SqL.at (fun _ => upd_other n) h
theorem SqT.other (n : a ≠ p) (h : SqT K H a xs) : SqT K (upd H p u) a xs := SqT.at (fun _ => upd_other n) h
theorem New.kp (N : New H p o H1) : Kp ms H H1 := by rw [N.eq]; exact Kp.new N.fr
theorem New.at_ (N : New H p o H1) : H1 p = some o := by rw [N.eq]; exact upd_same
theorem New.keep (N : New H p o H1) (h : H a = some u) : H1 a = some u := by rw [N.eq]; exact upd_new N.fr h
theorem New.free (N : New H p o H1) (h : H1 a = none) : H a = none := by rw [N.eq] at h; exact free_upd h
theorem New.ne (N : New H p o H1) (h : H a = some u) : p ≠ a := (ne_of_none h N.fr).symm
theorem New.sqL (N : New H p o H1) (h : SqL K H a xs) : SqL K H1 a xs := SqL.kp N.kp h
theorem New.sqT (N : New H p o H1) (h : SqT K H a xs) : SqT K H1 a xs := SqT.kp N.kp h
theorem ne_of2 (h : H a = some o) (h' : H b = none) : a ≠ b := ne_of_none h h'
end

theorem atI_at {xs : List V} {i : Int} (h0 : 0 ≤ i) (h1 : i < xs.length) : atI xs i = some (xs.getD i.toNat .non) := by
  have e : i = ((i.toNat : Nat) : Int) := by omega
  have h : xs[i.toNat]? = some (xs.getD i.toNat .non) := by
    rw [List.getD_eq_getElem?_getD, List.getElem?_eq_getElem (by omega)]
    rfl
  exact e ▸ atI_nat h
theorem atI_ints {ns : List Int} {i : Int} (h0 : 0 ≤ i) (h1 : i < ns.length) : atI (ns.map V.int) i = some (.int (ns.getD i.toNat 0)) := by
  rw [atI_at h0 (by rw [List.length_map]; exact h1)]
  congr 1
  rw [List.getD_eq_getElem?_getD, List.getD_eq_getElem?_getD, List.getElem?_map, List.getElem?_eq_getElem (by omega)]
  rfl
structure Bx (H : Hp) (b d : Addr) : Prop where
  ex : ∃ (at_ : Int) (ds : List Int), H b = some (.lst [.ref d, .int at_]) ∧ H d = some (.lst (ds.map V.int)) ∧ 0 ≤ at_
section
variable {H H1 : Hp} {b d p : Addr} {o : HO}
theorem Bx.ne (h : Bx H b d) : d ≠ b := by
  obtain ⟨at_, ds, h1, h2, _⟩ := h.ex
  intro e
  subst e
  rw [h1] at h2
  cases ds with
  | nil => cases h2
  | cons n r => simp at h2
theorem Bx.kp0 (h : Bx H b d) (e : Kp [] H H1) : Bx H1 b d := by
  obtain ⟨at_, ds, h1, h2, h3⟩ := h.ex
  exact ⟨at_, ds, e.at0 h1, e.at0 h2, h3⟩
theorem Bx.new (h : Bx H b d) (hp : H p = none) : Bx (upd H p o) b d := h.kp0 (Kp.new hp)
theorem Bx.other (h : Bx H b d) (n1 : p ≠ b) (n2 : p ≠ d) : Bx (upd H p o) b d := by
  obtain ⟨at_, ds, h1, h2, h3⟩ := h.ex
  exact ⟨at_, ds, upd_other (Ne.symm n1) h1, upd_other (Ne.symm n2) h2, h3⟩
theorem Bx.nw (h : Bx H b d) (N : New H p o H1) : Bx H1 b d := by rw [N.eq]; exact h.new N.fr
theorem Bx.ne_new (h : Bx H b d) (hp : H p = none) : p ≠ b ∧ p ≠ d := by
  obtain ⟨at_, ds, h1, h2, h3⟩ := h.ex
  exact ⟨fun e => ne_of_none h1 hp e.symm, fun e => ne_of_none h2 hp e.symm⟩
end
end Sa

namespace Sa
open PySem L2

section
variable {K : PySem.W.Frag} {σ : St} {H : Hp} {D : Ends} {wi : TI} {g : TG} {tb : TS} {ta : TA} {tl te : TE} {tt : TT} {R : It → Hp → Prop} {a : Addr} {xs : List V} {lo hi : Int} {n : Nat} {Q : VK} {vs : List Nat} {z : Str}
def ForJ (J : It) (g : TG) (tb : TS) (D : Ends) (σ : St) (H1 : Hp) : Prop := ∃ W : Nat → Nat → St → Hp → Prop, (∃ m, W 0 m σ H1) ∧ ∀ i m σ H, W i m σ H →
  (J.stop i H ∧ D.nx σ H) ∨ (J.go i H ∧ ∃ N : St → Hp → Prop, (∀ σ' H', N σ' H' → ∃ m', m' < m ∧ W (i + 1) m' σ' H') ∧ ∀ x H', J.yld i H x H' → g x σ H' fun σ2 H2 => tb { D with nx := N, ct := N, bk := D.nx } σ2 H2)
def LcJ (J : It) (g : TG) (tt : TT) (te : TE) (vs : List Nat) (σ : St) (H1 : Hp) (Q : VK) : Prop := ∀ D, H1 D = none → ∃ W : Nat → Nat → Hp → Prop, (∃ m, W 0 m (upd H1 D (.lst []))) ∧ ∀ i m H, W i m H →
  (J.stop i H ∧ Q (.ref D) H) ∨ (J.go i H ∧ ∃ Nx : Hp → Prop, (∀ H', Nx H' → ∃ m', m' < m ∧ W (i + 1) m' H') ∧ ∀ x H', J.yld i H x H' → g x (wipe σ vs) H' fun σ2 H2 => wipe σ2 vs = wipe σ vs ∧ tt σ2 H2 fun b H3 =>
    if b = true then te σ2 H3 fun y H4 => ∃ acc, H4 D = some (.lst acc) ∧ acc.length < sizeLine ∧ Nx (upd H4 D (.lst (acc ++ [y]))) else Nx H3)
theorem c_for (h : wi σ H fun J H1 => ForJ J g tb D σ H1) : tFor wi g tb D σ H := h
theorem c_lc (h : wi σ H fun J H1 => LcJ J g tt te vs σ H1 Q) : tLc wi g tt te vs σ H Q := h
theorem c_rng1 (h : ta σ H fun vs H1 => ∃ j : Int, vs = [.int j] ∧ -(2 ^ 62) ≤ j ∧ j < 2 ^ 62 ∧ R (Itr 0 j.toNat) H1) : iRng1 ta σ H R := h
theorem c_rng2 (h : ta σ H fun vs H1 => ∃ i j : Int, vs = [.int i, .int j] ∧ (-(2 ^ 62) ≤ i ∧ i < 2 ^ 62 ∧ -(2 ^ 62) ≤ j ∧ j < 2 ^ 62) ∧ R (Itr i (j - i).toNat) H1) : iRng2 ta σ H R := h
theorem c_r1F (h1 : -4611686018427387904 ≤ hi ∧ hi < 4611686018427387904) (h : ForJ (Itr 0 hi.toNat) g tb D σ H) : ∃ j : Int, [V.int hi] = [.int j] ∧ -(2 ^ 62) ≤ j ∧ j < 2 ^ 62 ∧ ForJ (Itr 0 j.toNat) g tb D σ H := ⟨hi, rfl, by omega, by omega, h⟩
theorem c_r2F (h1 : -4611686018427387904 ≤ hi ∧ hi < 4611686018427387904 ∧ -4611686018427387904 ≤ lo ∧ lo < 4611686018427387904) (h : ForJ (Itr lo (hi - lo).toNat) g tb D σ H) : ∃ i j : Int, [V.int lo, V.int hi] = [.int i, .int j] ∧ (-(2 ^ 62) ≤ i ∧ i < 2 ^ 62 ∧ -(2 ^ 62) ≤ j ∧ j < 2 ^ 62) ∧ ForJ (Itr i (j - i).toNat) g tb D σ H :=
  ⟨lo, hi, rfl, by omega, h⟩
theorem c_itLF (h : SqL K H a xs) (q : ForJ (Itl K a) g tb D σ H) : ∃ b, V.ref a = .ref b ∧ (∃ xs, SqL K H b xs) ∧ ForJ (Itl K b) g tb D σ H := ⟨a, rfl, ⟨xs, h⟩, q⟩
theorem c_itTF (h : SqT K H a xs) (q : ForJ (Itt K a) g tb D σ H) : ∃ b, V.ref a = .ref b ∧ (∃ xs, SqT K H b xs) ∧ ForJ (Itt K b) g tb D σ H := ⟨a, rfl, ⟨xs, h⟩, q⟩
theorem c_itSF (q : ForJ (Its z) g tb D σ H) : ∃ x, V.str z = .str x ∧ ForJ (Its x) g tb D σ H := ⟨z, rfl, q⟩
theorem c_r1C (h1 : -4611686018427387904 ≤ hi ∧ hi < 4611686018427387904) (h : LcJ (Itr 0 hi.toNat) g tt te vs σ H Q) : ∃ j : Int, [V.int hi] = [.int j] ∧ -(2 ^ 62) ≤ j ∧ j < 2 ^ 62 ∧ LcJ (Itr 0 j.toNat) g tt te vs σ H Q := ⟨hi, rfl, by omega, by omega, h⟩
theorem c_r2C (h1 : -4611686018427387904 ≤ hi ∧ hi < 4611686018427387904 ∧ -4611686018427387904 ≤ lo ∧ lo < 4611686018427387904) (h : LcJ (Itr lo (hi - lo).toNat) g tt te vs σ H Q) : ∃ i j : Int, [V.int lo, V.int hi] = [.int i, .int j] ∧ (-(2 ^ 62) ≤ i ∧ i < 2 ^ 62 ∧ -(2 ^ 62) ≤ j ∧ j < 2 ^ 62) ∧ LcJ (Itr i (j - i).toNat) g tt te vs σ H Q :=
  ⟨lo, hi, rfl, by omega, h⟩
theorem c_itLC (h : SqL K H a xs) (q : LcJ (Itl K a) g tt te vs σ H Q) : ∃ b, V.ref a = .ref b ∧ (∃ xs, SqL K H b xs) ∧ LcJ (Itl K b) g tt te vs σ H Q := ⟨a, rfl, ⟨xs, h⟩, q⟩
theorem c_itTC (h : SqT K H a xs) (q : LcJ (Itt K a) g tt te vs σ H Q) : ∃ b, V.ref a = .ref b ∧ (∃ xs, SqT K H b xs) ∧ LcJ (Itt K b) g tt te vs σ H Q := ⟨a, rfl, ⟨xs, h⟩, q⟩
theorem c_itSC (q : LcJ (Its z) g tt te vs σ H Q) : ∃ x, V.str z = .str x ∧ LcJ (Its x) g tt te vs σ H Q := ⟨z, rfl, q⟩
theorem c_iList (h : tl σ H fun x H1 => ∃ a, x = .ref a ∧ (∃ xs, SqL K H1 a xs) ∧ R (Itl K a) H1) : iList K tl σ H R := h
theorem c_iTup (h : tl σ H fun x H1 => ∃ a, x = .ref a ∧ (∃ xs, SqT K H1 a xs) ∧ R (Itt K a) H1) : iTup K tl σ H R := h
theorem c_iStr (h : tl σ H fun v H1 => ∃ x, v = .str x ∧ R (Its x) H1) : iStr tl σ H R := h
theorem forR (Pv : Nat → St → Hp → Prop) (h0 : Pv 0 σ H) (hs : ∀ i σ H, i < n → Pv i σ H → g (.int (lo + i)) σ H fun σ2 H2 => tb { D with nx := Pv (i + 1), ct := Pv (i + 1), bk := D.nx } σ2 H2) (hd : ∀ σ H, Pv n σ H → D.nx σ H) : ForJ (Itr lo n) g tb D σ H := for_range Pv h0 hs hd
theorem forS (Pv : Nat → St → Hp → Prop) (h0 : Pv 0 σ H)
    (hs : ∀ (i : Nat) (c : Nat) σ H, z.cps.toList[i]? = some c → Pv i σ H → g (.str ⟨#[c]⟩) σ H fun σ2 H2 => tb { D with nx := Pv (i + 1), ct := Pv (i + 1), bk := D.nx } σ2 H2) (hd : ∀ σ H, Pv z.cps.toList.length σ H → D.nx σ H) : ForJ (Its z) g tb D σ H := by
  refine ⟨fun i m σ H => m = z.cps.size - i ∧ i ≤ z.cps.size ∧ Pv i σ H, ⟨_, rfl, Nat.zero_le _, h0⟩, ?_⟩
  rintro i m σ H ⟨rfl, hi, p⟩
  by_cases hlt : i < z.cps.size
  · refine .inr ⟨hlt, Pv (i + 1), fun σ' H' p' => ⟨_, by omega, rfl, hlt, p'⟩, fun x H' y => ?_⟩
    obtain ⟨e, c, hc, e2⟩ := y
    subst e e2
    exact hs i c σ _ (by rw [Array.getElem?_toList]; exact hc) p
  · have e : i = z.cps.toList.length := by rw [Array.length_toList]; omega
    subst e
    exact .inl ⟨by rw [Array.length_toList] at hlt; exact Nat.le_of_not_lt hlt, hd σ H p⟩

def LcN (Pv : Addr → Nat → List V → Hp → Prop) (Dl : Addr) (i : Nat) (H : Hp) : Prop := ∃ acc, H Dl = some (.lst acc) ∧ acc.length ≤ i ∧ Pv Dl i acc H
abbrev LcT (g : TG) (tt : TT) (te : TE) (vs : List Nat) (σ : St) (Pv : Addr → Nat → List V → Hp → Prop) (Dl : Addr) (i : Nat) (x : V) (H' : Hp) : Prop :=
  g x (wipe σ vs) H' fun σ2 H2 => wipe σ2 vs = wipe σ vs ∧ tt σ2 H2 fun b H3 =>
    if b = true then te σ2 H3 fun y H4 => ∃ acc, H4 Dl = some (.lst acc) ∧ acc.length < sizeLine ∧ LcN Pv Dl (i + 1) (upd H4 Dl (.lst (acc ++ [y]))) else LcN Pv Dl (i + 1) H3
theorem lc_push {Pv : Addr → Nat → List V → Hp → Prop} {Dl : Addr} {i : Nat} {H4 : Hp} {acc : List V} {y : V} (h : H4 Dl = some (.lst acc)) (hl : acc.length ≤ i) (hi : i < 16777216) (p : Pv Dl (i + 1) (acc ++ [y]) (upd H4 Dl (.lst (acc ++ [y])))) :
    ∃ acc, H4 Dl = some (.lst acc) ∧ acc.length < sizeLine ∧ LcN Pv Dl (i + 1) (upd H4 Dl (.lst (acc ++ [y]))) :=
  ⟨acc, h, by rw [sizeLine_eq]; omega, acc ++ [y], upd_same, by rw [List.length_append, List.length_singleton]; omega, p⟩
theorem lc_skip {Pv : Addr → Nat → List V → Hp → Prop} {Dl : Addr} {i : Nat} {H3 : Hp} {acc : List V} (h : H3 Dl = some (.lst acc)) (hl : acc.length ≤ i) (p : Pv Dl (i + 1) acc H3) : LcN Pv Dl (i + 1) H3 := ⟨acc, h, by omega, p⟩
theorem lcR (Pv : Addr → Nat → List V → Hp → Prop) (h0 : ∀ Dl, H Dl = none → Pv Dl 0 [] (upd H Dl (.lst [])))
    (hs : ∀ Dl i acc H', H Dl = none → i < n → H' Dl = some (.lst acc) → acc.length ≤ i → Pv Dl i acc H' → LcT g tt te vs σ Pv Dl i (.int (lo + i)) H')
    (hd : ∀ Dl acc H', H Dl = none → H' Dl = some (.lst acc) → acc.length ≤ n → Pv Dl n acc H' → Q (.ref Dl) H') : LcJ (Itr lo n) g tt te vs σ H Q := fun Dl hD =>
  lc_range (LcN Pv Dl) ⟨[], upd_same, Nat.zero_le _, h0 Dl hD⟩ (fun i H' hi ⟨acc, h1, h2, h3⟩ => hs Dl i acc H' hD hi h1 h2 h3) fun H' ⟨acc, h1, h2, h3⟩ => hd Dl acc H' hD h1 h2 h3
theorem lcL (xs : List V) (Pv : Addr → Nat → List V → Hp → Prop) (h0 : ∀ Dl, H Dl = none → Pv Dl 0 [] (upd H Dl (.lst []))) (hl : ∀ Dl i acc H', H Dl = none → Pv Dl i acc H' → SqL K H' a xs)
    (hs : ∀ Dl i x acc H', H Dl = none → xs[i]? = some x → H' Dl = some (.lst acc) → acc.length ≤ i → Pv Dl i acc H' → LcT g tt te vs σ Pv Dl i x H')
    (hd : ∀ Dl acc H', H Dl = none → H' Dl = some (.lst acc) → acc.length ≤ xs.length → Pv Dl xs.length acc H' → Q (.ref Dl) H') : LcJ (Itl K a) g tt te vs σ H Q := fun Dl hD =>
  lc_list (xs := xs) (LcN Pv Dl) ⟨[], upd_same, Nat.zero_le _, h0 Dl hD⟩ (fun i H' _ ⟨acc, _, _, h3⟩ => hl Dl i acc H' hD h3) (fun i x H' hi ⟨acc, h1, h2, h3⟩ => hs Dl i x acc H' hD hi h1 h2 h3) fun H' ⟨acc, h1, h2, h3⟩ => hd Dl acc H' hD h1 h2 h3
theorem lcT (xs : List V) (Pv : Addr → Nat → List V → Hp → Prop) (h0 : ∀ Dl, H Dl = none → Pv Dl 0 [] (upd H Dl (.lst []))) (hl : ∀ Dl i acc H', H Dl = none → Pv Dl i acc H' → SqT K H' a xs)
    (hs : ∀ Dl i x acc H', H Dl = none → xs[i]? = some x → H' Dl = some (.lst acc) → acc.length ≤ i → Pv Dl i acc H' → LcT g tt te vs σ Pv Dl i x H')
    (hd : ∀ Dl acc H', H Dl = none → H' Dl = some (.lst acc) → acc.length ≤ xs.length → Pv Dl xs.length acc H' → Q (.ref Dl) H') : LcJ (Itt K a) g tt te vs σ H Q := fun Dl hD =>
  lc_tup (xs := xs) (LcN Pv Dl) ⟨[], upd_same, Nat.zero_le _, h0 Dl hD⟩ (fun i H' _ ⟨acc, _, _, h3⟩ => hl Dl i acc H' hD h3) (fun i x H' hi ⟨acc, h1, h2, h3⟩ => hs Dl i x acc H' hD hi h1 h2 h3) fun H' ⟨acc, h1, h2, h3⟩ => hd Dl acc H' hD h1 h2 h3
theorem c_unL {K : PySem.W.Frag} {ys : List V} {gs : TGs} {R : St → Hp → Prop} (h : SqL K H a ys) (hl : ys.length = n) (q : gs ys σ H R) : gLst K n gs (.ref a) σ H R := ⟨a, ys, rfl, h, hl, q⟩
theorem c_unT {K : PySem.W.Frag} {ys : List V} {gs : TGs} {R : St → Hp → Prop} (h : SqT K H a ys) (hl : ys.length = n) (q : gs ys σ H R) : gTup K n gs (.ref a) σ H R := ⟨a, ys, rfl, h, hl, q⟩
theorem c_gCons {v : V} {r : List V} {gs : TGs} {R : St → Hp → Prop} (q : g v σ H fun σ' H' => gs r σ' H' R) : gCons g gs (v :: r) σ H R := ⟨v, r, rfl, q⟩
theorem c_gNil {R : St → Hp → Prop} (q : R σ H) : gNil [] σ H R := ⟨rfl, q⟩
theorem c_cut {t u : TS} (Mid : St → Hp → Prop) (h1 : t { D with nx := Mid } σ H) (h2 : ∀ σ' H', Mid σ' H' → u D σ' H') : Evl.tCut t u D σ H := ⟨Mid, h1, h2⟩
theorem c_yes {R : Bool → Hp → Prop} (h : R true H) : tYes σ H R := h
end
end Sa

namespace Sa
open PySem L2

def txt (cs : List Nat) : Str := ⟨cs.toArray⟩
theorem txt_len (cs : List Nat) : (txt cs).length = cs.length := by show cs.toArray.size = _; simp
theorem txt_cps (cs : List Nat) : (txt cs).cps.toList = cs := by show cs.toArray.toList = _; simp
theorem txt_of (s : Str) : s = txt s.cps.toList := by cases s; simp [txt]
theorem txt_inj {cs ds : List Nat} : txt cs = txt ds ↔ cs = ds := by
  constructor
  · intro h
    have e := congrArg (fun s : Str => s.cps.toList) h
    simpa [txt] using e
  · intro h; rw [h]
theorem cutS_txt (cs : List Nat) (lo hi : Option Int) : cutS (txt cs) lo hi = txt ((cs.drop (HT.sIx cs.length 0 lo)).take (HT.sIx cs.length cs.length hi - HT.sIx cs.length 0 lo)) := by
  unfold cutS
  rw [txt_len, txt_cps]
  rfl
theorem tjoin (s : Str) (ys : List Str) : Txt.join s ys = Str.join s ys := StrLaws.glued_eq_join s ys
def cutL {α : Type} (xs : List α) (lo hi : Option Int) : List α := (xs.drop (HT.sIx xs.length 0 lo)).take (HT.sIx xs.length xs.length hi - HT.sIx xs.length 0 lo)
theorem cutV_eq (xs : List V) (lo hi : Option Int) : cutV xs lo hi = cutL xs lo hi := rfl
theorem cutL_map {α β : Type} (f : α → β) (xs : List α) (lo hi : Option Int) : cutL (xs.map f) lo hi = (cutL xs lo hi).map f := by
  unfold cutL
  rw [List.length_map, List.map_take, List.map_drop]
theorem sIx_of {n d : Nat} {i : Int} (h : 0 ≤ i) : HT.sIx n d (some i) = min i.toNat n := by
  obtain ⟨k, rfl⟩ := Int.eq_ofNat_of_zero_le h
  exact HT.sIx_nat n d k
section
variable {K : PySem.W.Frag} {H : Hp} {Q : VK} {a b : Addr} {ns ms : List Int}
end
theorem map_snocI (ds : List Int) (z : Int) : ds.map V.int ++ [V.int z] = (ds ++ [z]).map V.int := by rw [List.map_append]; rfl
theorem take_succ' {α : Type} {xs : List α} {i : Nat} {x : α} (h : xs[i]? = some x) : xs.take (i + 1) = xs.take i ++ [x] := by
  rw [List.take_succ, h]; rfl
end Sa

namespace Sa
open PySem PySem.Spec PyProof.Rows L2
structure FnG (P : Program) (w : World) (K : PySem.W.Frag) (mg : Str → Option Value) (base : Heap) (CX : CXT) (k : Nat) (f : Addr) (fd : FuncData) (ps : List Str) (sp : Sp) : Prop where
  len : ∀ vs H Q E, sp vs H Q E → vs.length = ps.length
  go : ∀ (A : Around) (fs : List Env) (s : Shared) (H : Hp) (args : Args) (us : List Value) (vs : List V) (Q : VK) (E : XK),
    A.guards = some [] ∧ Room k A ∧ Env0 P w K mg base A fs s H ∧ BindsTo s fd args (ps.zip us) ∧ Vals vs us ∧ sp vs H Q E → codeAny (model P w) A (.call (.ref f) args) (CR CX fs P w H s Q E) s
theorem FnG.mono {P : Program} {w : World} {K : PySem.W.Frag} {mg : Str → Option Value} {base : Heap} {CX : CXT} {j k : Nat} {f : Addr} {fd : FuncData} {ps : List Str} {sp : Sp} (F : FnG P w K mg base CX j f fd ps sp) (h : j ≤ k) : FnG P w K mg base CX k f fd ps sp :=
  ⟨F.len, fun A fs s H args us vs Q E z => F.go A fs s H args us vs Q E ⟨z.1, z.2.1.mono h, z.2.2⟩⟩
section
variable {P : Program} {w : World} {K : PySem.W.Frag} {mg : Str → Option Value} {base : Heap} {CX : CXT} {k : Nat} {f : Addr} {x : Str} {st : Stmt} {N ps : List Str} {sp : Sp}
def BodyG (P : Program) (w : World) (K : PySem.W.Frag) (mg : Str → Option Value) (base : Heap) (x : Str) (st : Stmt) (N : List Str) (k : Nat) (sp : Sp) : Prop :=
  ∀ (cdv : Value) (A : Around) (fs : List Env) (s : Shared) (H : Hp) (vs : List V) (Q : VK) (E : XK), sp vs H Q E → let X : Cx := (cxOf CX0 P w K mg base N x (defScope st) (He.ga K x) cdv A fs s H E).nox
    Room k X.A → X.A.guards = some [] → ∃ t, PSs X (defBody st) t ∧ t { nx := fun _ H' => Q .non H', rt := Q } (start N vs) H
theorem fnG_of {fd : FuncData} (F : FunD K x x (defArgs st) (defBody st) (defScope st) [] [] (He.ga K x) fd) (S : FnScope N ps (defScope st)) (len : ∀ vs H Q E, sp vs H Q E → vs.length = ps.length) (body : BodyG P w K mg base x st N k sp) :
    FnG P w K mg base CX0 (k + 1) (He.ga K x) fd ps sp := by
  obtain ⟨oc, od, dV, kV, doc, pm, an, cdv, ct, osl, rfl, lk, hcd, _, _⟩ := F.ex
  refine ⟨len, ?_⟩
  rintro A fs s H args us vs Q E ⟨hg, hr, e0, hb, rv, hsp⟩
  have hlen := len _ _ _ _ hsp
  have inK : K.In s.heap := e0.mod.kin.keeps (fun b o e => (e0.bs b o e).1)
  have noL : s.heap.NoLimit := e0.mod.nolimit.keeps (fun b o e => (e0.bs b o e).1)
  have loc : ∀ y ∈ ps.zip us, (defScope st).names.lookup y.1 = some .local ∨ ((defScope st).names.lookup y.1 = some .cell ∧ ((cellsFrom (s.heap.objs.size + 1) (defScope st).names []).lookup y.1).isSome = true) := by
    rintro ⟨n, v⟩ hy
    exact (S.par n (List.of_mem_zip hy).1).imp id (fun q => ⟨q, PySem.W.cellsFrom_some _ _ _ (.inl q)⟩)
  refine codeAny_call_function hr.depth (inK _ _ lk) rfl S.co S.gen rfl (PySem.W.codeRec_of inK hcd) (hb _ _ _ _ (wpAny_newFunctionEnv_cells S.kind loc (fun env he s1 ic => ?_)))
  cases he
  refine ⟨noL.keeps ic.toInCall.keep, codeAny_func ?_⟩
  obtain ⟨t, ht, hq⟩ := body cdv A fs s H vs Q E hsp (hr.deeper _) hg
  have I := inv_start (CX := CX0) (P := P) (w := w) (K := K) (mg := mg) (base := base) (E := E) S hr.hd e0 hlen rv ic
  refine wpAny_mono (ht.nox.run [] s1 (start N vs) H _ I hq) (fun fl s' hs => ?_) (fun e s' hs => hs)
  have fin : ∀ {σ' H' v u}, Inv (cxOf CX0 P w K mg base N x (defScope st) (He.ga K x) cdv A fs s H E) [] σ' H' s' → RelV v u → Q v H' → CE fs P w H s Q u s' := by
    intro σ' H' v u J rv q
    exact ⟨v, H', J.os, J.bare, J.base, J.hok, rv, q⟩
  cases fl with
  | ret u => obtain ⟨v, σ', H', J, rv, q⟩ := hs; exact fin J rv q
  | next => obtain ⟨σ', H', J, q⟩ := hs; exact fin (v := V.non) (u := Value.none) J rfl q
  | brk => obtain ⟨_, _, _, q⟩ := hs; exact q.elim
  | cont => obtain ⟨_, _, _, q⟩ := hs; exact q.elim
end
structure DefG (P : Program) (w : World) (K : PySem.W.Frag) (mg : Str → Option Value) (base : Heap) (x : Str) (k : Nat) (ps : List Str) (sp : Sp) : Prop where
  gl : mg x = some (.ref (He.ga K x))
  kp : PySem.W.keepIn K (.ref (He.ga K x)) = true
  ok : ∃ fd, FnG P w K mg base CX0 k (He.ga K x) fd ps sp ∧ Binds K fd ps []
theorem defG_of {fa : List He.Fa} {fn : List He.DefD} {fx : List Fx} {P : Program} {w : World} {K : PySem.W.Frag} {mg : Str → Option Value} {base : Heap} (T : Tx fa fn fx K mg) (i j : Nat) {x : Str} {st : Stmt} {N ps : List Str} {k : Nat} {sp : Sp} (S : FnScope N ps (defScope st)) (B : BindN x st ps)
    (len : ∀ vs H Q E, sp vs H Q E → vs.length = ps.length) (body : BodyG P w K mg base x st N k sp) (hd : fn[i]? = some (dOf x st) := by rfl) (hg : fa[j]? = some (.glo x) := by rfl) : DefG P w K mg base x (k + 1) ps sp := by
  have gl := T.glo j hg
  obtain ⟨hp, X, G, c, _⟩ := T
  obtain ⟨fd, F⟩ := c.def_ i hd
  exact ⟨gl, F.kp, fd, fnG_of F S len body, F.bindsN B⟩
section
variable {X : Cx} {x : Str} {k j : Nat} {ps : List Str} {sp : Sp} {p pos : Pos} {e : Expr} {es : List Expr} {t : TA}
theorem pe_callG (D : DefG X.prog X.w X.K X.mg X.base x j ps sp) (hr : Room k X.A) (hgd : X.A.guards = some []) (ha : PA X (e :: es) t) (hjk : j ≤ k := by decide) (hg : Gl X x := by rfl)
    (hdb : (x == ("__debug__" : Str)) = false := by decide) (he : starEach (e :: es) X.env = (false, eval e X.env) :: starEach es X.env := by rfl) (hpl : (backTo pos (starEach es X.env)).any (·.1) = false := by rfl) :
    PE X (.Call (.Name x p) (e :: es) [] pos) (tCallA sp E0 t) := by
  obtain ⟨fd, F0, B⟩ := D.ok
  have F := F0.mono hjk
  refine ⟨fun pins s σ H Q I h => ?_⟩
  refine wpAny_Call_Name_kw (ld_glob I hg D.gl ?_ hdb)
  refine PySem.W.callWith_K (h₀ := X.base) I.ok.mod.kin D.kp (thn (ha.run pos pins s σ H _ I h) (fun us s1 z => ?_)) he hpl
  obtain ⟨vs, H1, I1, r, q⟩ := z
  refine ⟨I1.kIn, ?_⟩
  have n : (us ++ []).length = ps.length := by rw [List.append_nil, ← r.length]; exact F.len _ _ _ _ q
  have b := B s1 us I1.kIn n
  rw [List.append_nil] at b
  refine wpAny_call (codeAny_mono (F.go X.A X.stack s1 H1 ⟨us, []⟩ us vs Q E0 ⟨hgd, hr, I1.env0, b, r, q⟩) (fun r s' hq => ?_))
  cases r with
  | error e => exact False.elim hq
  | ok fl =>
    cases fl with
    | ret u => exact I1.after hq
    | next => exact False.elim hq
    | brk => exact False.elim hq
    | cont => exact False.elim hq
end
structure Nice (d : PyData) : Prop where
  lay : PyData.layable0 d = true
  shrt : PyData.intsShort 13 d = true
  show_ : PyData.showable d = true
theorem Nice.size {d : PyData} (h : Nice d) : d.shown.length ≤ sizeLine := by
  have z := shown_le13 h.lay h.shrt
  rw [sizeLine_eq]
  omega
theorem Nice.depth {d : PyData} (h : Nice d) : d.depth ≤ 64 := by
  have z := h.lay
  unfold PyData.layable0 at z
  simp only [Bool.and_eq_true, decide_eq_true_eq] at z
  exact z.1.2
def rReprD (K : PySem.W.Frag) : List V → Hp → VK → Prop := fun vs H Q => ∃ (x : V) (d : PyData), vs = [x] ∧ Dp K H x d ∧ Nice d ∧ Q (.str d.shown) H
theorem cr_reprD {X : Cx} {K : PySem.W.Frag} {A : Around} (hg : A.guards = some []) (hu : A.units + 100 < cLine) (hA : X.A = A := by rfl) (hK : X.K = K := by rfl) : CallR X (.builtin "repr") (rReprD K) := by
  subst hA hK
  intro pins s σ H vs us Q I r h
  obtain ⟨x, d, rfl, hd, nd, q⟩ := h
  obtain ⟨u, rfl, ru⟩ := vals1 r
  have hdp := nd.depth
  cases hd with
  | non => cases ru; exact PySem.P.repr_of_none ⟨.str _, H, I.tok _, ⟨_, rfl⟩, q⟩
  | bl b => cases ru; exact PySem.P.repr_of_bool ⟨.str _, H, I.tok _, ⟨_, rfl⟩, q⟩
  | int i => obtain ⟨t, rfl⟩ := ru; exact PySem.P.repr_of_int (of_decide_eq_true nd.show_) ⟨.str _, H, I.tok _, ⟨_, rfl⟩, q⟩
  | str z => obtain ⟨t, rfl⟩ := ru; exact PySem.P.repr_of_str ⟨.str _, H, I.tok _, ⟨_, rfl⟩, q⟩ nd.size
  | lst h1 h2 =>
    cases ru
    obtain ⟨as, hr⟩ := Dp.reads I _ _ _ (Dp.lst h1 h2) rfl
    exact repr_of_reads' hr nd.show_ (PyData.noDict_hsm (PyData.hasDict_of_layable nd.lay)) hg (by omega) (fun _ _ e => e) (fun h' u tk hk => ⟨.str _, H, I.kept hk, ⟨_, rfl⟩, q⟩) nd.size
  | tup h1 h2 =>
    cases ru
    obtain ⟨as, hr⟩ := Dp.reads I _ _ _ (Dp.tup h1 h2) rfl
    exact repr_of_reads' hr nd.show_ (PyData.noDict_hsm (PyData.hasDict_of_layable nd.lay)) hg (by omega) (fun _ _ e => e) (fun h' u tk hk => ⟨.str _, H, I.kept hk, ⟨_, rfl⟩, q⟩) nd.size
theorem c_repr {K : PySem.W.Frag} {H : Hp} {Q : VK} {x : V} {d : PyData} (h : Dp K H x d) (n : Nice d) (q : Q (.str d.shown) H) : rReprD K [x] H Q := ⟨x, d, rfl, h, n, q⟩

theorem run_end {P : Program} {w : World} {K : PySem.W.Frag} {mg mb : Str → Option Value} {k : Nat} {f a : Addr} {fd : FuncData} {x : Str} {sp : Sp} {s : Shared} {H : Hp}
    (KX : K.In s.heap) (hns : s.heap.Ns mainGlobals mg) (hb : s.heap.Ns builtinsNs mb) (hbb : ∀ x : Str, x ≠ "__name__" → mb x = bootBuiltins x) (hlim : s.heap.NoLimit) (hg : s.gens = #[]) (hr : Room k callerA)
    (F : ∀ base : Heap, K.In base → base.Ns mainGlobals mg → FnG P w K mg base CX0 k f fd [x] sp) (bind : BindsTo s fd ⟨[.ref a], []⟩ [(x, .ref a)]) (hsp : sp [.ref a] H (fun v _ => v = .bl true) fun _ _ _ => False)
    (only : Only H) (hok : HOk P w H s.heap) (one : ∀ b, H b ≠ none → b = a ∧ K.lookup a = none ∧ ∀ o, s.heap.get? a = some o → ∀ es ep, o.data ≠ .dict es ep) :
    codeAny (model P w) callerA (.call (.ref f) ⟨[.ref a], []⟩) (fun r s' => r = .ok (.ret (.bool true)) ∧ OldK s.heap s'.heap ∧ s'.os = s.os ∧ AllBare s'.gens) s := by
  have free : ∀ {b o es ep}, s.heap.get? b = some o → o.data = .dict es ep → H b = none := by
    intro b o es ep e d
    cases z : H b with
    | none => rfl
    | some u =>
      obtain ⟨e1, _, e3⟩ := one b (by rw [z]; intro q; cases q)
      subst e1
      exact absurd d (e3 o e es ep)
  have ns : ∀ {b m}, s.heap.Ns b m → (hidT s.heap H).Ns b m := by
    rintro b m ⟨o, es, ep, e, d, r⟩
    exact ⟨o, es, ep, hidT_get e (free e d), d, r⟩
  have KB : K.In (hidT s.heap H) := by
    intro b o e
    refine hidT_get (KX b o e) ?_
    cases z : H b with
    | none => rfl
    | some u =>
      obtain ⟨e1, e2, _⟩ := one b (by rw [z]; intro q; cases q)
      subst e1
      rw [e2] at e
      cases e
  have M : Mod K mg (hidT s.heap H) := ⟨KB, ns hns, ⟨mb, ns hb, hbb⟩, by obtain ⟨mc, h1, h2⟩ := hlim; exact ⟨mc, ns h1, h2⟩⟩
  have e0 : Env0 P w K mg (hidT s.heap H) callerA [] s H := ⟨rfl, M, fun b o e => of_hidT e, Nat.le_of_eq (hidT_size _ _), trivial, fun b hb => absurd hb (by simp [frs]), hok, .of_eq hg⟩
  refine codeAny_mono ((F _ KB (ns hns)).go callerA [] s H ⟨[.ref a], []⟩ [.ref a] [.ref a] _ _ ⟨rfl, hr, e0, bind, .cons rfl .nil, hsp⟩) (fun r s' z => ?_)
  cases r with
  | error e => exact False.elim z
  | ok fl =>
    cases fl with
    | next => exact False.elim z
    | brk => exact False.elim z
    | cont => exact False.elim z
    | ret u =>
      obtain ⟨v, H', os, bare, un, hok', rv, q⟩ := z
      cases (show v = .bl true from q)
      cases rv
      refine ⟨rfl, OldK.of_keep (fun b o e => ?_), os, bare⟩
      rcases only b with z | ⟨ob, xs, z⟩
      · exact un.keep b o e z (by simp [frs]) (by simp)
      · have e1 := (hok b _ z).1
        have e2 := (hok' b _ (un.frzs b ob _ z)).1
        rw [e] at e1
        cases e1
        exact e2
theorem law_end {l : PySem.W.OpenLaw} {n k : Nat} {q : Program} {loose : List Str} {XP : (Str → Option Value) → Heap → Prop} {YP : World → Heap → Prop} {d : DefRec} {x : Str}
    (hn : l.most = some n) (hn2 : n ≤ sizeLine) (hdf : d.params.defaults = []) (hr : Room k callerA)
    (F : ∀ (w : World) (mg : Str → Option Value) (fa : Addr) (h : Heap), YP w h → h.Ns mainGlobals mg → mg d.name = some (.ref fa) →
      ∃ (K : PySem.W.Frag) (fd : FuncData) (sp : Sp), K.In h ∧ (∀ (s : Shared) (u : Value), BindsTo s fd ⟨[u], []⟩ [(x, u)]) ∧
        (∀ (H : Hp) (a : Addr) (ns : List Int), SqL K H a (ns.map V.int) → sp [.ref a] H (fun v _ => v = .bl true) fun _ _ _ => False) ∧
        ∀ base : Heap, K.In base → base.Ns mainGlobals mg → FnG l.prog w K mg base CX0 k fa fd [x] sp) :
    PySem.W.WalkO q loose XP YP l.row.toRowW d [] (fun f vs => PySem.call f vs) := by
  refine Att.attach_call hn hdf (fun w s0 s mg mb fa o pm cd doc a vs ns G Y ho hd hcd hmg hobj hints hlen hg => ?_)
  obtain ⟨K, fd, sp, KX, bind, hsp, hF⟩ := F w mg fa _ Y G.T.g hmg
  have rv := vals_ints hints
  have len := hints.length
  have hz : ns.length ≤ sizeLine := Nat.le_trans hlen hn2
  cases hk : K.lookup a with
  | some ob =>
    have e := KX a ob hk
    rw [hobj] at e
    cases e
    exact run_end (H := fun _ => none) KX G.T.g G.T.b G.T.builtins G.T.nolimit hg hr hF (bind s _) (hsp _ a ns (.inr ⟨_, vs.toArray, _, hk, rfl, rfl, rfl, by rw [List.size_toArray, len]; exact hz, by simpa using rv⟩)) (fun _ => .inl rfl) (fun b u z => by cases z) (fun b z => absurd rfl z)
  | none =>
    have at_ : (fun b => if b = a then some (HO.frz { cls := .type "list", data := .seq vs.toArray } (.lst (ns.map V.int))) else none : Hp) a = some (HO.frz { cls := .type "list", data := .seq vs.toArray } (.lst (ns.map V.int))) := if_pos rfl
    refine run_end (H := fun b => if b = a then some (HO.frz { cls := .type "list", data := .seq vs.toArray } (.lst (ns.map V.int))) else none) KX G.T.g G.T.b G.T.builtins G.T.nolimit hg hr hF (bind s _) (hsp _ a ns (.inl (.inr ⟨_, at_⟩))) (fun b => ?_) (fun b u z => ?_) (fun b z => ?_)
    · by_cases h : b = a
      · exact .inr ⟨_, _, if_pos h⟩
      · exact .inl (if_neg h)
    · by_cases h : b = a
      · cases h
        cases (if_pos rfl).symm.trans z
        exact ⟨hobj, by rw [List.length_map]; exact hz, vs, _, rv, hobj⟩
      · cases (if_neg h).symm.trans z
    · by_cases h : b = a
      · refine ⟨h, hk, fun o2 e es ep dd => ?_⟩
        rw [hobj] at e
        cases e
        cases dd
      · exact absurd (if_neg h) z
theorem lawG_of {fa : List He.Fa} {fn : List He.DefD} {P : Program} {w : World} {K : PySem.W.Frag} {mg : Str → Option Value} {h : Heap} {f : Addr} {N : List Str} {x : Str} {st : Stmt} {k : Nat} {sp : Sp} (KX : K.In h) (G : h.Ns mainGlobals mg) (c : He.SaysD fa fn K)
    (hf : mg "law" = some (.ref f)) (i j : Nat) (S : FnScope N [x] (defScope st)) (B : BindN "law" st [x]) (len : ∀ vs H Q E, sp vs H Q E → vs.length = 1) (body : ∀ base, BodyG P w K mg base "law" st N k sp)
    (hd : fn[i]? = some (dOf "law" st) := by rfl) (hg : fa[j]? = some (.glo "law") := by rfl) :
    ∃ fd : FuncData, (∀ (s : Shared) (v : Value), BindsTo s fd ⟨[v], []⟩ [(x, v)]) ∧ ∀ base : Heap, K.In base → base.Ns mainGlobals mg → FnG P w K mg base CX0 (k + 1) f fd [x] sp := by
  obtain ⟨fd, F⟩ := c.def_ i hd
  have gl := He.glo_ok KX G (c.fact j hg)
  cases hf.symm.trans gl
  have b := F.bindsA (ps := [x]) B
  exact ⟨fd, fun s v => b s [v] rfl, fun base _ _ => fnG_of F S len (body base)⟩
end Sa

namespace Sa
open PySem L2
section
variable {X : Cx} {K : PySem.W.Frag} {σ : St} {H : Hp} {Q : VK} {a : Addr} {s z : Str} {to te : TE} {o e : Expr}
def rSplitU : V → List V → Hp → VK → Prop := fun x xs H Q => ∃ a b, x = .str a ∧ xs = [.str b] ∧ (b.length == 0) = false ∧ a.length + 2 ≤ sizeLine ∧ ∀ p, H p = none → Q (.ref p) (upd H p (.lst ((Txt.split a b).map V.str)))
theorem pe_splitU {apos pos : Pos} (ho : PE X o to) (he : PE X e te) (hs : starEach [e] X.env = [(false, eval e X.env)] := by rfl) (hbase : attributeBase o "split" X.env (eval o X.env) = eval o X.env := by rfl) (hline : (apos.endLine == pos.line) = true := by rfl) :
    PE X (.Call (.Attribute o "split" apos) [e] [] pos) (tM1 rSplitU to te) := pe_split ho he hs hbase hline
theorem c_split (h0 : (z.length == 0) = false) (hl : s.length + 2 ≤ sizeLine) (q : ∀ p H', New H p (.lst ((Txt.split s z).map V.str)) H' → Q (.ref p) H') : rSplitU (.str s) [.str z] H Q :=
  ⟨s, z, rfl, rfl, h0, hl, fun p hp => q p _ ⟨hp, rfl⟩⟩
end
theorem join_len (y : Str) : ∀ ys : List Str, (ys.map (·.length)).sum + (ys.length - 1) * y.length = (Str.join y ys).length
  | [] => by show 0 + 0 * y.length = 0; omega
  | [x] => by show x.length + 0 + 0 * y.length = x.length; omega
  | x :: z :: r => by
    have ih := join_len y (z :: r)
    show _ = (x ++ y ++ Str.join y (z :: r)).length
    have l2 : ∀ a b : Str, (a ++ b).length = a.length + b.length := fun a b => by show (a.cps ++ b.cps).size = _; rw [Array.size_append]; rfl
    rw [l2, l2, ← ih]
    simp only [List.map_cons, List.sum_cons, List.length_cons, Nat.add_sub_cancel, Nat.add_mul, Nat.one_mul]
    omega
theorem split_len (x y : Str) : ((Txt.split x y).map (·.length)).sum + ((Txt.split x y).length - 1) * y.length = x.length := by
  rw [join_len, StrLaws.join_split]
theorem sum_mem {n : Nat} : ∀ {ns : List Nat}, n ∈ ns → n ≤ ns.sum
  | m :: r, h => by
    rw [List.sum_cons]
    rcases List.mem_cons.mp h with e | h
    · omega
    · have := sum_mem h
      omega
theorem split_part {x y z : Str} (h : z ∈ Txt.split x y) : z.length ≤ x.length := by
  have e := split_len x y
  have := sum_mem (List.mem_map_of_mem (f := fun s : Str => s.length) h)
  omega
theorem split_many {x : Str} (y : Str) (hy : 0 < y.length) : (Txt.split x y).length ≤ x.length + 1 := by
  have e := split_len x y
  have : (Txt.split x y).length - 1 ≤ ((Txt.split x y).length - 1) * y.length := Nat.le_mul_of_pos_right _ hy
  omega
theorem cut_starts (x y : Str) : decide (cutS x none (some (y.length : Int)) = y) = Txt.startswith x y := by
  rw [txt_of x, txt_of y, cutS_txt, txt_len]
  generalize x.cps.toList = xs
  generalize y.cps.toList = ys
  rw [sIx_of (by omega), Int.toNat_natCast]
  show decide (txt ((xs.drop (HT.sIx xs.length 0 none)).take (min ys.length xs.length - HT.sIx xs.length 0 none)) = txt ys) = _
  have e0 : HT.sIx xs.length 0 none = 0 := rfl
  rw [e0, List.drop_zero, Nat.sub_zero]
  unfold Txt.startswith
  rw [StrLaws.subAt_eq, txt_cps, txt_cps, txt_len, txt_len, List.drop_zero, Nat.zero_add]
  have e1 : xs.take (min ys.length xs.length) = xs.take ys.length := by
    by_cases h : ys.length ≤ xs.length
    · rw [Nat.min_eq_left h]
    · rw [Nat.min_eq_right (by omega), List.take_of_length_le (Nat.le_refl _), List.take_of_length_le (by omega)]
  rw [e1]
  by_cases h : xs.take ys.length = ys
  · have hl : ys.length ≤ xs.length := by have := congrArg List.length h; rw [List.length_take] at this; omega
    rw [h]
    simp [hl]
  · have hn : txt (xs.take ys.length) ≠ txt ys := fun e => h (txt_inj.mp e)
    simp [h, hn]
theorem str_app_len (a b : Str) : (a ++ b).length = a.length + b.length := by show (a.cps ++ b.cps).size = _; rw [Array.size_append]; rfl
theorem un100 {k : Nat} {A : Around} (r : Room k A) : A.units + 100 < cLine := by have := r.un; omega
section
variable {K : PySem.W.Frag} {σ : St} {H : Hp} {g : TG} {tt : TT} {te : TE} {a b d : Addr} {z : Str} {lo : Int} {n : Nat} {Q : VK} {vs : List Nat} {xs : List V}
theorem lcS (Pv : Addr → Nat → List V → Hp → Prop) (h0 : ∀ Dl, H Dl = none → Pv Dl 0 [] (upd H Dl (.lst [])))
    (hs : ∀ Dl i c acc H', H Dl = none → z.cps.toList[i]? = some c → H' Dl = some (.lst acc) → acc.length ≤ i → Pv Dl i acc H' → LcT g tt te vs σ Pv Dl i (.str ⟨#[c]⟩) H')
    (hd : ∀ Dl acc H', H Dl = none → H' Dl = some (.lst acc) → acc.length ≤ z.cps.toList.length → Pv Dl z.cps.toList.length acc H' → Q (.ref Dl) H') : LcJ (Its z) g tt te vs σ H Q := by
  intro Dl hD
  refine ⟨fun i m H' => m = z.cps.size - i ∧ i ≤ z.cps.size ∧ LcN Pv Dl i H', ⟨_, rfl, Nat.zero_le _, [], upd_same, Nat.zero_le _, h0 Dl hD⟩, ?_⟩
  rintro i m H1 ⟨rfl, hi, acc, h1, h2, h3⟩
  by_cases hlt : i < z.cps.size
  · refine .inr ⟨hlt, LcN Pv Dl (i + 1), fun H' p' => ⟨_, by omega, rfl, hlt, p'⟩, fun x H' y => ?_⟩
    obtain ⟨e, c, hc, e2⟩ := y
    subst e e2
    exact hs Dl i c acc _ hD (by rw [Array.getElem?_toList]; exact hc) h1 h2 h3
  · have e : i = z.cps.toList.length := by rw [Array.length_toList]; omega
    subst e
    exact .inl ⟨by rw [Array.length_toList] at hlt; exact Nat.le_of_not_lt hlt, hd Dl acc _ hD h1 h2 h3⟩
abbrev LcM (g : TG) (tt : TT) (te : TE) (vs : List Nat) (σ : St) (R : VK) (S : Hp → Prop) (x : V) (H' : Hp) : Prop :=
  g x (wipe σ vs) H' fun σ2 H2 => wipe σ2 vs = wipe σ vs ∧ tt σ2 H2 fun b H3 => if b = true then te σ2 H3 R else S H3
theorem lcS_map (f : Nat → V) (p : Nat → Bool) (hz : z.length ≤ 16777216)
    (hs : ∀ c H' R S, c ∈ z.cps.toList → Kp [] H H' → (p c = true → ∀ H4, Kp [] H' H4 → R (f c) H4) → (p c = false → ∀ H4, Kp [] H' H4 → S H4) → LcM g tt te vs σ R S (.str ⟨#[c]⟩) H')
    (hd : ∀ Dl H', H Dl = none → Kp [] H H' → H' Dl = some (.lst ((z.cps.toList.filter p).map f)) → Q (.ref Dl) H') : LcJ (Its z) g tt te vs σ H Q := by
  refine lcS (fun Dl i acc H' => Kp [] H H' ∧ acc = ((z.cps.toList.take i).filter p).map f) (fun Dl hD => ⟨Kp.new hD, rfl⟩) ?_ ?_
  · rintro Dl i c acc H' hD hc hacc hl ⟨e, rfl⟩
    have hi : i < z.cps.toList.length := (List.getElem?_eq_some_iff.mp hc).1
    have hz2 : z.cps.toList.length ≤ 16777216 := by rw [Array.length_toList]; exact hz
    refine hs c H' _ _ (List.mem_of_getElem? hc) e (fun hp H4 e4 => ?_) (fun hp H4 e4 => ?_)
    · exact lc_push (e4.at0 hacc) hl (by omega) ⟨(e.trans e4).fresh_mut hD, by rw [take_succ' hc, List.filter_append, List.map_append]; simp [hp]⟩
    · exact lc_skip (e4.at0 hacc) hl ⟨e.trans e4, by rw [take_succ' hc, List.filter_append, List.map_append]; simp [hp]⟩
  · rintro Dl acc H' hD hacc hl ⟨e, rfl⟩
    rw [List.take_length] at hacc
    exact hd Dl H' hD e hacc
theorem lcL_map {α : Type} {ys : List α} {u : α → V} (f : α → V) (p : α → Bool) (h : SqL K H a (ys.map u)) (hz : ys.length ≤ 16777216)
    (hs : ∀ y H' R S, y ∈ ys → Kp [] H H' → (p y = true → ∀ H4, Kp [] H' H4 → R (f y) H4) → (p y = false → ∀ H4, Kp [] H' H4 → S H4) → LcM g tt te vs σ R S (u y) H')
    (hd : ∀ Dl H', H Dl = none → Kp [] H H' → H' Dl = some (.lst ((ys.filter p).map f)) → Q (.ref Dl) H') : LcJ (Itl K a) g tt te vs σ H Q := by
  refine lcL (ys.map u) (fun Dl i acc H' => Kp [] H H' ∧ acc = ((ys.take i).filter p).map f) (fun Dl hD => ⟨Kp.new hD, rfl⟩) (fun Dl i acc H' hD e => SqL.kp e.1 h) ?_ ?_
  · rintro Dl i x acc H' hD hx hacc hl ⟨e, rfl⟩
    rw [List.getElem?_map] at hx
    obtain ⟨c, hc, rfl⟩ := Option.map_eq_some_iff.mp hx
    have hi : i < ys.length := (List.getElem?_eq_some_iff.mp hc).1
    refine hs c H' _ _ (List.mem_of_getElem? hc) e (fun hp H4 e4 => ?_) (fun hp H4 e4 => ?_)
    · exact lc_push (e4.at0 hacc) hl (by omega) ⟨(e.trans e4).fresh_mut hD, by rw [take_succ' hc, List.filter_append, List.map_append]; simp [hp]⟩
    · exact lc_skip (e4.at0 hacc) hl ⟨e.trans e4, by rw [take_succ' hc, List.filter_append, List.map_append]; simp [hp]⟩
  · rintro Dl acc H' hD hacc hl ⟨e, rfl⟩
    rw [List.length_map, List.take_length] at hacc
    exact hd Dl H' hD e hacc
theorem lcT_map {α : Type} {ys : List α} {u : α → V} (f : α → V) (p : α → Bool) (h : SqT K H a (ys.map u)) (hz : ys.length ≤ 16777216)
    (hs : ∀ y H' R S, y ∈ ys → Kp [] H H' → (p y = true → ∀ H4, Kp [] H' H4 → R (f y) H4) → (p y = false → ∀ H4, Kp [] H' H4 → S H4) → LcM g tt te vs σ R S (u y) H')
    (hd : ∀ Dl H', H Dl = none → Kp [] H H' → H' Dl = some (.lst ((ys.filter p).map f)) → Q (.ref Dl) H') : LcJ (Itt K a) g tt te vs σ H Q := by
  refine lcT (ys.map u) (fun Dl i acc H' => Kp [] H H' ∧ acc = ((ys.take i).filter p).map f) (fun Dl hD => ⟨Kp.new hD, rfl⟩) (fun Dl i acc H' hD e => SqT.kp e.1 h) ?_ ?_
  · rintro Dl i x acc H' hD hx hacc hl ⟨e, rfl⟩
    rw [List.getElem?_map] at hx
    obtain ⟨c, hc, rfl⟩ := Option.map_eq_some_iff.mp hx
    have hi : i < ys.length := (List.getElem?_eq_some_iff.mp hc).1
    refine hs c H' _ _ (List.mem_of_getElem? hc) e (fun hp H4 e4 => ?_) (fun hp H4 e4 => ?_)
    · exact lc_push (e4.at0 hacc) hl (by omega) ⟨(e.trans e4).fresh_mut hD, by rw [take_succ' hc, List.filter_append, List.map_append]; simp [hp]⟩
    · exact lc_skip (e4.at0 hacc) hl ⟨e.trans e4, by rw [take_succ' hc, List.filter_append, List.map_append]; simp [hp]⟩
  · rintro Dl acc H' hD hacc hl ⟨e, rfl⟩
    rw [List.length_map, List.take_length] at hacc
    exact hd Dl H' hD e hacc
theorem lcR_draw {α : Type} (f : α → V) (Pa : α → Prop) (B : Bx H b d) (hz : n ≤ 16777216)
    (hs : ∀ i H' R S, i < n → Kp [b] H H' → Bx H' b d → (∀ x H4, Pa x → Kp [b] H' H4 → Bx H4 b d → R (f x) H4) → LcM g tt te vs σ R S (.int (lo + (i : Nat))) H')
    (hd : ∀ Dl H' (as : List α), H Dl = none → as.length = n → (∀ x ∈ as, Pa x) → Kp [b] H H' → Bx H' b d → H' Dl = some (.lst (as.map f)) → Q (.ref Dl) H') : LcJ (Itr lo n) g tt te vs σ H Q := by
  refine lcR (fun Dl i acc H' => Kp [b] H H' ∧ Bx H' b d ∧ ∃ as : List α, acc = as.map f ∧ as.length = i ∧ ∀ x ∈ as, Pa x) (fun Dl hD => ⟨Kp.new hD, B.new hD, [], rfl, rfl, by simp⟩) ?_ ?_
  · rintro Dl i acc H' hD hi hacc hl ⟨e, B1, as, rfl, hlen, hP⟩
    have nD := B.ne_new hD
    refine hs i H' _ _ hi e B1 (fun x H4 hx e4 B4 => ?_)
    refine lc_push (e4.at1 nD.1 hacc) hl (by omega) ⟨(e.trans e4).fresh_mut hD, B4.other nD.1 nD.2, as ++ [x], by rw [List.map_append]; rfl, by rw [List.length_append, hlen]; rfl, fun y hy => ?_⟩
    rcases List.mem_append.mp hy with h | h
    · exact hP y h
    · rw [List.mem_singleton.mp h]; exact hx
  · rintro Dl acc H' hD hacc hl ⟨e, B1, as, rfl, hlen, hP⟩
    exact hd Dl H' as hD hlen hP e B1 hacc
end
theorem Bx.pick {H H1 H2 : Hp} {b d p : Addr} {xs : List V} {K : PySem.W.Frag} (B : Bx H b d) (N : New H p (.lst xs) H1) (e : Kp [b] H1 H2) : SqL K H2 p xs := .of (e.at1 (B.ne_new N.fr).1 N.at_)
theorem c_pick {K : PySem.W.Frag} {H : Hp} {a : Addr} {i : Int} {Q : VK} {xs : List V} (h : SqL K H a xs) (h0 : 0 ≤ i) (h1 : i < xs.length) (q : ∀ v ∈ xs, Q v H) : rIx K (.ref a) (.int i) H Q :=
  c_ixL h (atI_at h0 h1) (q _ (by
    rw [List.getD_eq_getElem?_getD, List.getElem?_eq_getElem (by omega)]
    exact List.getElem_mem _))
theorem c_pickM {α : Type} {K : PySem.W.Frag} {H : Hp} {a : Addr} {i : Int} {Q : VK} {u : α → V} (ys : List α) (h : SqL K H a (ys.map u)) (h0 : 0 ≤ i) (h1 : i < ys.length) (q : ∀ y ∈ ys, Q (u y) H) : rIx K (.ref a) (.int i) H Q :=
  c_pick h h0 (by rw [List.length_map]; exact h1) (fun v hv => by obtain ⟨y, hy, rfl⟩ := List.mem_map.mp hv; exact q y hy)
section
variable {K : PySem.W.Frag} {H : Hp} {Q : VK} {a b : Addr} {ns ms : List Int}
end
end Sa

namespace Sa
open PySem L2
section
variable {K : PySem.W.Frag} {H : Hp} {Q : VK} {a b : Addr} {ys zs : List Str}
def okS (z : Str) : Bool := PyData.strOk z
theorem dpAll_strs : ∀ ys : List Str, DpAll K H (ys.map V.str) (ys.map PyData.str)
  | [] => .nil
  | n :: r => .cons (.str n) (dpAll_strs r)
theorem dp_strs (h : SqL K H a (ys.map V.str)) : Dp K H (.ref a) (.list (ys.map PyData.str)) := .lst h (dpAll_strs ys)
theorem dp_strsT (h : SqT K H a (ys.map V.str)) : Dp K H (.ref a) (.tuple (ys.map PyData.str)) := .tup h (dpAll_strs ys)
theorem eqvAll_strs : ∀ ys zs : List Str, PyData.eqvAll (ys.map PyData.str) (zs.map PyData.str) = decide (ys = zs)
  | [], [] => by simp [PyData.eqvAll]
  | [], _ :: _ => by simp [PyData.eqvAll]
  | _ :: _, [] => by simp [PyData.eqvAll]
  | a :: r, b :: t => by
    simp only [List.map_cons, PyData.eqvAll, PyData.eqv, eqvAll_strs r t]
    by_cases h : a = b <;> by_cases h' : r = t <;> simp [h, h']
theorem layAll_strs : ∀ {ys : List Str}, (∀ y ∈ ys, okS y = true) → PyData.canLayAll0 (ys.map PyData.str) = true
  | [], _ => rfl
  | y :: r, h => by
    simp only [List.map_cons, PyData.canLayAll0, PyData.canLay0, Bool.and_eq_true]
    exact ⟨h y (List.mem_cons_self ..), layAll_strs fun z hz => h z (List.mem_cons_of_mem _ hz)⟩
theorem depthAll_strs : ∀ ys : List Str, PyData.depthAll (ys.map PyData.str) = 0
  | [] => rfl
  | y :: r => by simp [PyData.depthAll, PyData.depth, depthAll_strs r]
theorem shaped_strsL (h : ∀ y ∈ ys, okS y = true) : SeqAt.shaped (.list (ys.map PyData.str)) = true := by
  simp only [SeqAt.shaped, PyData.canLay0, PyData.depth, depthAll_strs, Bool.and_eq_true, decide_eq_true_eq]
  exact ⟨layAll_strs h, by omega⟩
theorem shaped_strsT (h : ∀ y ∈ ys, okS y = true) : SeqAt.shaped (.tuple (ys.map PyData.str)) = true := by
  simp only [SeqAt.shaped, PyData.canLay0, PyData.depth, depthAll_strs, Bool.and_eq_true, decide_eq_true_eq]
  exact ⟨layAll_strs h, by omega⟩
theorem c_eqTS (ha : SqT K H a (ys.map V.str)) (hb : SqT K H b (zs.map V.str)) (h1 : ∀ y ∈ ys, okS y = true) (h2 : ∀ y ∈ zs, okS y = true) (q : Q (.bl (decide (ys = zs))) H) : rEqU K (.ref a) (.ref b) H Q :=
  c_eqD (dp_strsT ha) (dp_strsT hb) (shaped_strsT h1) (shaped_strsT h2) (by rw [PyData.eqv, eqvAll_strs]; exact q)
end
theorem cps_app (a b : Str) : (a ++ b).cps.toList = a.cps.toList ++ b.cps.toList := by show (a.cps ++ b.cps).toList = _; rw [Array.toList_append]
theorem okS_iff {z : Str} : okS z = true ↔ ∀ c ∈ z.cps.toList, c < 1114112 := by
  unfold okS PyData.strOk
  rw [Array.all_eq_true_iff_forall_mem]
  simp [Array.mem_toList_iff]
section
variable {σ : St} {H : Hp} {Q : VK} {te : TE}
end
end Sa

namespace Sa
open PySem L2
section
variable {P : Program} {w : World} {K : PySem.W.Frag} {mg : Str → Option Value} {base : Heap}
theorem Tx.oex {fa : List He.Fa} {fn : List He.DefD} {fx : List Fx} (T : Tx fa fn fx K mg) (i : Nat) {x : Str} (h : fx[i]? = some (.oex x) := by rfl) : OexC K (He.ga K x) := oexB_ok (T.fx i h)
theorem Tx.xfc {fa : List He.Fa} {fn : List He.DefD} {fx : List Fx} (T : Tx fa fn fx K mg) (i : Nat) {x : Str} (h : fx[i]? = some (.xf x) := by rfl) : XfC K (He.ga K x) := xfB_ok (T.fx i h)
theorem Tx.cst {fa : List He.Fa} {fn : List He.DefD} {fx : List Fx} (T : Tx fa fn fx K mg) (i : Nat) {x : Str} {d : PyData} (h : fx[i]? = some (.cst x d) := by rfl) (H : Hp) : Dp K H (.ref (He.ga K x)) d := cst_ref (T.fx i h) H
def BodyX (P : Program) (w : World) (K : PySem.W.Frag) (mg : Str → Option Value) (base : Heap) (x : Str) (st : Stmt) (N : List Str) (k : Nat) (sp : Sp) : Prop :=
  ∀ (cdv : Value) (A : Around) (outer : List Env) (s : Shared) (H : Hp) (vs : List V) (Q : VK) (E : XK), sp vs H Q E → let X : Cx := cxOf (L2.CX P w) P w K mg base N x (defScope st) (He.ga K x) cdv A outer s H E
    Room k X.A → Takes X (fun cls d _ H => E cls d H) → ∃ t, PSs X (defBody st) t ∧ t { nx := fun _ H' => Q .non H', rt := Q } (start N vs) H
theorem def_ofX {fa : List He.Fa} {fn : List He.DefD} {fx : List Fx} (T : Tx fa fn fx K mg) (i j : Nat) {x : Str} {st : Stmt} {N ps : List Str} {k : Nat} {sp : Sp} (S : FnScope N ps (defScope st)) (B : BindN x st ps) (len : ∀ vs H Q E, sp vs H Q E → vs.length = ps.length)
    (body : BodyX P w K mg base x st N k sp) (hd : fn[i]? = some (dOf x st) := by rfl) (hg : fa[j]? = some (.glo x) := by rfl) : DefAt P w K mg base (L2.CX P w) x (k + 1) ps sp := by
  have gl := T.glo j hg
  obtain ⟨hp, X, G, c, _⟩ := T
  obtain ⟨fd, F⟩ := c.def_ i hd
  exact ⟨gl, F.kp, fd, F.ok S len fun cdv A outer s H vs Q E hr h => body cdv A outer s H vs Q E h hr (takes_of rfl rfl rfl rfl), F.bindsN B⟩
end
theorem passE0 {X : Cx} : Passes (L2.CX X.prog X.w) X E0 := fun pins σ H s e s' I h => by
  obtain ⟨_, _, _, _, _, _, _, _, _, _, _, _, z⟩ := h
  exact z.elim
section
variable {X : Cx} {x : Str} {k j : Nat} {ps : List Str} {sp : Sp} {W : WX} {p pos : Pos} {e : Expr} {es : List Expr} {t : TA}
theorem pe_callX (D : DefAt X.prog X.w X.K X.mg X.base (L2.CX X.prog X.w) x j ps sp) (hr : Room k X.A) (tk : Takes X W) (ha : PA X (e :: es) t) (hjk : j ≤ k := by decide) (hg : Gl X x := by rfl)
    (hdb : (x == ("__debug__" : Str)) = false := by decide) (he : starEach (e :: es) X.env = (false, eval e X.env) :: starEach es X.env := by rfl) (hpl : (backTo pos (starEach es X.env)).any (·.1) = false := by rfl) :
    PE X (.Call (.Name x p) (e :: es) [] pos) (tCallS sp (WE W) t) := by
  obtain ⟨fd, F, B⟩ := D.ok
  exact pe_callS (F.mono hjk) hr hg D.gl D.kp B (fun σ => passAt tk σ) ha hdb he hpl
theorem c_callX {H : Hp} {σ : St} {Q : VK} {tr : TA} (h : tr σ H fun vs H1 => sp vs H1 Q (WE W σ)) : tCallS sp (WE W) tr σ H Q := h
end
def dOfM (C m q : Str) (st : Stmt) : He.DefD := ⟨(C, some m), m, q, defArgs st, defBody st, defScope st, [], []⟩
def BindM (m q : Str) (st : Stmt) (ps : List Str) : Prop := ∀ (kV doc pm : Value) (an : Option Addr) (cdv ct : Value) (us : List Value), us.length = ps.length →
  bindArgs (PySem.W.fnOf m q (defArgs st) (defBody st) (defScope st) .none kV doc pm an cdv ct) ⟨us, []⟩ = pure (ps.zip us)
def clsStmts : Stmt → List Stmt
  | .ClassDef (body := b) .. => b
  | _ => []
def subAt (st : Stmt) (i : Nat) : Stmt := (clsStmts st).getD i (.Pass ⟨0, 0, 0, 0⟩)
section
variable {P : Program} {w : World} {K : PySem.W.Frag} {mg : Str → Option Value} {base : Heap}
structure MethAt (P : Program) (w : World) (K : PySem.W.Frag) (mg : Str → Option Value) (base : Heap) (CX : CXT) (C m : Str) (k : Nat) (ps : List Str) (sp : Sp) : Prop where
  me : Meth K (He.ga K C) m (He.ma K (He.ga K C) m)
  ok : ∃ fd, FnOk P w K mg base CX k (He.ma K (He.ga K C) m) fd ps sp ∧ Binds K fd ps []
def BodyM (P : Program) (w : World) (K : PySem.W.Frag) (mg : Str → Option Value) (base : Heap) (C m q : Str) (st : Stmt) (N : List Str) (k : Nat) (sp : Sp) : Prop :=
  ∀ (cdv : Value) (A : Around) (outer : List Env) (s : Shared) (H : Hp) (vs : List V) (Q : VK) (E : XK), sp vs H Q E → let X : Cx := (cxOf CX0 P w K mg base N q (defScope st) (He.ma K (He.ga K C) m) cdv A outer s H E).nox
    Room k X.A → ∃ t, PSs X (defBody st) t ∧ t { nx := fun _ H' => Q .non H', rt := Q } (start N vs) H
def BodyMX (P : Program) (w : World) (K : PySem.W.Frag) (mg : Str → Option Value) (base : Heap) (C m q : Str) (st : Stmt) (N : List Str) (k : Nat) (sp : Sp) : Prop :=
  ∀ (cdv : Value) (A : Around) (outer : List Env) (s : Shared) (H : Hp) (vs : List V) (Q : VK) (E : XK), sp vs H Q E → let X : Cx := cxOf (L2.CX P w) P w K mg base N q (defScope st) (He.ma K (He.ga K C) m) cdv A outer s H E
    Room k X.A → Takes X (fun cls d _ H => E cls d H) → ∃ t, PSs X (defBody st) t ∧ t { nx := fun _ H' => Q .non H', rt := Q } (start N vs) H
theorem meth_of {fa : List He.Fa} {fn : List He.DefD} {fx : List Fx} (T : Tx fa fn fx K mg) (i j : Nat) {C m q : Str} {st : Stmt} {N ps : List Str} {k : Nat} {sp : Sp} (S : FnScope N ps (defScope st)) (B : BindM m q st ps) (len : ∀ vs H Q E, sp vs H Q E → vs.length = ps.length)
    (body : BodyM P w K mg base C m q st N k sp) (hd : fn[i]? = some (dOfM C m q st) := by rfl) (hg : fa[j]? = some (.meth C m) := by rfl) : MethAt P w K mg base CX0 C m (k + 1) ps sp := by
  have me := He.meth_ok (T.fact j hg)
  obtain ⟨hp, X, G, c, _⟩ := T
  obtain ⟨fd, F⟩ := c.def_ i hd
  refine ⟨me, fd, F.ok S len fun cdv A outer s H vs Q E hr h => ?_, F.bindsN B⟩
  obtain ⟨t, h1, h2⟩ := body cdv A outer s H vs Q E h hr
  exact ⟨t, h1.nox, h2⟩
theorem meth_ofX {fa : List He.Fa} {fn : List He.DefD} {fx : List Fx} (T : Tx fa fn fx K mg) (i j : Nat) {C m q : Str} {st : Stmt} {N ps : List Str} {k : Nat} {sp : Sp} (S : FnScope N ps (defScope st)) (B : BindM m q st ps) (len : ∀ vs H Q E, sp vs H Q E → vs.length = ps.length)
    (body : BodyMX P w K mg base C m q st N k sp) (hd : fn[i]? = some (dOfM C m q st) := by rfl) (hg : fa[j]? = some (.meth C m) := by rfl) : MethAt P w K mg base (L2.CX P w) C m (k + 1) ps sp := by
  have me := He.meth_ok (T.fact j hg)
  obtain ⟨hp, X, G, c, _⟩ := T
  obtain ⟨fd, F⟩ := c.def_ i hd
  exact ⟨me, fd, F.ok S len fun cdv A outer s H vs Q E hr h => body cdv A outer s H vs Q E h hr (takes_of rfl rfl rfl rfl), F.bindsN B⟩
end
def spInit (K : PySem.W.Frag) (C : Addr) (f : Str) : Sp := fun vs H Q _ => ∃ (a : Addr) (v : V), vs = [.ref a, v] ∧ H a = some (exo a C none) ∧ ∀ dx, H dx = none → dx ≠ a → Q .non (upd (upd H dx (exd dx [(f, v)])) a (exo a C (some dx)))
theorem c_ost {K : PySem.W.Frag} {f : Str} {to te : TE} {D : Ends} {σ : St} {H : Hp} (h : te σ H fun y H1 => to σ H1 fun x H2 => ∃ a C : Addr, x = .ref a ∧ OexC K C ∧ PySem.W.findIn K (.ref C) f = some none ∧
  ((H2 a = some (exo a C none) ∧ ∀ dx, H2 dx = none → dx ≠ a → D.nx σ (upd (upd H2 dx (exd dx [(f, y)])) a (exo a C (some dx)))) ∨
    ∃ (dx : Addr) (fs : List (Str × V)), H2 a = some (exo a C (some dx)) ∧ H2 dx = some (exd dx fs) ∧ fs.length ≤ 900 ∧ D.nx σ (upd H2 dx (exd dx ((f, y) :: fs))))) : tOst K f to te D σ H := h
structure ErrC (P : Program) (w : World) (K : PySem.W.Frag) (mg : Str → Option Value) (base : Heap) (x f : Str) : Prop where
  gl : mg x = some (.ref (He.ga K x))
  cls : OexC K (He.ga K x)
  xf : XfC K (He.ga K x)
  no : PySem.W.findIn K (.ref (He.ga K x)) f = some none
  ok : ∃ ps, MethAt P w K mg base CX0 x "__init__" 2 ps (spInit K (He.ga K x) f)
def RaiseK (K : PySem.W.Frag) (x f : Str) (vs : List V) (H1 : Hp) (Q : XK) : Prop := vs.length ≤ 1000 ∧ ∀ a, H1 a = none → spInit K (He.ga K x) f (.ref a :: (vs ++ [])) (upd H1 a (exo a (He.ga K x) none))
  (fun v H2 => v = .non ∧ ∃ (d : Addr) (fs : List (Str × V)), H2 a = some (exo a (He.ga K x) (some d)) ∧ H2 d = some (exd d fs) ∧ H1 d = none ∧ Q (.ref (He.ga K x)) (some d) (upd (del H2 a) d (.xd fs))) (fun _ _ _ => False)
def tMkE (K : PySem.W.Frag) (x f : Str) (t : TA) : St → Hp → XK → Prop := fun σ H Q => t σ H fun vs H1 => RaiseK K x f vs H1 Q
def tRaiseE (K : PySem.W.Frag) (x f : Str) (W : WX) (t : TA) : TS := fun _ σ H => t σ H fun vs H1 => RaiseK K x f vs H1 fun cls d H' => W cls d σ H'
theorem c_err {K : PySem.W.Frag} {x f : Str} {v : V} {H1 : Hp} {Q : XK} (q : ∀ d H', New H1 d (.xd [(f, v)]) H' → Q (.ref (He.ga K x)) (some d) H') : RaiseK K x f [v] H1 Q := by
  refine ⟨by simp, fun a ha => ⟨a, v, rfl, upd_same, fun dx hdx hne => ⟨rfl, dx, [(f, v)], upd_same, ?_, ?_, ?_⟩⟩⟩
  · rw [upd_ne hne, upd_same]
  · rw [upd_ne hne] at hdx
    exact hdx
  · have hd1 : H1 dx = none := by rw [upd_ne hne] at hdx; exact hdx
    have e : upd (del (upd (upd (upd H1 a (exo a (He.ga K x) none)) dx (exd dx [(f, v)])) a (exo a (He.ga K x) (some dx))) a) dx (.xd [(f, v)]) = upd H1 dx (.xd [(f, v)]) := by
      funext b
      by_cases h1 : b = dx
      · rw [h1, upd_same, upd_same]
      · rw [upd_ne h1, upd_ne h1]
        by_cases h2 : b = a
        · rw [h2, del_same, ha]
        · rw [del_ne h2, upd_ne h2, upd_ne h1, upd_ne h2]
    rw [e]
    exact q dx _ ⟨hd1, rfl⟩
theorem c_raiseE {K : PySem.W.Frag} {x f : Str} {W : WX} {t : TA} {D : Ends} {σ : St} {H : Hp} (h : t σ H fun vs H1 => RaiseK K x f vs H1 fun cls d H' => W cls d σ H') : tRaiseE K x f W t D σ H := h
section
variable {X : Cx} {x f : Str} {k : Nat} {W : WX} {p pos pos2 : Pos} {e : Expr} {es : List Expr} {t : TA}
theorem pmk_err {K : PySem.W.Frag} (T : ErrC X.prog X.w X.K X.mg X.base x f) (hr : Room k X.A) (ha : PA X (e :: es) t) (hk : 3 ≤ k := by decide) (hK : X.K = K := by rfl) (hg : Gl X x := by rfl)
    (hdb : (x == ("__debug__" : Str)) = false := by decide) (he : starEach (e :: es) X.env = (false, eval e X.env) :: starEach es X.env := by rfl) (hpl : (backTo pos (starEach es X.env)).any (·.1) = false := by rfl) :
    PMk X (.Call (.Name x p) (e :: es) [] pos) (tMkE K x f t) := by
  subst hK
  obtain ⟨ps, M⟩ := T.ok
  obtain ⟨fd, F, B⟩ := M.ok
  have fnT : PySem.W.typeIn X.K (.ref (He.ma X.K (He.ga X.K x) "__init__")) = some (.type "function") := eq_of_beq M.me.fn
  exact pmk_oex (p := p) T.cls M.me.at_ fnT F (hr.mono hk) B .nil (fun _ _ _ _ _ _ _ h => h.elim) hg T.gl ha hdb he hpl
theorem ps_raiseE {K : PySem.W.Frag} (T : ErrC X.prog X.w X.K X.mg X.base x f) (hr : Room k X.A) (tk : Takes X W) (ha : PA X (e :: es) t) (hk : 3 ≤ k := by decide) (hK : X.K = K := by rfl) (hg : Gl X x := by rfl) (hc : X.calm = true := by rfl)
    (hdb : (x == ("__debug__" : Str)) = false := by decide) (he : starEach (e :: es) X.env = (false, eval e X.env) :: starEach es X.env := by rfl) (hpl : (backTo pos (starEach es X.env)).any (·.1) = false := by rfl) :
    PS X (.Raise (some (.Call (.Name x p) (e :: es) [] pos)) none pos2) (tRaiseE K x f W t) := ps_raise hc tk (pmk_err T hr ha hk hK hg hdb he hpl)
end
section
variable {K : PySem.W.Frag} {i : Nat} {ts : Addr → Value → Option Addr → TS} {Wout : WX} {D : Ends} {σ : St} {H : Hp} {cls : Value} {d : Option Addr} {c : Value}
theorem c_xf {a C : Addr} {f : Str} {te : TE} {Q : VK} (h : te σ H fun x H1 => x = .ref a ∧ cls = .ref C ∧ ∃ (dd : Addr) (fs : List (Str × V)) (v : V), d = some dd ∧ H1 dd = some (.xd fs) ∧ fs.lookup f = some v ∧ Q v H1) : tXf a cls d C f te σ H Q := h
end
section
variable {K : PySem.W.Frag} {H : Hp} {Q : VK} {a : Addr} {xs : List V} {T : String}
end
end Sa

namespace Sa
open PySem L2
structure Itn (J : It) (n : Nat) (ok : Hp → Prop) (Y : Nat → V → Hp → Hp → Prop) : Prop where
  go : ∀ i H, ok H → i < n → J.go i H
  stop : ∀ i H, ok H → n ≤ i → J.stop i H
  yld : ∀ i H x H', ok H → i < n → J.yld i H x H' → Y i x H H'
  kp : ∀ i x H H', Y i x H H' → Kp [] H H'
section
variable {K : PySem.W.Frag} {a : Addr} {α : Type} {ys : List α} {u : α → V} {lo c : Int} {n : Nat} {z : Str}
theorem itn_l : Itn (Itl K a) ys.length (fun H => SqL K H a (ys.map u)) (fun i x H H' => H' = H ∧ ∃ y, ys[i]? = some y ∧ x = u y) where
  go := fun i H ok hi => ⟨_, u (ys[i]), ok, by rw [List.getElem?_map, List.getElem?_eq_getElem hi]; rfl⟩
  stop := fun i H ok hi => ⟨_, ok, by rw [List.length_map]; exact hi⟩
  yld := fun i H x H' ok hi y => by
    obtain ⟨e, h⟩ := y
    have := h _ ok
    rw [List.getElem?_map] at this
    obtain ⟨y, h1, h2⟩ := Option.map_eq_some_iff.mp this
    exact ⟨e, y, h1, h2.symm⟩
  kp := fun i x H H' h => by rw [h.1]; exact Kp.refl
theorem itn_t : Itn (Itt K a) ys.length (fun H => SqT K H a (ys.map u)) (fun i x H H' => H' = H ∧ ∃ y, ys[i]? = some y ∧ x = u y) where
  go := fun i H ok hi => ⟨_, u (ys[i]), ok, by rw [List.getElem?_map, List.getElem?_eq_getElem hi]; rfl⟩
  stop := fun i H ok hi => ⟨_, ok, by rw [List.length_map]; exact hi⟩
  yld := fun i H x H' ok hi y => by
    obtain ⟨e, h⟩ := y
    have := h _ ok
    rw [List.getElem?_map] at this
    obtain ⟨y, h1, h2⟩ := Option.map_eq_some_iff.mp this
    exact ⟨e, y, h1, h2.symm⟩
  kp := fun i x H H' h => by rw [h.1]; exact Kp.refl
end
section
variable {K : PySem.W.Frag} {σ : St} {H : Hp} {g : TG} {tt : TT} {te : TE} {tb : TS} {Dn : Ends} {n : Nat} {Q : VK} {vs : List Nat} {J : It} {ok : Hp → Prop} {Y : Nat → V → Hp → Hp → Prop}
theorem lcQ (I : Itn J n ok Y) (Pv : Addr → Nat → List V → Hp → Prop) (h0 : ∀ Dl, H Dl = none → Pv Dl 0 [] (upd H Dl (.lst []))) (hok : ∀ Dl i acc H', H Dl = none → Pv Dl i acc H' → ok H')
    (hs : ∀ Dl i x acc H' H'', H Dl = none → i < n → H' Dl = some (.lst acc) → acc.length ≤ i → Pv Dl i acc H' → Y i x H' H'' → LcT g tt te vs σ Pv Dl i x H'')
    (hd : ∀ Dl acc H', H Dl = none → H' Dl = some (.lst acc) → acc.length ≤ n → Pv Dl n acc H' → Q (.ref Dl) H') : LcJ J g tt te vs σ H Q := by
  intro Dl hD
  refine ⟨fun i m H' => m = n - i ∧ i ≤ n ∧ LcN Pv Dl i H', ⟨_, rfl, Nat.zero_le _, [], upd_same, Nat.zero_le _, h0 Dl hD⟩, ?_⟩
  rintro i m H1 ⟨rfl, hi, acc, h1, h2, h3⟩
  have o := hok Dl i acc H1 hD h3
  by_cases hlt : i < n
  · exact .inr ⟨I.go i H1 o hlt, LcN Pv Dl (i + 1), fun H' p' => ⟨_, by omega, rfl, hlt, p'⟩, fun x H' y => hs Dl i x acc H1 H' hD hlt h1 h2 h3 (I.yld i H1 x H' o hlt y)⟩
  · have e : i = n := by omega
    subst e
    exact .inl ⟨I.stop i H1 o (Nat.le_refl _), hd Dl acc H1 hD h1 h2 h3⟩
theorem forQ (I : Itn J n ok Y) (Pv : Nat → St → Hp → Prop) (h0 : Pv 0 σ H) (hok : ∀ i σ H', Pv i σ H' → ok H')
    (hs : ∀ i x σ H' H'', i < n → Pv i σ H' → Y i x H' H'' → g x σ H'' fun σ2 H2 => tb { Dn with nx := Pv (i + 1), ct := Pv (i + 1), bk := Dn.nx } σ2 H2) (hd : ∀ σ H', Pv n σ H' → Dn.nx σ H') : ForJ J g tb Dn σ H := by
  refine ⟨fun i m σ H => m = n - i ∧ i ≤ n ∧ Pv i σ H, ⟨_, rfl, Nat.zero_le _, h0⟩, ?_⟩
  rintro i m σ H ⟨rfl, hi, p⟩
  have o := hok i σ H p
  by_cases hlt : i < n
  · exact .inr ⟨I.go i H o hlt, Pv (i + 1), fun σ' H' p' => ⟨_, by omega, rfl, hlt, p'⟩, fun x H' y => hs i x σ H H' hlt p (I.yld i H x H' o hlt y)⟩
  · have e : i = n := by omega
    subst e
    exact .inl ⟨I.stop i H o (Nat.le_refl _), hd σ H p⟩
end
section
variable {K : PySem.W.Frag} {σ : St} {H : Hp} {g : TG} {tt : TT} {te : TE} {tb : TS} {ta : TA} {D : Ends} {n : Nat} {Q : VK} {vs : List Nat} {R : It → Hp → Prop} {a : Addr} {xs : List V}
theorem c_rng3 (h : ta σ H fun vs H1 => ∃ (i j c : Int) (n : Nat), vs = [.int i, .int j, .int c] ∧ RgC i j c n ∧ R (Itc i c n) H1) : iRng3 ta σ H R := h
theorem c_enum (h : ta σ H fun vs H1 => ∃ a xs, vs = [.ref a] ∧ SqL K H1 a xs ∧ R (Ite K a) H1) : iEnum K ta σ H R := h
end
end Sa

namespace Sa
open PySem L2
def FldK (K : PySem.W.Frag) (f : Str) (x : V) (H : Hp) (Q : VK) : Prop := ∃ a C dx fs v, x = .ref a ∧ H a = some (.ins C dx fs) ∧ Cls K C ∧ NoAttr K C f ∧ fs.lookup f = some v ∧ Q v H
def tFldU (K : PySem.W.Frag) (ta : TE) (f : Str) : TE := fun σ H Q => ta σ H fun x H1 => FldK K f x H1 Q
def SetFldK (K : PySem.W.Frag) (f : Str) (x y : V) (H : Hp) (R : Hp → Prop) : Prop := ∃ a C dx fs, x = .ref a ∧ H a = some (.ins C dx fs) ∧ Cls K C ∧ NoAttr K C f ∧ fs.length < 1000 ∧ R (upd H a (.ins C dx (putF f y fs)))
def sFldU (K : PySem.W.Frag) (ta tv : TE) (f : Str) : TS := fun D σ H => tv σ H fun y H1 => ta σ H1 fun x H2 => SetFldK K f x y H2 fun H3 => D.nx σ H3
section
variable {X : Cx} {K : PySem.W.Frag} {σ : St} {H : Hp} {Q : VK} {D : Ends} {o e value : Expr} {ta tv : TE} {f : Str} {pos pos' : Pos} {a C dx : Addr} {fs : List (Str × V)} {v : V} {R : Hp → Prop}
theorem pe_fldU (he : PE X e ta) (hK : X.K = K := by rfl) (hb : attributeBase e f X.env (eval e X.env) = eval e X.env := by rfl) : PE X (.Attribute e f pos) (tFldU K ta f) := by
  subst hK
  exact pe_fld he hb
theorem ps_fldU (ha : PE X o ta) (hv : PE X value tv) (hK : X.K = K := by rfl) (hs : swapsWith value (some (.Attribute o f pos')) pos.line X.env = pure false := by rfl) : PS X (.Assign [.Attribute o f pos'] value pos) (sFldU K ta tv f) := by
  subst hK
  exact ps_fld ha hv hs
theorem c_fld (h : ta σ H fun x H1 => FldK K f x H1 Q) : tFldU K ta f σ H Q := h
theorem c_fldAt (h : H a = some (.ins C dx fs)) (c : Cls K C) (n : NoAttr K C f) (l : fs.lookup f = some v) (q : Q v H) : FldK K f (.ref a) H Q := ⟨a, C, dx, fs, v, rfl, h, c, n, l, q⟩
theorem c_setF (h : tv σ H fun y H1 => ta σ H1 fun x H2 => SetFldK K f x y H2 fun H3 => D.nx σ H3) : sFldU K ta tv f D σ H := h
theorem c_setFAt (h : H a = some (.ins C dx fs)) (c : Cls K C) (n : NoAttr K C f) (l : fs.length < 1000) (q : R (upd H a (.ins C dx (putF f v fs)))) : SetFldK K f (.ref a) v H R := ⟨a, C, dx, fs, rfl, h, c, n, l, q⟩
end
structure ClsAt (K : PySem.W.Frag) (mg : Str → Option Value) (x : Str) : Prop where
  gl : mg x = some (.ref (He.ga K x))
  cls : Cls K (He.ga K x)
def RecvK (K : PySem.W.Frag) (C m : Str) (x : V) (H : Hp) (R : Hp → Prop) : Prop := ∃ a dx fs, x = .ref a ∧ H a = some (.ins (He.ga K C) dx fs) ∧ fs.lookup m = none ∧ R H
def tMethA (K : PySem.W.Frag) (C m : Str) (sp : Sp) (E : St → XK) (ta : TE) (t : TA) : TE := fun σ H Q => ta σ H fun x H1 => RecvK K C m x H1 fun H2 => t σ H2 fun vs H3 => sp (x :: vs) H3 Q (E σ)
section
variable {X : Cx} {CX : CXT} {K : PySem.W.Frag} {C m : Str} {k j : Nat} {ps : List Str} {sp : Sp} {E : St → XK} {W : WX} {apos pos : Pos} {o e : Expr} {es : List Expr} {ta : TE} {t : TA} {pl : Sem Bool}
theorem pe_methS1 (M : MethAt X.prog X.w X.K X.mg X.base CX C m j ps sp) (c : ClsAt X.K X.mg C) (hr : Room k X.A) (hx : ∀ σ, PassesAt CX X σ (E σ)) (ho : PE X o ta) (ha : PA X (e :: es) t) (hjk : j ≤ k := by decide) (hK : X.K = K := by rfl)
    (hst : starEach (e :: es) X.env = (false, eval e X.env) :: starEach es X.env := by rfl) (hpl : (backTo pos (starEach es X.env)).any (·.1) = false := by rfl)
    (ht : eval (.Call (.Attribute o m apos) (e :: es) [] pos) X.env = (do
      let ov ← eval o X.env
      standAt apos.atName
      let (f, first) ← holding [ov] (getMethod ov m pl)
      callWith pos f first (backTo pos (starEach (e :: es) X.env)) (backToKw pos (keywordEach [] X.env))) := by rfl) :
    PE X (.Call (.Attribute o m apos) (e :: es) [] pos) (tMethA K C m sp E ta t) := by
  subst hK
  obtain ⟨fd, F, B⟩ := M.ok
  refine ⟨fun pins s σ H Q I h => ?_⟩
  refine PySem.W.methodCall_KW (pl := pl) (thn (ho.run pins s σ H _ I h) fun u s1 ⟨x, H1, I1, rx, a, dx, fs, ex, ea, l, q⟩ => ?_) ht
  subst ex
  obtain rfl : u = Value.ref a := rx
  refine getmeth_ok I1 ea c.cls M.me l (PySem.W.callWith_K (first := [.ref a]) (h₀ := X.base) I.ok.mod.kin M.me.kp (thn (ha.run pos pins s1 σ H1 _ I1 q) fun us s2 ⟨vs, H2, I2, r, q2⟩ => ⟨I2.kIn, ?_⟩) hst hpl)
  exact run_fnS (us := .ref a :: us) (vs := .ref a :: vs) (F.mono hjk) hr B (hx σ) I2 (.cons rfl r) q2
theorem pe_methS0 (M : MethAt X.prog X.w X.K X.mg X.base CX C m j ps sp) (c : ClsAt X.K X.mg C) (hr : Room k X.A) (hx : ∀ σ, PassesAt CX X σ (E σ)) (ho : PE X o ta) (hjk : j ≤ k := by decide) (hK : X.K = K := by rfl)
    (ht : eval (.Call (.Attribute o m apos) [] [] pos) X.env = (do
      let ov ← eval o X.env
      standAt apos.atName
      let (f, first) ← holding [ov] (getMethod ov m pl)
      callWith pos f first (backTo pos (starEach [] X.env)) (backToKw pos (keywordEach [] X.env))) := by rfl) :
    PE X (.Call (.Attribute o m apos) [] [] pos) (tMethA K C m sp E ta tNil) := by
  subst hK
  obtain ⟨fd, F, B⟩ := M.ok
  refine ⟨fun pins s σ H Q I h => ?_⟩
  refine PySem.W.methodCall_KW (pl := pl) (thn (ho.run pins s σ H _ I h) fun u s1 ⟨x, H1, I1, rx, a, dx, fs, ex, ea, l, q⟩ => ?_) ht
  subst ex
  obtain rfl : u = Value.ref a := rx
  exact getmeth_ok I1 ea c.cls M.me l (PySem.W.callWith_K0 (first := [.ref a]) I1.kIn M.me.kp (run_fnS (us := [.ref a]) (vs := [.ref a]) (F.mono hjk) hr B (hx σ) I1 (.cons rfl .nil) q))
end
theorem at0 {X : Cx} : ∀ σ : St, PassesAt CX0 X σ E0 := fun _ _ _ _ _ _ _ h => h.elim
theorem atW {X : Cx} {W : WX} (tk : Takes X W) : ∀ σ : St, PassesAt (L2.CX X.prog X.w) X σ (WE W σ) := fun σ => passAt tk σ
section
variable {K : PySem.W.Frag} {C m : Str} {σ : St} {H : Hp} {Q : VK} {sp : Sp} {E : St → XK} {ta : TE} {t : TA} {a dx : Addr} {fs : List (Str × V)} {R : Hp → Prop}
theorem c_meth (h : ta σ H fun x H1 => RecvK K C m x H1 fun H2 => t σ H2 fun vs H3 => sp (x :: vs) H3 Q (E σ)) : tMethA K C m sp E ta t σ H Q := h
theorem c_recv (h : H a = some (.ins (He.ga K C) dx fs)) (l : fs.lookup m = none) (q : R H) : RecvK K C m (.ref a) H R := ⟨a, dx, fs, rfl, h, l, q⟩
end
def NewK (K : PySem.W.Frag) (C : Str) (sp : Sp) (vs : List V) (H1 : Hp) (Q : VK) (E : XK) : Prop := ∀ x dx, H1 x = none → H1 dx = none → dx ≠ x →
  sp (.ref x :: vs) (upd (upd H1 dx (.own x)) x (.ins (He.ga K C) dx [])) (fun v H2 => v = .non ∧ Q (.ref x) H2) E
def tNewA (K : PySem.W.Frag) (C : Str) (sp : Sp) (E : St → XK) (t : TA) : TE := fun σ H Q => t σ H fun vs H1 => NewK K C sp vs H1 Q (E σ)
theorem c_newA {K : PySem.W.Frag} {C : Str} {sp : Sp} {E : St → XK} {t : TA} {σ : St} {H : Hp} {Q : VK} (h : t σ H fun vs H1 => NewK K C sp vs H1 Q (E σ)) : tNewA K C sp E t σ H Q := h
section
variable {X : Cx} {CX : CXT} {K : PySem.W.Frag} {C : Str} {k j : Nat} {ps : List Str} {sp : Sp} {E : St → XK} {p pos : Pos} {e : Expr} {es : List Expr} {t : TA}
theorem pe_newS (M : MethAt X.prog X.w X.K X.mg X.base CX C "__init__" j ps sp) (mk : Mk X.K (He.ga X.K C) (He.ma X.K (He.ga X.K C) "__init__")) (c : ClsAt X.K X.mg C) (hr : Room (k + 1) X.A) (hx : ∀ σ, PassesAt CX X σ (E σ)) (ha : PA X (e :: es) t)
    (hjk : j ≤ k := by decide) (hK : X.K = K := by rfl) (hg : Gl X C := by rfl)
    (hdb : (C == ("__debug__" : Str)) = false := by decide) (he : starEach (e :: es) X.env = (false, eval e X.env) :: starEach es X.env := by rfl) (hpl : (backTo pos (starEach es X.env)).any (·.1) = false := by rfl) :
    PE X (.Call (.Name C p) (e :: es) [] pos) (tNewA K C sp E t) := by
  subst hK
  obtain ⟨fd, F0, B⟩ := M.ok
  have F := F0.mono hjk
  refine ⟨fun pins s σ H Q I h => ?_⟩
  refine wpAny_Call_Name_kw (ld_glob I hg c.gl ?_ hdb)
  refine PySem.W.callWith_K (h₀ := X.base) I.ok.mod.kin mk.kp (thn (ha.run pos pins s σ H _ I h) fun us s1 ⟨vs, H1, I1, r, q⟩ => ⟨I1.kIn, ?_⟩) he hpl
  have hq := q (s1.heap.objs.size + 1) s1.heap.objs.size (I1.hok.fresh (Nat.le_succ _)) (I1.hok.fresh (Nat.le_refl _)) (Nat.ne_of_lt (Nat.lt_succ_self _))
  have I2 := Inv.made (C := He.ga X.K C) I1
  have r2 : Vals (V.ref (s1.heap.objs.size + 1) :: vs) (Value.ref (s1.heap.objs.size + 1) :: us) := .cons rfl r
  have hl : ((Value.ref (s1.heap.objs.size + 1) :: us) ++ []).length = ps.length := by
    rw [List.append_nil, ← r2.length]
    exact F.len _ _ _ _ hq
  have b := B _ (Value.ref (s1.heap.objs.size + 1) :: us) I2.kIn hl
  rw [List.append_nil] at b
  refine wpAny_call (make_map (f := He.ma X.K (He.ga X.K C) "__init__") I1.kIn mk.makes mk.init (beq_iff_eq.mp mk.fn) (codeAny_mono (F.run _ X.stack _ _ ⟨Value.ref (s1.heap.objs.size + 1) :: us, []⟩ (Value.ref (s1.heap.objs.size + 1) :: us) _ _ (E σ)
    (hr.make (He.ga X.K C) us []) (I2.env0.make (He.ga X.K C) us []) b r2 hq) fun rr s' hq' => ?_))
  cases rr with
  | error er => exact hx σ pins _ _ er s' I2 hq'
  | ok fl =>
    cases fl with
    | ret u =>
      obtain ⟨v, H', I3, rv, ev, q3⟩ := I2.after hq'
      subst ev
      exact ⟨rv, ⟨V.ref (s1.heap.objs.size + 1), H', I3, rfl, q3⟩⟩
    | next => exact False.elim hq'
    | brk => exact False.elim hq'
    | cont => exact False.elim hq'
end
end Sa

namespace Sa
open PySem PySem.Spec L2
structure Cl where
  c : Value
  i : Option Nat
  ts : Addr → Value → Option Addr → TS
inductive ClsOk (X : Cx) : List ExceptHandler → List Cl → Prop
  | nil : ClsOk X [] []
  | bare {x : Str} {c : Value} {ts : Addr → Value → Option Addr → TS} {b₀ : Stmt} {suite : List Stmt} {np pos' : Pos} {hds : List ExceptHandler} {l : List Cl} (hc : Names X x c)
      (hsu : ∀ (a : Addr) (oe : Obj) (cls : Value) (d : Option Addr) (pn : List (Addr × Obj)), Zc cls d oe → (∃ vs, oe.data = .fields vs) → PSs (X.suite a ((a, oe) :: pn)) (b₀ :: suite) (ts a cls d)) (r : ClsOk X hds l) :
      ClsOk X (.ExceptHandler (some (.Name x np)) none (b₀ :: suite) pos' :: hds) (⟨c, none, ts⟩ :: l)
  | named {x n : Str} {i : Nat} {c : Value} {ts : Addr → Value → Option Addr → TS} {b₀ : Stmt} {suite : List Stmt} {np pos' : Pos} {hds : List ExceptHandler} {l : List Cl} (hi : X.N[i]? = some n) (hln : X.env.kindOf n = some .local) (hc : Names X x c)
      (hsu : ∀ (a : Addr) (oe : Obj) (cls : Value) (d : Option Addr) (pn : List (Addr × Obj)), Zc cls d oe → (∃ vs, oe.data = .fields vs) → PSs (X.suite a ((a, oe) :: pn)) (b₀ :: suite) (ts a cls d)) (r : ClsOk X hds l) :
      ClsOk X (.ExceptHandler (some (.Name x np)) (some n) (b₀ :: suite) pos' :: hds) (⟨c, some i, ts⟩ :: l)
section
variable {X : Cx} {body : List Stmt} {h₀ : ExceptHandler} {hds : List ExceptHandler} {l : List Cl} {pos : Pos} {tb : WX → TS} {Wout : WX}
end
section
variable {K : PySem.W.Frag} {Wout : WX} {D : Ends} {σ : St} {H : Hp} {cls : Value} {d : Option Addr} {q : Cl} {r : List Cl}
end
end Sa

namespace Sa
open PySem PySem.Spec
def stepT (σ : List Str) (v : Str) : List Str := if σ.any (· == v) then σ else σ ++ [v]
def ded (xs : List Str) : List Str := xs.foldl stepT []
section
open PyProof.Rows
variable {prog : Program} {w : World} {A : Around} {R : Result → Shared → Prop} {I : Addr} {fp wr : List Addr} {G : Array GenState → Array GenState → Prop} {n : Nat} {P : Nat → Value → Prop} {St : Nat → Shared → Prop}
end
section
variable {prog : Program} {w : World} {A : Around} {E : Value → Shared → Prop} {s : Shared}
set_option maxRecDepth 100000 in
set_option maxHeartbeats 3200000 in
end
end Sa

namespace Sa
open PySem L2
def tLenSetU (K : PySem.W.Frag) (ta : TE) : TE := fun σ H Q => ta σ H fun x H1 => ∃ (l : Addr) (xs : List Str), x = .ref l ∧ SqL K H1 l (xs.map V.str) ∧ xs.length ≤ 1000 ∧ Q (.int (ded xs).length) H1
theorem c_lenSet {K : PySem.W.Frag} {ta : TE} {σ : St} {H : Hp} {Q : VK} (h : ta σ H fun x H1 => ∃ (l : Addr) (xs : List Str), x = .ref l ∧ SqL K H1 l (xs.map V.str) ∧ xs.length ≤ 1000 ∧ Q (.int (ded xs).length) H1) : tLenSetU K ta σ H Q := h
def Sq (K : PySem.W.Frag) (H : Hp) (a : Addr) (xs : List V) : Prop := SqL K H a xs ∨ SqT K H a xs
def iSeq (K : PySem.W.Frag) (te : TE) : TI := fun σ H R => te σ H fun x H1 => ∃ a, x = .ref a ∧ (((∃ xs, SqL K H1 a xs) ∧ R (Itl K a) H1) ∨ ((∃ xs, SqT K H1 a xs) ∧ R (Itt K a) H1))
section
variable {K : PySem.W.Frag} {σ : St} {H : Hp} {R : It → Hp → Prop} {te : TE} {a : Addr} {xs : List V} {g : TG} {tt : TT} {tb : TS} {D : Ends} {vs : List Nat} {Q : VK}
theorem c_iSeq (h : te σ H fun x H1 => ∃ a, x = .ref a ∧ (((∃ xs, SqL K H1 a xs) ∧ R (Itl K a) H1) ∨ ((∃ xs, SqT K H1 a xs) ∧ R (Itt K a) H1))) : iSeq K te σ H R := h
end
def rSortedDU : List V → Hp → VK → Prop := fun xs H Q => ∃ (a : Addr) (kvs : List (Key × V)) (ks : List Str), xs = [.ref a] ∧ Rd H a (.dK kvs) ∧ kvs.map (·.1) = ks.map Sum.inr ∧ ks.length < 64 ∧ ∀ ys p, ys.Perm ks → PyProof.Rows.sortedS ys = true → H p = none → Q (.ref p) (upd H p (.lst (ys.map V.str)))
theorem cr_sortedDU {X : Cx} (hc : X.calm = true) : CallR X (.builtin "sorted") rSortedDU := call_sortedD hc
theorem c_dget {td ty : TE} {σ : St} {H : Hp} {Q : VK} (h : td σ H fun x H1 => ty σ H1 fun y H2 => ∃ a v, x = .ref a ∧ DGet H2 a y (some v) ∧ Q v H2) : tDGet td ty σ H Q := h
theorem c_dget1 {td ty : TE} {σ : St} {H : Hp} {Q : VK} (h : td σ H fun x H1 => ∃ a, x = .ref a ∧ IsD H1 a ∧ ty σ H1 fun y H2 => ∃ o, DGet H2 a y o ∧ Q (o.getD .non) H2) : tDGet1 td ty σ H Q := h
end Sa

namespace Sa
open PySem L2
def leS (a b : Str) : Prop := ¬ (b.cps.toList < a.cps.toList)
instance (a b : Str) : Decidable (leS a b) := inferInstanceAs (Decidable (¬ _))
theorem str_ext {a b : Str} (h : a.cps.toList = b.cps.toList) : a = b := by
  cases a; cases b
  congr 1
  exact Array.toList_inj.mp h
theorem leS_antisymm {a b : Str} (h1 : leS a b) (h2 : leS b a) : a = b := str_ext (List.le_antisymm (List.not_lt.mp h1) (List.not_lt.mp h2))
theorem leS_trans {a b c : Str} (h1 : leS a b) (h2 : leS b c) : leS a c := List.not_lt.mpr (List.le_trans (List.not_lt.mp h1) (List.not_lt.mp h2))
theorem leS_of_lt {a b : Str} (h : a.cps.toList < b.cps.toList) : leS a b := List.not_lt.mpr (List.le_of_lt h)
theorem rising_pair : ∀ (p : Str) (l : List Str), PyProof.Rows.risingS p l = true → (p :: l).Pairwise leS
  | p, [], _ => List.pairwise_singleton ..
  | p, x :: r, h => by
    unfold PyProof.Rows.risingS at h
    rw [Bool.and_eq_true, PyProof.Rows.ltCps_eq, Bool.not_eq_true', decide_eq_false_iff_not] at h
    have ih := rising_pair x r h.2
    refine List.pairwise_cons.mpr ⟨fun y hy => ?_, ih⟩
    rcases List.mem_cons.mp hy with e | hy
    · subst e; exact h.1
    · exact leS_trans h.1 ((List.pairwise_cons.mp ih).1 y hy)
theorem sorted_pair {l : List Str} (h : PyProof.Rows.sortedS l = true) : l.Pairwise leS := by
  cases l with
  | nil => exact .nil
  | cons x r => exact rising_pair x r h
theorem sorted_eq : ∀ {ys zs : List Str}, ys.Perm zs → ys.Pairwise leS → zs.Pairwise leS → ys = zs
  | [], zs, hp, _, _ => (List.Perm.nil_eq hp)
  | y :: r, [], hp, _, _ => by have := hp.length_eq; simp at this
  | y :: r, z :: t, hp, h1, h2 => by
    obtain ⟨a1, a2⟩ := List.pairwise_cons.mp h1
    obtain ⟨b1, b2⟩ := List.pairwise_cons.mp h2
    have e : y = z := by
      have m1 : y ∈ z :: t := hp.subset (List.mem_cons_self ..)
      have m2 : z ∈ y :: r := hp.symm.subset (List.mem_cons_self ..)
      rcases List.mem_cons.mp m1 with e | m1
      · exact e
      rcases List.mem_cons.mp m2 with e | m2
      · exact e.symm
      exact leS_antisymm (a1 z m2) (b1 y m1)
    subst e
    rw [sorted_eq (List.perm_cons y |>.mp hp) a2 b2]
section
variable {β : Type}
def insF (x : Str × β) : List (Str × β) → List (Str × β)
  | [] => [x]
  | y :: r => if x.1.cps.toList < y.1.cps.toList then x :: y :: r else y :: insF x r
def sortF (fs : List (Str × β)) : List (Str × β) := fs.foldr insF []
theorem insF_perm (x : Str × β) : ∀ fs : List (Str × β), (insF x fs).Perm (x :: fs)
  | [] => .refl _
  | y :: r => by
    unfold insF
    split
    · exact .refl _
    · exact ((insF_perm x r).cons y).trans (.swap ..)
theorem sortF_perm : ∀ fs : List (Str × β), (sortF fs).Perm fs
  | [] => .refl _
  | x :: r => (insF_perm x (sortF r)).trans ((sortF_perm r).cons x)
def Asc (fs : List (Str × β)) : Prop := (fs.map Prod.fst).Pairwise leS
theorem insF_asc (x : Str × β) : ∀ {fs : List (Str × β)}, Asc fs → Asc (insF x fs)
  | [], _ => List.pairwise_singleton ..
  | y :: r, h => by
    obtain ⟨h1, h2⟩ := List.pairwise_cons.mp (show (y.1 :: r.map Prod.fst).Pairwise leS from h)
    unfold insF
    split
    · rename_i hlt
      refine List.pairwise_cons.mpr ⟨fun z hz => ?_, h⟩
      rcases List.mem_cons.mp hz with e | hz
      · subst e; exact leS_of_lt hlt
      · exact leS_trans (leS_of_lt hlt) (h1 z hz)
    · rename_i hlt
      refine List.pairwise_cons.mpr ⟨fun z hz => ?_, insF_asc x (fs := r) h2⟩
      have : z ∈ (x :: r).map Prod.fst := ((insF_perm x r).map Prod.fst).subset hz
      rcases List.mem_cons.mp this with e | hz
      · subst e; exact hlt
      · exact h1 z hz
theorem sortF_asc : ∀ fs : List (Str × β), Asc (sortF fs)
  | [] => .nil
  | x :: r => insF_asc x (sortF_asc r)
theorem sorted_keys {fs : List (Str × β)} {ys : List Str} (h : ys.Perm (fs.map Prod.fst)) (hs : PyProof.Rows.sortedS ys = true) : ys = (sortF fs).map Prod.fst :=
  sorted_eq (h.trans ((sortF_perm fs).map Prod.fst).symm) (sorted_pair hs) (sortF_asc fs)
def Once (fs : List (Str × β)) : Prop := (fs.map Prod.fst).Nodup
def at? (fs : List (Str × β)) (p : Str) : Option β := (fs.find? fun f => decide (f.1 = p)).map Prod.snd
end
end Sa

namespace Sa
open PySem L2
section
variable {K : PySem.W.Frag} {σ : St} {H : Hp} {wi : TI} {g : TG} {tt : TT} {tk tv : TE} {n : Nat} {Q : VK} {vs : List Nat} {J : It} {ok : Hp → Prop} {Y : Nat → V → Hp → Hp → Prop}
def DcJ (J : It) (g : TG) (tt : TT) (tk tv : TE) (vs : List Nat) (σ : St) (H1 : Hp) (Q : VK) : Prop := ∀ D, H1 D = none → ∃ W : Nat → Nat → Hp → Prop, (∃ m, W 0 m (upd H1 D (.dK []))) ∧ ∀ i m H, W i m H →
  (J.stop i H ∧ Q (.ref D) H) ∨ (J.go i H ∧ ∃ Nx : Hp → Prop, (∀ H', Nx H' → ∃ m', m' < m ∧ W (i + 1) m' H') ∧ ∀ x H', J.yld i H x H' → g x (wipe σ vs) H' fun σ2 H2 => wipe σ2 vs = wipe σ vs ∧ tt σ2 H2 fun b H3 =>
    if b = true then tk σ2 H3 fun y H4 => tv σ2 H4 fun z H5 => ∃ kvs k, y = kV k ∧ H5 D = some (.dK kvs) ∧ kvs.length < sizeLine ∧ Nx (upd H5 D (.dK (putK kvs k z))) else Nx H3)
theorem c_dc (h : wi σ H fun J H1 => DcJ J g tt tk tv vs σ H1 Q) : tDc wi g tt tk tv vs σ H Q := h
abbrev DcM (g : TG) (tt : TT) (tk tv : TE) (vs : List Nat) (σ : St) (R : V → V → Hp → Prop) (S : Hp → Prop) (x : V) (H' : Hp) : Prop :=
  g x (wipe σ vs) H' fun σ2 H2 => wipe σ2 vs = wipe σ vs ∧ tt σ2 H2 fun b H3 => if b = true then tk σ2 H3 fun y H4 => tv σ2 H4 fun z H5 => R y z H5 else S H3
end
section
variable {K : PySem.W.Frag} {σ : St} {H : Hp} {g : TG} {tt : TT} {te tk tv : TE} {tb : TS} {D : Ends} {Q : VK} {vs : List Nat} {a : Addr} {α : Type} {ys : List α} {u : α → V}
abbrev Yq (ys : List α) (u : α → V) : Nat → V → Hp → Hp → Prop := fun i x H H' => H' = H ∧ ∃ y, ys[i]? = some y ∧ x = u y
end
abbrev File := Str × List Str
abbrev RowA := Addr × Addr × File
structure RowOk (K : PySem.W.Frag) (H : Hp) (r : RowA) : Prop where
  row : SqT K H r.1 [.str r.2.2.1, .ref r.2.1]
  lines : SqT K H r.2.1 (r.2.2.2.map V.str)
theorem RowOk.kp {K : PySem.W.Frag} {H H' : Hp} {r : RowA} (h : RowOk K H r) (e : Kp [] H H') : RowOk K H' r := ⟨SqT.kp e h.row, SqT.kp e h.lines⟩
def RowsAt (K : PySem.W.Frag) (H : Hp) (a : Addr) (fs : List File) : Prop := ∃ rs : List RowA, Sq K H a (rs.map fun r => V.ref r.1) ∧ rs.map (fun r => r.2.2) = fs ∧ ∀ r ∈ rs, RowOk K H r
theorem Sq.kp {K : PySem.W.Frag} {H H' : Hp} {a : Addr} {xs : List V} (h : Sq K H a xs) (e : Kp [] H H') : Sq K H' a xs := h.imp (SqL.kp e) (SqT.kp e)
theorem RowsAt.kp {K : PySem.W.Frag} {H H' : Hp} {a : Addr} {fs : List File} (h : RowsAt K H a fs) (e : Kp [] H H') : RowsAt K H' a fs := by
  obtain ⟨rs, h1, h2, h3⟩ := h
  exact ⟨rs, Sq.kp h1 e, h2, fun r hr => (h3 r hr).kp e⟩
def TreeAt (K : PySem.W.Frag) (H : Hp) (a : Addr) (fs : List File) : Prop := ∃ (dx d : Addr) (ls : List (Addr × File)), H a = some (.ins (He.ga K "Tree") dx [("_files", .ref d)]) ∧
  H d = some (.dK (ls.map fun l => (Sum.inr l.2.1, V.ref l.1))) ∧ (∀ l ∈ ls, SqT K H l.1 (l.2.2.map V.str)) ∧ Once (ls.map Prod.snd) ∧ fs = sortF (ls.map Prod.snd)
theorem TreeAt.kp {K : PySem.W.Frag} {H H' : Hp} {a : Addr} {fs : List File} (h : TreeAt K H a fs) (e : Kp [] H H') : TreeAt K H' a fs := by
  obtain ⟨dx, d, ls, h1, h2, h3, h4, h5⟩ := h
  exact ⟨dx, d, ls, e.at0 h1, e.at0 h2, fun l hl => SqT.kp e (h3 l hl), h4, h5⟩
section
variable {P : Program} {w : World} {K : PySem.W.Frag} {mg : Str → Option Value} {base : Heap}
end
end Sa

namespace Sa
open PySem PySem.Spec PyProof.Rows L2
open Sem (wp)
def Iet (K : PySem.W.Frag) (a : Addr) : It :=
  ⟨fun i H => ∃ (xs : List V) (x : V), SqT K H a xs ∧ xs[i]? = some x, fun i H v H' => ∃ T x, v = .ref T ∧ H T = none ∧ H' = upd H T (.tup [.int (i : Nat), x]) ∧ ∀ xs, SqT K H a xs → xs[i]? = some x, fun i H => ∃ xs : List V, SqT K H a xs ∧ xs.length ≤ i⟩
def iEnumT (K : PySem.W.Frag) (ta : TA) : TI := fun σ H R => ta σ H fun vs H1 => ∃ a xs, vs = [.ref a] ∧ SqT K H1 a xs ∧ R (Iet K a) H1
section
variable {K : PySem.W.Frag} {σ : L2.St} {H : Hp} {Q : VK} {R : It → Hp → Prop} {ta : TA} {a b : Addr} {xs ys : List V} {s z : Str}
theorem c_enumT (h : ta σ H fun vs H1 => ∃ a xs, vs = [.ref a] ∧ SqT K H1 a xs ∧ R (Iet K a) H1) : iEnumT K ta σ H R := h
theorem c_slT {lo hi : Option Int} (h : SqT K H a xs) (q : ∀ p H', Kp [] H H' → SqT K H' p (cutL xs lo hi) → Q (.ref p) H') : rSlU K (.ref a) lo hi H Q := by
  refine .inr (.inr ⟨a, xs, rfl, h, fun hw => ?_, fun _ p hp => ?_⟩)
  · refine q a H Kp.refl ?_
    have e : cutL xs lo hi = xs := by
      unfold cutL
      rw [hw.1, hw.2, List.drop_zero, Nat.sub_zero, List.take_length]
    rw [e]; exact h
  · exact q p _ (Kp.new hp) (SqT.of upd_same)
theorem c_addT (ha : SqT K H a xs) (hb : SqT K H b ys) (hl : xs.length + ys.length ≤ sizeLine) (q : ∀ p H', Kp [] H H' → SqT K H' p (xs ++ ys) → Q (.ref p) H') : rAddU K (.ref a) (.ref b) H Q := by
  refine .inr (.inr (.inr ⟨a, b, xs, ys, rfl, rfl, ha, hb, hl, fun h => ?_, fun _ h => ?_, fun _ _ p hp => q p _ (Kp.new hp) (SqT.of upd_same)⟩))
  · subst h; exact q b H Kp.refl hb
  · subst h; exact q a H Kp.refl (by rw [List.append_nil]; exact ha)
theorem inV_str (s : Str) : ∀ ys : List Str, inV (.str s) (ys.map V.str) = decide (s ∈ ys)
  | [] => by simp [inV]
  | y :: r => by
    have ih := inV_str s r
    unfold inV at ih ⊢
    rw [List.map_cons, List.any_cons, ih]
    by_cases h : s = y
    · subst h; simp [eqV]
    · have h2 : y ≠ s := fun e => h e.symm
      simp [eqV, h, h2]
theorem flat_strs (ys : List Str) : (ys.map V.str).all flatV = true := by rw [List.all_eq_true]; intro v hv; obtain ⟨y, _, rfl⟩ := List.mem_map.mp hv; rfl
theorem c_inSs {ys : List Str} (h : SqL K H a (ys.map V.str) ∨ SqT K H a (ys.map V.str)) (q : Q (.bl (decide (s ∈ ys))) H) : rInU K (.str s) (.ref a) H Q :=
  .inr (.inr ⟨a, _, rfl, h, rfl, flat_strs ys, by rw [inV_str]; exact q⟩)
theorem c_notInSs {ys : List Str} (h : SqL K H a (ys.map V.str) ∨ SqT K H a (ys.map V.str)) (q : Q (.bl (!decide (s ∈ ys))) H) : rNotInU K (.str s) (.ref a) H Q :=
  .inr (.inr ⟨a, _, rfl, h, rfl, flat_strs ys, by rw [inV_str]; exact q⟩)
end
end Sa

namespace Sa
open PySem L2
def Kt (H H' : Hp) : Prop := ∀ a xs, Rd H a (.tup xs) → Rd H' a (.tup xs)
section
variable {K : PySem.W.Frag} {H H' H1 H2 : Hp} {a b : Addr} {v : V} {xs : List V} {d e : PyData} {ds : List PyData} {o : HO}
theorem Kt.refl : Kt H H := fun _ _ h => h
theorem Kt.trans (e : Kt H H1) (f : Kt H1 H2) : Kt H H2 := fun a xs h => f a xs (e a xs h)
theorem Kp.kt (e : Kp [] H H') : Kt H H' := fun a xs h => rd_at (fun o ho => e.at0 ho) h
def NoT (H : Hp) (b : Addr) : Prop := ∀ xs, ¬ Rd H b (.tup xs)
theorem NoT.none (h : H b = none) : NoT H b := fun xs r => by rcases r with r | ⟨o, r⟩ <;> rw [h] at r <;> cases r
theorem NoT.lst {ys : List V} (h : H b = some (.lst ys)) : NoT H b := fun xs r => by rcases r with r | ⟨o, r⟩ <;> rw [h] at r <;> cases r
theorem NoT.dK {ys : List (Key × V)} (h : H b = some (.dK ys)) : NoT H b := fun xs r => by rcases r with r | ⟨o, r⟩ <;> rw [h] at r <;> cases r
theorem NoT.ins {C dx : Addr} {fs : List (Str × V)} (h : H b = some (.ins C dx fs)) : NoT H b := fun xs r => by rcases r with r | ⟨o, r⟩ <;> rw [h] at r <;> cases r
theorem NoT.of (h : H b = some o) (h1 : ∀ xs, o ≠ .tup xs) (h2 : ∀ u xs, o ≠ .frz u (.tup xs)) : NoT H b := fun xs r => by
  rcases r with r | ⟨u, r⟩ <;> rw [h] at r <;> injection r with r
  · exact h1 xs r
  · exact h2 u xs r
theorem Kt.upd1 (n : NoT H b) : Kt H (upd H b o) := fun a xs h => by
  by_cases hz : a = b
  · subst hz; exact absurd h (n xs)
  · exact rd_at (fun o ho => by rw [upd_ne hz]; exact ho) h
theorem Kp.kt1 (e : Kp [b] H H') (n : NoT H b) : Kt H H' := fun a xs h => by
  by_cases hz : a = b
  · subst hz; exact absurd h (n xs)
  · exact rd_at (fun o ho => e.at1 hz ho) h
theorem Bx.noT {d : Addr} (B : Bx H b d) : NoT H b := by
  obtain ⟨_, _, h, _⟩ := B.ex
  exact NoT.lst h
theorem Bx.kt {d : Addr} (B : Bx H b d) (e : Kp [b] H H') : Kt H H' := e.kt1 B.noT
theorem SqT.kt (e : Kt H H') (h : SqT K H a xs) : SqT K H' a xs := h.imp (e a xs) id
mutual
inductive Dt (K : PySem.W.Frag) (H : Hp) : V → PyData → Prop
  | non : Dt K H .non .none
  | bl (b : Bool) : Dt K H (.bl b) (.bool b)
  | int (i : Int) : Dt K H (.int i) (.int i)
  | str (x : Str) : Dt K H (.str x) (.str x)
  | tup {a : Addr} {xs : List V} {ds : List PyData} : SqT K H a xs → DtAll K H xs ds → Dt K H (.ref a) (.tuple ds)
inductive DtAll (K : PySem.W.Frag) (H : Hp) : List V → List PyData → Prop
  | nil : DtAll K H [] []
  | cons {v : V} {vs : List V} {d : PyData} {ds : List PyData} : Dt K H v d → DtAll K H vs ds → DtAll K H (v :: vs) (d :: ds)
end
mutual
theorem Dt.kt : ∀ {v : V} {d : PyData}, Kt H H' → Dt K H v d → Dt K H' v d
  | _, _, _, .non => .non
  | _, _, _, .bl b => .bl b
  | _, _, _, .int i => .int i
  | _, _, _, .str x => .str x
  | _, _, k, .tup h hs => .tup (SqT.kt k h) (DtAll.kt k hs)
theorem DtAll.kt : ∀ {vs : List V} {ds : List PyData}, Kt H H' → DtAll K H vs ds → DtAll K H' vs ds
  | _, _, _, .nil => .nil
  | _, _, k, .cons h hs => .cons (Dt.kt k h) (DtAll.kt k hs)
end
mutual
theorem Dt.dp : ∀ {v : V} {d : PyData}, Dt K H v d → Dp K H v d
  | _, _, .non => .non
  | _, _, .bl b => .bl b
  | _, _, .int i => .int i
  | _, _, .str x => .str x
  | _, _, .tup h hs => .tup h (DtAll.dp hs)
theorem DtAll.dp : ∀ {vs : List V} {ds : List PyData}, DtAll K H vs ds → DpAll K H vs ds
  | _, _, .nil => .nil
  | _, _, .cons h hs => .cons (Dt.dp h) (DtAll.dp hs)
end
mutual
def tupD : PyData → Bool
  | .none | .bool _ | .int _ | .str _ => true
  | .tuple ds => tupDs ds
  | .list _ | .dict _ => false
def tupDs : List PyData → Bool
  | [] => true
  | d :: ds => tupD d && tupDs ds
end
mutual
theorem Dt.of : ∀ {v : V} {d : PyData}, Dp K H v d → tupD d = true → Dt K H v d
  | _, _, .non, _ => .non
  | _, _, .bl b, _ => .bl b
  | _, _, .int i, _ => .int i
  | _, _, .str x, _ => .str x
  | _, _, .lst h hs, z => by unfold tupD at z; cases z
  | _, _, .tup h hs, z => .tup h (DtAll.of hs (by unfold tupD at z; exact z))
theorem DtAll.of : ∀ {vs : List V} {ds : List PyData}, DpAll K H vs ds → tupDs ds = true → DtAll K H vs ds
  | _, _, .nil, _ => .nil
  | _, _, .cons h hs, z => by
    unfold tupDs at z
    rw [Bool.and_eq_true] at z
    exact .cons (Dt.of h z.1) (DtAll.of hs z.2)
end
theorem Dt.kp (h : Dt K H v d) (e : Kp [] H H') : Dt K H' v d := Dt.kt e.kt h
theorem DtAll.kp (h : DtAll K H xs ds) (e : Kp [] H H') : DtAll K H' xs ds := DtAll.kt e.kt h
theorem dt_tup (h : Dt K H v (.tuple ds)) : ∃ a xs, v = .ref a ∧ SqT K H a xs ∧ DtAll K H xs ds := by
  cases h with
  | tup h1 h2 => exact ⟨_, _, rfl, h1, h2⟩
theorem dt_str {s : Str} (h : Dt K H v (.str s)) : v = .str s := by cases h; rfl
theorem dta_nil (h : DtAll K H xs []) : xs = [] := by cases h; rfl
theorem dta_cons (h : DtAll K H xs (d :: ds)) : ∃ v vs, xs = v :: vs ∧ Dt K H v d ∧ DtAll K H vs ds := by
  cases h with
  | cons h1 h2 => exact ⟨_, _, rfl, h1, h2⟩
theorem dta_strs : ∀ {ys : List Str} {xs : List V}, DtAll K H xs (ys.map PyData.str) → xs = ys.map V.str
  | [], xs, h => dta_nil h
  | y :: r, xs, h => by
    obtain ⟨v, vs, rfl, h1, h2⟩ := dta_cons h
    rw [dt_str h1, dta_strs h2]
    rfl
theorem dta_of_strs : ∀ ys : List Str, DtAll K H (ys.map V.str) (ys.map PyData.str)
  | [] => .nil
  | y :: r => .cons (.str y) (dta_of_strs r)
theorem dta_len : ∀ {ds : List PyData} {xs : List V}, DtAll K H xs ds → xs.length = ds.length
  | [], xs, h => by rw [dta_nil h]; rfl
  | d :: r, xs, h => by
    obtain ⟨v, vs, rfl, h1, h2⟩ := dta_cons h
    rw [List.length_cons, List.length_cons, dta_len h2]
theorem dta_app {ys : List V} {es : List PyData} : ∀ {xs : List V} {ds : List PyData}, DtAll K H xs ds → DtAll K H ys es → DtAll K H (xs ++ ys) (ds ++ es)
  | [], ds, h, g => by cases h; exact g
  | x :: r, ds, h, g => by
    cases h with
    | cons h1 h2 => exact .cons h1 (dta_app h2 g)
theorem dta_snoc {xs : List V} {ds : List PyData} (h : DtAll K H xs ds) (g : Dt K H v d) : DtAll K H (xs ++ [v]) (ds ++ [d]) := dta_app h (.cons g .nil)
theorem dta_get : ∀ {xs : List V} {ds : List PyData} {i : Nat} {d : PyData}, DtAll K H xs ds → ds[i]? = some d → ∃ v, xs[i]? = some v ∧ Dt K H v d
  | [], ds, i, d, h, g => by cases h; simp at g
  | x :: r, ds, i, d, h, g => by
    cases h with
    | cons h1 h2 =>
      cases i with
      | zero => simp at g; subst g; exact ⟨x, rfl, h1⟩
      | succ i =>
        have q := dta_get (xs := r) (i := i) h2 g
        exact q
def strsD (ys : List Str) : PyData := .tuple (ys.map PyData.str)
theorem dt_strs {ys : List Str} (h : SqT K H a (ys.map V.str)) : Dt K H (.ref a) (strsD ys) := .tup h (dta_of_strs ys)
theorem strsD_of {ys : List Str} (h : Dt K H v (strsD ys)) : ∃ a, v = .ref a ∧ SqT K H a (ys.map V.str) := by
  obtain ⟨a, xs, rfl, h1, h2⟩ := dt_tup h
  rw [dta_strs h2] at h1
  exact ⟨a, rfl, h1⟩
theorem strsD_at {ys : List Str} (h : Dt K H (.ref a) (strsD ys)) : SqT K H a (ys.map V.str) := by
  obtain ⟨b, e, h1⟩ := strsD_of h
  injection e with e
  subst e
  exact h1
end
section
variable {K : PySem.W.Frag} {σ : St} {H : Hp} {g : TG} {tt : TT} {te : TE} {n : Nat} {Q : VK} {vs : List Nat} {J : It} {ok : Hp → Prop} {Y : Nat → V → Hp → Hp → Prop}
theorem range_filter_succ (p : Nat → Bool) (i : Nat) : (List.range (i + 1)).filter p = (List.range i).filter p ++ (if p i = true then [i] else []) := by
  rw [List.range_succ, List.filter_append]
  congr 1
  by_cases h : p i = true <;> simp [h]
theorem lcQ_dt (I : Itn J n ok Y) (f : Nat → PyData) (p : Nat → Bool) (hz : n ≤ 16777216) (hok : ∀ H', Kp [] H H' → ok H')
    (hs : ∀ i x H' H'' R S, i < n → Kp [] H H' → Y i x H' H'' → (p i = true → ∀ v H4, Kp [] H'' H4 → Dt K H4 v (f i) → R v H4) → (p i = false → ∀ H4, Kp [] H'' H4 → S H4) → LcM g tt te vs σ R S x H'')
    (hd : ∀ Dl ws H', H Dl = none → Kp [] H H' → H' Dl = some (.lst ws) → DtAll K H' ws (((List.range n).filter p).map f) → Q (.ref Dl) H') : LcJ J g tt te vs σ H Q := by
  refine lcQ I (fun Dl i acc H' => Kp [] H H' ∧ DtAll K H' acc (((List.range i).filter p).map f)) (fun Dl hD => ⟨Kp.new hD, .nil⟩) (fun Dl i acc H' hD e => hok H' e.1) ?_ ?_
  · rintro Dl i x acc H' H'' hD hi hacc hl ⟨e, hds⟩ y
    have k := I.kp i x H' H'' y
    refine hs i x H' H'' _ _ hi e y (fun hp v H4 e4 hv => ?_) (fun hp H4 e4 => ?_)
    · have ha4 := e4.at0 (k.at0 hacc)
      have kt : Kt H4 (upd H4 Dl (.lst (acc ++ [v]))) := Kt.upd1 (NoT.lst ha4)
      refine lc_push ha4 hl (by omega) ⟨((e.trans k).trans e4).fresh_mut hD, ?_⟩
      rw [range_filter_succ, if_pos hp, List.map_append]
      exact dta_snoc (DtAll.kt ((k.kt.trans e4.kt).trans kt) hds) (Dt.kt kt hv)
    · have ha4 := e4.at0 (k.at0 hacc)
      refine lc_skip ha4 hl ⟨(e.trans k).trans e4, ?_⟩
      rw [range_filter_succ, hp, if_neg Bool.false_ne_true, List.append_nil]
      exact DtAll.kt (k.kt.trans e4.kt) hds
  · rintro Dl acc H' hD hacc hl ⟨e, hds⟩
    exact hd Dl acc H' hD e hacc hds
end
section
variable {X : Cx} {H : Hp} {Q : VK} {s z : Str} {to te : TE} {o e : Expr}
theorem cutS_len (x : Str) (lo hi : Option Int) : (cutS x lo hi).length ≤ x.length := by
  rw [txt_of x, cutS_txt, txt_len, txt_len, List.length_take, List.length_drop]
  omega
end
end Sa

namespace Sa
open PySem L2
section
variable {K : PySem.W.Frag} {H H' H1 : Hp} {d a : Addr} {u : HO} {od : Obj} {kvs : List (Key × V)}
theorem lock_back : upd (upd H d (.frz od u)) d u = upd H d u := by rw [upd_upd]
theorem upd_self (h : H d = some u) : upd H d u = H := by
  funext b
  by_cases z : b = d
  · subst z; rw [upd_same, h]
  · rw [upd_ne z]
theorem itn_k {α : Type} {ys : List α} {f : α → Key} {g : α → V} : Itn (Itk d od (ys.map fun y => (f y, g y))) ys.length (fun H => H d = some (.frz od (.dK (ys.map fun y => (f y, g y))))) (Yq ys fun y => kV (f y)) where
  go := fun i H ok hi => ⟨ok, by rw [List.length_map]; exact hi⟩
  stop := fun i H ok hi => ⟨ok, by rw [List.length_map]; exact hi⟩
  yld := fun i H x H' ok hi y => by
    obtain ⟨e, k, v, h1, h2⟩ := y
    rw [List.getElem?_map] at h1
    obtain ⟨z, hz, e2⟩ := Option.map_eq_some_iff.mp h1
    injection e2 with e3 e4
    exact ⟨e, z, hz, by rw [h2, ← e3]⟩
  kp := fun i x H H' h => by rw [h.1]; exact Kp.refl
theorem c_lockF {t : TS} {D : Ends} {σ : St} {kvs : List (Key × V)} (h : H d = some (.dK kvs)) (q : ∀ od, t ⟨fun σ' H' => H' d = some (.frz od (.dK kvs)) ∧ D.nx σ' (upd H' d (.dK kvs)), fun v H' => H' d = some (.frz od (.dK kvs)) ∧ D.rt v (upd H' d (.dK kvs)),
    fun σ' H' => H' d = some (.frz od (.dK kvs)) ∧ D.bk σ' (upd H' d (.dK kvs)), fun σ' H' => H' d = some (.frz od (.dK kvs)) ∧ D.ct σ' (upd H' d (.dK kvs))⟩ σ (upd H d (.frz od (.dK kvs)))) : tLock t D σ H := ⟨d, .dK kvs, h, trivial, q⟩
theorem c_iKeys {td : TE} {R : It → Hp → Prop} {σ : St} (h : td σ H fun x H1 => ∃ d o, x = .ref d ∧ ((∃ kvs, H1 d = some (.frz o (.dK kvs)) ∧ R (Itk d o kvs) H1) ∨ ∃ kvs, H1 d = some (.frz o (.dT kvs)) ∧ R (Itkt d o kvs) H1)) : iKeys td σ H R := h
theorem c_keysAt {g : TG} {tb : TS} {D : Ends} {σ : St} {od : Obj} {kvs : List (Key × V)} (h : H d = some (.frz od (.dK kvs))) (q : ForJ (Itk d od kvs) g tb D σ H) :
    ∃ d' o, V.ref d = .ref d' ∧ ((∃ kvs, H d' = some (.frz o (.dK kvs)) ∧ ForJ (Itk d' o kvs) g tb D σ H) ∨ ∃ kvs, H d' = some (.frz o (.dT kvs)) ∧ ForJ (Itkt d' o kvs) g tb D σ H) := ⟨d, od, rfl, .inl ⟨kvs, h, q⟩⟩
def DinK (neg : Bool) (x y : V) (H : Hp) (Q : VK) : Prop := ∃ a o, x = .ref a ∧ DGet H a y o ∧ Q (.bl (if neg then !o.isSome else o.isSome)) H
theorem c_din {ty td : TE} {σ : St} {Q : VK} (h : ty σ H fun y H1 => td σ H1 fun x H2 => DinK false x y H2 Q) : tDIn ty td σ H Q := h
theorem c_dnotin {ty td : TE} {σ : St} {Q : VK} (h : ty σ H fun y H1 => td σ H1 fun x H2 => DinK true x y H2 Q) : tDNotIn ty td σ H Q := h
def DGetK (x y : V) (H : Hp) (Q : VK) : Prop := ∃ a v, x = .ref a ∧ DGet H a y (some v) ∧ Q v H
theorem c_dgetK {H : Hp} {td ty : TE} {σ : St} {Q : VK} (h : td σ H fun x H1 => ty σ H1 fun y H2 => DGetK x y H2 Q) : tDGet td ty σ H Q := h
theorem c_dput {td ty tv : TE} {D : Ends} {σ : St} (h : tv σ H fun v H1 => td σ H1 fun x H2 => ty σ H2 fun y H3 => ∃ a H4, x = .ref a ∧ DPut H3 a y v H4 ∧ D.nx σ H4) : sDPut td ty tv D σ H := h
theorem c_dputAt {v : V} {k : Str} {kvs : List (Key × V)} {R : Hp → Prop} (h : H d = some (.dK kvs)) (hl : kvs.length < sizeLine) (q : R (upd H d (.dK (putK kvs (Sum.inr k) v)))) : ∃ a H4, V.ref d = .ref a ∧ DPut H a (.str k) v H4 ∧ R H4 := ⟨d, _, rfl, .inl ⟨kvs, Sum.inr k, h, rfl, hl, rfl⟩, q⟩
theorem c_dnew {Q : VK} {σ : St} (q : ∀ p H', New H p (.dK []) H' → Q (.ref p) H') : tDNewK σ H Q := fun p hp => q p _ ⟨hp, rfl⟩
theorem c_pNil {σ : St} {Q : List (V × V) → Hp → Prop} (h : Q [] H) : tPairs [] σ H Q := h
theorem c_pCons {tk tv : TE} {r : List (TE × TE)} {σ : St} {Q : List (V × V) → Hp → Prop} (h : tk σ H fun x H1 => tv σ H1 fun y H2 => tPairs r σ H2 fun ps H3 => Q ((x, y) :: ps) H3) : tPairs ((tk, tv) :: r) σ H Q := h
theorem c_neLS {K : PySem.W.Frag} {Q : VK} {a b : Addr} {ys zs : List Str} (ha : SqL K H a (ys.map V.str)) (hb : SqL K H b (zs.map V.str)) (h1 : ∀ y ∈ ys, okS y = true) (h2 : ∀ y ∈ zs, okS y = true) (q : Q (.bl (!decide (ys = zs))) H) : rNeU K (.ref a) (.ref b) H Q :=
  c_neD (dp_strs ha) (dp_strs hb) (shaped_strsL h1) (shaped_strsL h2) (by rw [PyData.eqv, eqvAll_strs]; exact q)
end
end Sa

namespace Sa
open PySem L2
structure MethD (P : Program) (w : World) (K : PySem.W.Frag) (mg : Str → Option Value) (base : Heap) (CX : CXT) (C m : Str) (k : Nat) (ps : List Str) (sp : Sp) (dv : V) : Prop where
  me : Meth K (He.ga K C) m (He.ma K (He.ga K C) m)
  ok : ∃ fd u, FnOk P w K mg base CX k (He.ma K (He.ga K C) m) fd ps sp ∧ Binds K fd ps [u] ∧ RelV dv u
section
variable {P : Program} {w : World} {K : PySem.W.Frag} {mg : Str → Option Value} {base : Heap}
theorem Tx.cstA {fa : List He.Fa} {fn : List He.DefD} {fx : List Fx} (T : Tx fa fn fx K mg) (i : Nat) {p : PySem.W.Frag → Addr} {d : PyData} (h : fx[i]? = some (.cstA p d)) (H : Hp) : Dp K H (.ref (p K)) d := cst_ref (T.fx i h) H
end
def tNewD (K : PySem.W.Frag) (C : Str) (sp : Sp) (dv : V) (E : St → XK) : TE := fun σ H Q => NewK K C sp [dv] H Q (E σ)
theorem c_newD {K : PySem.W.Frag} {C : Str} {sp : Sp} {dv : V} {E : St → XK} {σ : St} {H : Hp} {Q : VK} (h : NewK K C sp [dv] H Q (E σ)) : tNewD K C sp dv E σ H Q := h
section
variable {X : Cx} {CX : CXT} {K : PySem.W.Frag} {C : Str} {k j : Nat} {ps : List Str} {sp : Sp} {dv : V} {E : St → XK} {p pos : Pos}
end
end Sa

namespace Sa
open PySem L2
structure ExcO (K : PySem.W.Frag) (mg : Str → Option Value) (x : Str) : Prop where
  gl : mg x = some (.ref (He.ga K x))
  ex : PySem.W.excIn K (He.ga K x) He.veBase "ValueError.__new__" = true
  kp : PySem.W.keepIn K (.ref (He.ga K x)) = true
  sb : PySem.W.subIn K (.ref (He.ga K x)) (.type "BaseException") = some true
  ty : PySem.W.typeIn K (.ref (He.ga K x)) = some (.type "type")
theorem Tx.exo {fa : List He.Fa} {fn : List He.DefD} {fx : List Fx} {K : PySem.W.Frag} {mg : Str → Option Value} (T : Tx fa fn fx K mg) (i j : Nat) {x : Str} (h : fa[i]? = some (.glo x) := by rfl) (h2 : fa[j]? = some (.exc x) := by rfl) : ExcO K mg x := by
  obtain ⟨a, b, c, d⟩ := He.exc_ok (T.fact j h2)
  exact ⟨T.glo i h, a, b, c, d⟩
def tRaiseO (K : PySem.W.Frag) (x : Str) (W : WX) : TS := fun _ σ H => W (.ref (He.ga K x)) none σ H
theorem c_raiseO {K : PySem.W.Frag} {x : Str} {W : WX} {D : Ends} {σ : St} {H : Hp} (h : W (.ref (He.ga K x)) none σ H) : tRaiseO K x W D σ H := h
theorem exiB_ok {K : PySem.W.Frag} {D : Addr} (h : exiB K D = true) : ExcC K D := by
  unfold exiB at h
  simp only [Bool.and_eq_true, decide_eq_true_eq] at h
  obtain ⟨h1, h2, h3, h4, h5, h6, h7, h8⟩ := h
  exact ⟨h1, h2, h3, h4, h5, h6, h7, h8⟩
theorem Tx.exi {fa : List He.Fa} {fn : List He.DefD} {fx : List Fx} {K : PySem.W.Frag} {mg : Str → Option Value} (T : Tx fa fn fx K mg) (i : Nat) {x : Str} (h : fx[i]? = some (.exi x) := by rfl) : ExcC K (He.ga K x) := exiB_ok (T.fx i h)
theorem Tx.kit {fa : List He.Fa} {fn : List He.DefD} {fx : List Fx} {K : PySem.W.Frag} {mg : Str → Option Value} (T : Tx fa fn fx K mg) (i : Nat) {x y : Str} {b : Bool} (h : fx[i]? = some (.kit x y b) := by rfl) : PySem.W.kitOne K (.ref (He.ga K x)) (.ref (He.ga K y)) = some b := of_decide_eq_true (T.fx i h)
end Sa

namespace Sa
open PySem L2
def spInit3 (K : PySem.W.Frag) (C : Addr) (f g h : Str) : Sp := fun vs H Q _ => ∃ (a : Addr) (u v w : V), vs = [.ref a, u, v, w] ∧ H a = some (exo a C none) ∧ ∀ dx, H dx = none → dx ≠ a →
  Q .non (upd (upd (upd (upd H dx (exd dx [(f, u)])) a (exo a C (some dx))) dx (exd dx [(g, v), (f, u)])) dx (exd dx [(h, w), (g, v), (f, u)]))
structure ErrC3 (P : Program) (w : World) (K : PySem.W.Frag) (mg : Str → Option Value) (base : Heap) (x f g h : Str) : Prop where
  gl : mg x = some (.ref (He.ga K x))
  cls : OexC K (He.ga K x)
  xf : XfC K (He.ga K x)
  nof : PySem.W.findIn K (.ref (He.ga K x)) f = some none
  nog : PySem.W.findIn K (.ref (He.ga K x)) g = some none
  noh : PySem.W.findIn K (.ref (He.ga K x)) h = some none
  ok : ∃ ps, MethAt P w K mg base CX0 x "__init__" 2 ps (spInit3 K (He.ga K x) f g h)
def RaiseK3 (K : PySem.W.Frag) (x f g h : Str) (vs : List V) (H1 : Hp) (Q : XK) : Prop := vs.length ≤ 1000 ∧ ∀ a, H1 a = none → spInit3 K (He.ga K x) f g h (.ref a :: (vs ++ [])) (upd H1 a (exo a (He.ga K x) none))
  (fun v H2 => v = .non ∧ ∃ (d : Addr) (fs : List (Str × V)), H2 a = some (exo a (He.ga K x) (some d)) ∧ H2 d = some (exd d fs) ∧ H1 d = none ∧ Q (.ref (He.ga K x)) (some d) (upd (del H2 a) d (.xd fs))) (fun _ _ _ => False)
def tMkE3 (K : PySem.W.Frag) (x f g h : Str) (t : TA) : St → Hp → XK → Prop := fun σ H Q => t σ H fun vs H1 => RaiseK3 K x f g h vs H1 Q
def tRaiseE3 (K : PySem.W.Frag) (x f g h : Str) (W : WX) (t : TA) : TS := fun _ σ H => t σ H fun vs H1 => RaiseK3 K x f g h vs H1 fun cls d H' => W cls d σ H'
theorem c_err3 {K : PySem.W.Frag} {x f g h : Str} {u v w : V} {H1 : Hp} {Q : XK} (q : ∀ d H', New H1 d (.xd [(h, w), (g, v), (f, u)]) H' → Q (.ref (He.ga K x)) (some d) H') : RaiseK3 K x f g h [u, v, w] H1 Q := by
  refine ⟨by simp, fun a ha => ⟨a, u, v, w, rfl, upd_same, fun dx hdx hne => ⟨rfl, dx, [(h, w), (g, v), (f, u)], ?_, upd_same, ?_, ?_⟩⟩⟩
  · rw [upd_ne hne.symm, upd_ne hne.symm, upd_same]
  · rw [upd_ne hne] at hdx
    exact hdx
  · have hd1 : H1 dx = none := by rw [upd_ne hne] at hdx; exact hdx
    have e : upd (del (upd (upd (upd (upd (upd H1 a (exo a (He.ga K x) none)) dx (exd dx [(f, u)])) a (exo a (He.ga K x) (some dx))) dx (exd dx [(g, v), (f, u)])) dx (exd dx [(h, w), (g, v), (f, u)])) a) dx (.xd [(h, w), (g, v), (f, u)]) =
        upd H1 dx (.xd [(h, w), (g, v), (f, u)]) := by
      funext b
      by_cases h1 : b = dx
      · rw [h1, upd_same, upd_same]
      · rw [upd_ne h1, upd_ne h1]
        by_cases h2 : b = a
        · rw [h2, del_same, ha]
        · rw [del_ne h2, upd_ne h1, upd_ne h1, upd_ne h2, upd_ne h1, upd_ne h2]
    rw [e]
    exact q dx _ ⟨hd1, rfl⟩
theorem c_raiseE3 {K : PySem.W.Frag} {x f g h : Str} {W : WX} {t : TA} {D : Ends} {σ : St} {H : Hp} (hh : t σ H fun vs H1 => RaiseK3 K x f g h vs H1 fun cls d H' => W cls d σ H') : tRaiseE3 K x f g h W t D σ H := hh
section
variable {X : Cx} {x f g h : Str} {k : Nat} {W : WX} {p pos pos2 : Pos} {e : Expr} {es : List Expr} {t : TA}
theorem pmk_err3 {K : PySem.W.Frag} (T : ErrC3 X.prog X.w X.K X.mg X.base x f g h) (hr : Room k X.A) (ha : PA X (e :: es) t) (hk : 3 ≤ k := by decide) (hK : X.K = K := by rfl) (hg : Gl X x := by rfl)
    (hdb : (x == ("__debug__" : Str)) = false := by decide) (he : starEach (e :: es) X.env = (false, eval e X.env) :: starEach es X.env := by rfl) (hpl : (backTo pos (starEach es X.env)).any (·.1) = false := by rfl) :
    PMk X (.Call (.Name x p) (e :: es) [] pos) (tMkE3 K x f g h t) := by
  subst hK
  obtain ⟨ps, M⟩ := T.ok
  obtain ⟨fd, F, B⟩ := M.ok
  have fnT : PySem.W.typeIn X.K (.ref (He.ma X.K (He.ga X.K x) "__init__")) = some (.type "function") := eq_of_beq M.me.fn
  exact pmk_oex (p := p) T.cls M.me.at_ fnT F (hr.mono hk) B .nil (fun _ _ _ _ _ _ _ h => h.elim) hg T.gl ha hdb he hpl
theorem ps_raiseE3 {K : PySem.W.Frag} (T : ErrC3 X.prog X.w X.K X.mg X.base x f g h) (hr : Room k X.A) (tk : Takes X W) (ha : PA X (e :: es) t) (hk : 3 ≤ k := by decide) (hK : X.K = K := by rfl) (hg : Gl X x := by rfl) (hc : X.calm = true := by rfl)
    (hdb : (x == ("__debug__" : Str)) = false := by decide) (he : starEach (e :: es) X.env = (false, eval e X.env) :: starEach es X.env := by rfl) (hpl : (backTo pos (starEach es X.env)).any (·.1) = false := by rfl) :
    PS X (.Raise (some (.Call (.Name x p) (e :: es) [] pos)) none pos2) (tRaiseE3 K x f g h W t) := ps_raise hc tk (pmk_err3 T hr ha hk hK hg hdb he hpl)
end
theorem c_while {c : TT} {tb : TS} {D : Ends} {σ : St} {H : Hp} (W : Nat → St → Hp → Prop) (m : Nat) (h0 : W m σ H)
    (hs : ∀ m σ H, W m σ H → c σ H fun b H1 => if b = true then ∃ N : St → Hp → Prop, (∀ σ' H', N σ' H' → ∃ m', m' < m ∧ W m' σ' H') ∧ tb { D with nx := N, ct := N, bk := D.nx } σ H1 else D.nx σ H1) : tWhile c tb D σ H :=
  ⟨W, ⟨m, h0⟩, hs⟩
theorem c_turn {tb : TS} {D : Ends} {σ : St} {H : Hp} {W : Nat → St → Hp → Prop} {m : Nat} (h : tb { D with nx := fun σ' H' => ∃ m', m' < m ∧ W m' σ' H', ct := fun σ' H' => ∃ m', m' < m ∧ W m' σ' H', bk := D.nx } σ H) :
    ∃ N : St → Hp → Prop, (∀ σ' H', N σ' H' → ∃ m', m' < m ∧ W m' σ' H') ∧ tb { D with nx := N, ct := N, bk := D.nx } σ H := ⟨_, fun _ _ h => h, h⟩
end Sa

open PySem L2 Sa
-- heap look-ups
local macro_rules | `(tactic| walk_at "ne") => `(tactic| first | assumption | (apply Ne.symm; assumption) | (refine ne_of2 ?_ ?_ <;> assumption) | (apply Ne.symm; refine ne_of2 ?_ ?_ <;> assumption))
local macro_rules | `(tactic| walk_at "lk") => `(tactic| first
  | assumption
  | exact upd_same
  | ((with_reducible refine upd_new ?_ ?_); (· assumption); walk_at "lk")
  | ((with_reducible refine upd_other ?_ ?_); (· walk_at "ne"); walk_at "lk")
  | (with_reducible exact New.at_ (by assumption))
  | ((with_reducible refine New.keep (by assumption) ?_); walk_at "lk")
  | ((with_reducible refine New.sqL (by assumption) ?_); walk_at "lk")
  | ((with_reducible refine New.sqT (by assumption) ?_); walk_at "lk")
  | ((with_reducible refine Kp.at0 (by assumption) ?_); walk_at "lk")
  | ((with_reducible apply SqL.of); walk_at "lk")
  | ((with_reducible apply SqT.of); walk_at "lk")
  | ((with_reducible refine SqL.new ?_ ?_); (· assumption); walk_at "lk")
  | ((with_reducible refine SqT.new ?_ ?_); (· assumption); walk_at "lk"))
-- arithmetic of lengths
local macro_rules | `(tactic| walk_at "sz") => `(tactic| first | assumption | decide | (exact Nat.zero_le _) | (simp only [sizeLine_eq, List.length_cons, List.length_nil, List.length_append, List.length_map, List.length_replicate] at *; omega))
-- one step of a reading
local macro_rules | `(tactic| walk_at "s1") => `(tactic| first
  | (with_reducible apply c_seq)
  | ((with_reducible apply c_var); (exact rfl))
  | (with_reducible apply c_c)
  | (with_reducible apply c_op)
  | (with_reducible apply c_addI) | (with_reducible apply c_subI) | (with_reducible apply c_bandI)
  | (with_reducible refine c_bl ?_) | (with_reducible refine c_int ?_)
  | (with_reducible apply c_asg) | (with_reducible apply c_gName) | (with_reducible apply c_ret) | (with_reducible apply c_retN) | (with_reducible apply c_ifs) | (with_reducible apply c_drop)
  | (with_reducible apply c_test) | (with_reducible apply c_tB) | (with_reducible apply c_not) | (with_reducible apply c_and) | (with_reducible apply c_or)
  | (with_reducible apply c_eqI) | (with_reducible apply c_neI) | (with_reducible apply c_ltI) | (with_reducible apply c_leI) | (with_reducible apply c_gtI) | (with_reducible apply c_geI)
  | (with_reducible apply c_nil) | (with_reducible apply c_cons) | (with_reducible apply c_call) | (with_reducible apply c_cb) | (with_reducible apply c_tup) | (with_reducible apply c_lst)
  | (with_reducible apply c_sl) | (with_reducible apply c_noPart) | (with_reducible apply c_part) | (with_reducible apply c_bm) | (with_reducible apply c_bm0) | (with_reducible apply c_m1) | (with_reducible apply c_isStr)
  | (with_reducible apply c_chain) | (with_reducible apply c_andV) | (with_reducible apply c_orV) | (with_reducible apply c_notV) | (with_reducible apply c_if)
  | (with_reducible apply c_intI) | (with_reducible apply c_ord) | (with_reducible apply c_max2) | (with_reducible apply c_min2)
  | ((with_reducible apply c_mulI); (first | (exact Or.inr ⟨by decide, by decide⟩) | (exact Or.inl ⟨by decide, by decide⟩)))
  | ((with_reducible apply c_divI); (exact ⟨by decide, by decide⟩))
  | ((with_reducible apply c_modI); (first | decide | assumption | omega))
  | (with_reducible apply c_eqS) | (with_reducible apply c_neS) | (with_reducible apply c_eqB) | (with_reducible apply c_neB) | (with_reducible apply c_isN) | (with_reducible apply c_notN)
  | (with_reducible apply c_inC) | (with_reducible apply c_notInC)
  | (with_reducible refine c_truB ?_)
  | (with_reducible apply c_gSub)
  | (with_reducible apply c_next)
  | (with_reducible apply c_for) | (with_reducible apply c_lc) | (with_reducible apply c_rng1) | (with_reducible apply c_rng2) | (with_reducible apply c_iList) | (with_reducible apply c_iTup) | (with_reducible apply c_iStr)
  | ((with_reducible refine c_r1F ?_ ?_); (· first | decide | omega)) | ((with_reducible refine c_r2F ?_ ?_); (· first | decide | omega))
  | ((with_reducible apply c_itLF); (· walk_at "lk")) | ((with_reducible apply c_itTF); (· walk_at "lk")) | (with_reducible apply c_itSF)
  | ((with_reducible refine c_r1C ?_ ?_); (· first | decide | omega)) | ((with_reducible refine c_r2C ?_ ?_); (· first | decide | omega))
  | ((with_reducible apply c_itLC); (· walk_at "lk")) | ((with_reducible apply c_itTC); (· walk_at "lk")) | (with_reducible apply c_itSC)
  | ((with_reducible apply c_append); (· walk_at "lk"); (· walk_at "sz"))
  | (with_reducible apply c_yes)
  | (with_reducible apply c_newD) | (with_reducible apply c_dgetK) | (with_reducible apply c_din) | (with_reducible apply c_dnotin) | (with_reducible apply c_dput) | (with_reducible apply c_iKeys) | (with_reducible apply c_pNil) | (with_reducible apply c_pCons) | (with_reducible apply c_enumT) | (with_reducible apply c_iSeq) | (with_reducible apply c_lenSet) | (with_reducible apply c_dc) | (with_reducible apply c_fld) | (with_reducible apply c_setF) | (with_reducible apply c_meth) | (with_reducible apply c_newA) | (with_reducible apply c_dget1) | (with_reducible apply c_dget)
  | (with_reducible apply c_raiseE) | (with_reducible apply c_rng3) | (with_reducible apply c_enum) | (with_reducible apply c_callX) | (with_reducible apply c_xf)
  | (with_reducible apply c_it1) | (with_reducible apply c_it2) | (with_reducible apply c_it3) | (with_reducible apply c_it4)
  | (with_reducible apply c_gCons) | (with_reducible apply c_gNil)
  | ((with_reducible apply c_unL); (· walk_at "lk"); (· exact rfl)) | ((with_reducible apply c_unT); (· walk_at "lk"); (· exact rfl))
  | ((with_reducible apply c_lenS); (· walk_at "sz"))
  | ((with_reducible apply c_lenL); (· walk_at "lk"))
  | ((with_reducible apply c_lenT); (· walk_at "lk"))
  | ((with_reducible apply c_ixL); (· walk_at "lk"); (· exact rfl))
  | ((with_reducible apply c_ixT); (· walk_at "lk"); (· exact rfl))
  | ((with_reducible apply c_setL); (· walk_at "lk"); (· exact rfl))
  | ((with_reducible apply c_tyA); (· walk_at "lk")))
local macro_rules | `(tactic| walk_at "nw") => `(tactic| ((with_reducible refine c_nw ?_ ?_); (· walk_at "sz")))
local macro_rules | `(tactic| walk_at "st") => `(tactic| repeat (walk_at "s1"))
-- steps and ways, as far as they go
local macro_rules | `(tactic| walk_at "go") => `(tactic| repeat' (first | walk_at "s1" | ((with_reducible refine c_iteT ?_ ?_); (· exact rfl)) | ((with_reducible refine c_iteF ?_ ?_); (· exact rfl)) | ((with_reducible refine c_ite ?_ ?_) <;> intro hcnd) | ((with_reducible refine c_iteN ?_ ?_) <;> intro hcnd) | ((with_reducible refine c_iteNB ?_ ?_) <;> intro hcnd) | ((with_reducible refine c_iteB ?_ ?_) <;> intro hcnd) | fail))
-- ways that are settled by what is written
local macro_rules | `(tactic| walk_at "dc") => `(tactic| repeat' (first | walk_at "s1" | ((with_reducible refine c_iteF ?_ ?_); (· decide +kernel)) | ((with_reducible refine c_iteT ?_ ?_); (· decide +kernel)) | ((with_reducible refine c_iteF ?_ ?_); (· exact rfl)) | ((with_reducible refine c_iteT ?_ ?_); (· exact rfl)) | fail))
local macro_rules | `(tactic| walk_at "len") => `(tactic| first | (intro vs H Q E h; obtain ⟨_, e, _⟩ := h; subst e; rfl) | (intro vs H Q E h; obtain ⟨_, _, e, _⟩ := h; subst e; rfl) | (intro vs H Q E h; obtain ⟨_, _, _, e, _⟩ := h; subst e; rfl) | (intro vs H Q E h; obtain ⟨_, _, _, _, e, _⟩ := h; subst e; rfl) | (intro vs H Q E h; obtain ⟨_, _, _, _, _, e, _⟩ := h; subst e; rfl) | (intro vs H Q E h; obtain ⟨_, _, _, _, _, _, e, _⟩ := h; subst e; rfl) | (intro vs H Q E h; obtain ⟨_, _, _, _, _, _, _, e, _⟩ := h; subst e; rfl) | (intro vs H Q E h; obtain ⟨_, _, _, _, _, _, _, _, e, _⟩ := h; subst e; rfl) | (intro vs H Q E h; obtain ⟨_, _, _, _, _, _, _, _, _, e, _⟩ := h; subst e; rfl) | (intro vs H Q E h; obtain ⟨_, _, _, _, _, _, _, _, _, _, e, _⟩ := h; subst e; rfl) | (intro vs H Q E h; obtain ⟨_, _, _, _, _, _, _, _, _, _, _, e, _⟩ := h; subst e; rfl) | (intro vs H Q E h; obtain ⟨_, _, _, _, _, _, _, _, _, _, _, _, e, _⟩ := h; subst e; rfl))

namespace K06
open PySem L2 Sa
def top (i : Nat) : Stmt := PySem.Challenge.pw_sameanswers_k06_actions_written_and_read.main.body.getD i (.Pass ⟨0, 0, 0, 0⟩)
abbrev s_is_name : Stmt := top 11
abbrev s_is_path : Stmt := top 12
abbrev s__write_item : Stmt := top 20
abbrev s__write_action : Stmt := top 21
abbrev s_write_actions : Stmt := top 22
abbrev s__quote_end : Stmt := top 23
abbrev s__word_end : Stmt := top 24
abbrev s__split : Stmt := top 25
abbrev s_read_actions : Stmt := top 27
abbrev s__law_cell : Stmt := top 29
abbrev s__law_digits : Stmt := top 30
abbrev s__law_draw : Stmt := top 31
abbrev s__law_path : Stmt := top 32
abbrev s__law_line : Stmt := top 33
abbrev s__law_lines : Stmt := top 34
abbrev s__law_inside : Stmt := top 35
abbrev s__law_blocked : Stmt := top 36
abbrev s__law_files : Stmt := top 37
abbrev s__law_some_path : Stmt := top 39
abbrev s__law_place : Stmt := top 40
abbrev s__law_question : Stmt := top 41
abbrev s__law_part : Stmt := top 42
abbrev s__law_deed : Stmt := top 43
abbrev s__law_action : Stmt := top 44
abbrev s__law_quoted : Stmt := top 45
abbrev s__law_bracketed : Stmt := top 46
abbrev s__law_tokens : Stmt := top 47
abbrev s__law_written : Stmt := top 48
abbrev s__law_alike : Stmt := top 49
abbrev s__law_loosen : Stmt := top 50
abbrev s_law : Stmt := top 51
abbrev s_TextFault___init__ : Stmt := subAt (top 2) 0
abbrev s_OutOfRange___init__ : Stmt := subAt (top 3) 0
abbrev s_Reader___init__ : Stmt := subAt (top 26) 0
abbrev s_Reader_kind : Stmt := subAt (top 26) 1
abbrev s_Reader_refuse : Stmt := subAt (top 26) 2
abbrev s_Reader_is_sign : Stmt := subAt (top 26) 3
abbrev s_Reader_expect : Stmt := subAt (top 26) 4
abbrev s_Reader_take : Stmt := subAt (top 26) 5
abbrev s_Reader_back : Stmt := subAt (top 26) 6
abbrev s_Reader_word : Stmt := subAt (top 26) 7
abbrev s_Reader_path : Stmt := subAt (top 26) 8
abbrev s_Reader_place : Stmt := subAt (top 26) 9
abbrev s_Reader_quoted_word : Stmt := subAt (top 26) 10
abbrev s_Reader_lines : Stmt := subAt (top 26) 11
abbrev s_Reader_action : Stmt := subAt (top 26) 12
abbrev s__law_rows : Stmt := top 38
def fa : List He.Fa := [.free "all", .str "LETTERS" "abcdefghijklmnopqrstuvwxyz0123456789", .free "len", .int "NAME_MOST" 8, .glo "is_name", .int "DEPTH_MOST" 3, .glo "is_path", .glo "_write_item", .str "ROOT" ".", .glo "_write_action", .glo "write_actions", .glo "TextFault", .glo "_quote_end", .str "ENDS" " \n()[]\"", .glo "_word_end", .str "SIGNS" "()[]", .glo "_split", .free "tuple", .glo "Reader", .int "TEXT_MOST" 8000, .glo "OutOfRange", .glo "read_actions", .glo "_law_cell", .free "range", .free "int", .glo "_law_digits", .glo "_law_draw", .glo "_law_path", .glo "_law_line", .glo "_law_lines", .glo "_law_inside", .glo "_law_blocked", .glo "_law_files", .free "sorted", .glo "_law_some_path", .glo "_law_place", .glo "_law_question", .glo "_law_part", .glo "_law_deed", .glo "_law_action", .glo "_law_quoted", .glo "_law_bracketed", .glo "_law_tokens", .glo "_law_written", .free "repr", .glo "_law_alike", .glo "_law_loosen", .glo "law", .meth "TextFault" "__init__", .meth "OutOfRange" "__init__", .meth "Reader" "__init__", .meth "Reader" "kind", .meth "Reader" "refuse", .meth "Reader" "is_sign", .meth "Reader" "expect", .meth "Reader" "take", .meth "Reader" "back", .glo "DEEDS", .glo "QUESTIONS", .meth "Reader" "word", .meth "Reader" "path", .meth "Reader" "place", .int "WORD_MOST" 12, .meth "Reader" "quoted_word", .int "LINES_MOST" 12, .int "LINE_MOST" 20, .meth "Reader" "lines", .meth "Reader" "action", .glo "_law_rows", .noat "OutOfRange" "name", .noat "TextFault" "line", .noat "TextFault" "column", .noat "TextFault" "words", .cls "Reader", .mkr "Reader", .noat "Reader" "_tokens", .noat "Reader" "_at"]
def fn : List He.DefD := [dOf "is_name" s_is_name, dOf "is_path" s_is_path, dOf "_write_item" s__write_item, dOf "_write_action" s__write_action, dOf "write_actions" s_write_actions, dOf "_quote_end" s__quote_end, dOf "_word_end" s__word_end, dOf "_split" s__split, dOf "read_actions" s_read_actions, dOf "_law_cell" s__law_cell, dOf "_law_digits" s__law_digits, dOf "_law_draw" s__law_draw, dOf "_law_path" s__law_path, dOf "_law_line" s__law_line, dOf "_law_lines" s__law_lines, dOf "_law_inside" s__law_inside, dOf "_law_blocked" s__law_blocked, dOf "_law_files" s__law_files, dOf "_law_some_path" s__law_some_path, dOf "_law_place" s__law_place, dOf "_law_question" s__law_question, dOf "_law_part" s__law_part, dOf "_law_deed" s__law_deed, dOf "_law_action" s__law_action, dOf "_law_quoted" s__law_quoted, dOf "_law_bracketed" s__law_bracketed, dOf "_law_tokens" s__law_tokens, dOf "_law_written" s__law_written, dOf "_law_alike" s__law_alike, dOf "_law_loosen" s__law_loosen, dOf "law" s_law, dOfM "TextFault" "__init__" "TextFault.__init__" s_TextFault___init__, dOfM "OutOfRange" "__init__" "OutOfRange.__init__" s_OutOfRange___init__, dOfM "Reader" "__init__" "Reader.__init__" s_Reader___init__, dOfM "Reader" "kind" "Reader.kind" s_Reader_kind, dOfM "Reader" "refuse" "Reader.refuse" s_Reader_refuse, dOfM "Reader" "is_sign" "Reader.is_sign" s_Reader_is_sign, dOfM "Reader" "expect" "Reader.expect" s_Reader_expect, dOfM "Reader" "take" "Reader.take" s_Reader_take, dOfM "Reader" "back" "Reader.back" s_Reader_back, dOfM "Reader" "word" "Reader.word" s_Reader_word, dOfM "Reader" "path" "Reader.path" s_Reader_path, dOfM "Reader" "place" "Reader.place" s_Reader_place, dOfM "Reader" "quoted_word" "Reader.quoted_word" s_Reader_quoted_word, dOfM "Reader" "lines" "Reader.lines" s_Reader_lines, dOfM "Reader" "action" "Reader.action" s_Reader_action, dOf "_law_rows" s__law_rows]
def fx : List Fx := [.cst "QUESTIONS" (.tuple [(.str "read"), (.str "kind"), (.str "list"), (.str "find"), (.str "count")]), .cst "DEEDS" (.tuple [(.str "write"), (.str "remove"), (.str "move"), (.str "splice")]), .oex "OutOfRange", .xf "OutOfRange", .oex "TextFault", .xf "TextFault"]
abbrev TX (K : PySem.W.Frag) (mg : Str → Option Value) : Prop := Tx fa fn fx K mg
end K06
namespace K06
open PySem L2 Sa
abbrev R : PySem.W.OpenRow := PySem.W.OpenLaw.row PySem.Challenge.rw_sameanswers_k06_actions_written_and_read
abbrev qv : Program := PySem.W.view R.prog [51]
abbrev hk : PySem.W.Hook := He.hookX 5 fa fn [] [] (exs fx)
def ob (s : PySem.W.SharedT) : He.AlX := He.obsX 5 fa fn [] [] (exs fx) (HandSHeadRun.getT s)
theorem ob_eq (s : PySem.W.SharedT) : ob s = hk.obs s.abs := He.obsX_eq (HandSHeadRun.getT_eq s)
def loose0 : List PySem.Str := ["TrunkError", "TextFault", "OutOfRange", "NAME_MOST", "DEPTH_MOST", "LINE_MOST", "LINES_MOST", "WORD_MOST", "LETTERS", "is_name", "is_path", "QUESTIONS", "DEEDS", "TEXT_MOST", "ROOT", "SIGNS", "ENDS", "_write_item", "_write_action", "write_actions", "_quote_end", "_word_end", "_split", "Reader", "read_actions", "_law_cell", "_law_digits", "_law_draw", "_law_path", "_law_line"]
def loose1 : List PySem.Str := ["_law_lines", "_law_inside", "_law_blocked", "_law_files", "_law_rows", "_law_some_path", "_law_place", "_law_question", "_law_part", "_law_deed", "_law_action", "_law_quoted", "_law_bracketed", "_law_tokens", "_law_written", "_law_alike", "_law_loosen"]
def loose : List PySem.Str := loose0 ++ loose1
theorem run (w : World) : HandSHeadRun.RunEq R qv hk ob 4000 loose w := by
  intro os
  kernel_rfl
end K06

namespace K06
open PySem L2 Sa
section
variable {P : Program} {w : World} {K : PySem.W.Frag} {mg : Str → Option Value} {base : Heap}
theorem sc__law_draw : FnScope ["_law_box", "_law_many", "_law_at"] ["_law_box", "_law_many"] (defScope s__law_draw) := ⟨rfl, rfl, rfl, by decide +kernel, rfl, by decide +kernel, by decide +kernel⟩
theorem bn__law_draw : BindN "_law_draw" s__law_draw ["_law_box", "_law_many"] := fun _ _ _ _ _ _ us hl => match us, hl with | [_, _], _ => rfl
def spDraw : Sp := fun vs H Q _ => ∃ (b d : Addr) (many : Int), vs = [.ref b, .int many] ∧ Bx H b d ∧ 0 < many ∧ ∀ (i : Int) (H' : Hp), 0 ≤ i → i < many → Kp [b] H H' → Bx H' b d → Q (.int i) H'
theorem b__law_draw (T : TX K mg) : Body P w K mg base "_law_draw" s__law_draw ["_law_box", "_law_many", "_law_at"] 1 spDraw := by
  intro cdv A outer s H vs Q E h X hr
  obtain ⟨b, d, many, rfl, B, hm, k⟩ := h
  obtain ⟨at_, ds, h1, h2, h3⟩ := B.ex
  refine ⟨_, (pss_cons (ps_set (i := 2) sc__law_draw.nd rfl (Or.inl rfl) (pe_ix (ix_U (K := K)) (pv 0) pe_int (fun _ _ => rfl))) (pss_cons (ps_asg (pe_op (op_addU (K := K)) (pv 2) pe_int) (pg_sub (pv 0) pe_int set_list)) (pss_cons (ps_if (pt_cmpR op_ltU (pv 2) (pe_callB (cr_len (K := K)) rfl (T.free 2) PySem.boot_len (pa_cons (pe_ix (ix_U (K := K)) (pv 0) pe_int (fun _ _ => rfl)) pa_nil)) (nomark _)) (pss_one (ps_ret (pe_op op_modU (pe_callTy cr_int rfl (T.free 24) (by decide +kernel) (pa_cons (pe_ix (ix_U (K := K)) (pe_ix (ix_U (K := K)) (pv 0) pe_int (fun _ _ => rfl)) (pv 2) (fun _ _ => rfl)) pa_nil)) (pv 1)))) pss_nil) (pss_one (ps_ret (pe_op op_modU (pe_callTy cr_int rfl (T.free 24) (by decide +kernel) (pa_cons (pe_op (op_addU (K := K)) (pe_op (op_mulU (K := K)) (pv 2) pe_int) pe_int) pa_nil)) (pv 1))))))), ?_⟩
  have hne := B.ne
  walk_at "st"
  have fin : ∀ z : Int, Q (.int (z % many)) (upd H b (.lst [.ref d, .int (at_ + 1)])) := fun z => by
    refine k _ _ (Int.emod_nonneg _ (by omega)) (Int.emod_lt_of_pos _ hm) (Kp.mut (by simp)) ⟨at_ + 1, ds, upd_same, upd_other hne h2, by omega⟩
  refine c_ite (fun hlt => ?_) (fun hlt => ?_)
  · walk_at "st"
    rw [List.length_map] at hlt
    refine c_ixL (by walk_at "lk") (atI_ints h3 hlt) ?_
    walk_at "st"
    exact fin _
  · walk_at "st"
    exact fin _
theorem D__law_draw (T : TX K mg) : DefAt P w K mg base CX0 "_law_draw" 2 ["_law_box", "_law_many"] spDraw :=
  def_of T 11 26 sc__law_draw bn__law_draw (fun vs H Q E h => by obtain ⟨b, d, many, rfl, _⟩ := h; rfl) (b__law_draw T)

theorem sc__law_cell : FnScope ["_law_script", "_law_k"] ["_law_script", "_law_k"] (defScope s__law_cell) := ⟨rfl, rfl, rfl, by decide +kernel, rfl, by decide +kernel, by decide +kernel⟩
theorem bn__law_cell : BindN "_law_cell" s__law_cell ["_law_script", "_law_k"] := fun _ _ _ _ _ _ us hl => match us, hl with | [_, _], _ => rfl
def spCell (K : PySem.W.Frag) : Sp := fun vs H Q _ => ∃ (a : Addr) (ns : List Int) (k : Int), vs = [.ref a, .int k] ∧ SqL K H a (ns.map V.int) ∧ 0 ≤ k ∧ ∀ n : Int, Q (.int n) H
theorem b__law_cell (T : TX K mg) : Body P w K mg base "_law_cell" s__law_cell ["_law_script", "_law_k"] 1 (spCell K) := by
  intro cdv A outer s H vs Q E h X hr
  obtain ⟨a, ns, k, rfl, hs, h0, q⟩ := h
  refine ⟨_, (pss_cons (ps_if (pt_cmpR op_ltU (pv 1) (pe_callB (cr_len (K := K)) rfl (T.free 2) PySem.boot_len (pa_cons (pv 0) pa_nil)) (nomark _)) (pss_one (ps_ret (pe_ix (ix_U (K := K)) (pv 0) (pv 1) (fun _ _ => rfl)))) pss_nil) (pss_one (ps_ret pe_int))), ?_⟩
  walk_at "st"
  refine c_ite (fun hlt => ?_) (fun hlt => ?_)
  · walk_at "st"
    rw [List.length_map] at hlt
    refine c_ixL hs (atI_ints h0 hlt) ?_
    exact q _
  · walk_at "st"
    exact q _
theorem D__law_cell (T : TX K mg) : DefAt P w K mg base CX0 "_law_cell" 2 ["_law_script", "_law_k"] (spCell K) :=
  def_of T 9 22 sc__law_cell bn__law_cell (fun vs H Q E h => by obtain ⟨b, d, many, rfl, _⟩ := h; rfl) (b__law_cell T)
theorem sc__law_digits : FnScope ["_law_script", "_law_first", "_law_last", "_law_digits_here", "_law_k", "_law_cell_here", "_law_turn", "_law_seed"] ["_law_script", "_law_first", "_law_last"] (defScope s__law_digits) := ⟨rfl, rfl, rfl, by decide +kernel, rfl, by decide +kernel, by decide +kernel⟩
theorem bn__law_digits : BindN "_law_digits" s__law_digits ["_law_script", "_law_first", "_law_last"] := fun _ _ _ _ _ _ us hl => match us, hl with | [_, _, _], _ => rfl
def spDigits (K : PySem.W.Frag) : Sp := fun vs H Q _ => ∃ (a : Addr) (ns : List Int), vs = [.ref a, .int 0, .int 63] ∧ SqL K H a (ns.map V.int) ∧ ∀ (p : Addr) (ds : List Int), H p = none → Q (.ref p) (upd H p (.lst (ds.map V.int)))
theorem b__law_digits (T : TX K mg) : Body P w K mg base "_law_digits" s__law_digits ["_law_script", "_law_first", "_law_last", "_law_digits_here", "_law_k", "_law_cell_here", "_law_turn", "_law_seed"] 2 (spDigits K) := by
  intro cdv A outer s H vs Q E h X hr
  obtain ⟨a, ns, rfl, hs, q⟩ := h
  have D__law_cell : DefAt P w K mg base CX0 "_law_cell" 2 ["_law_script", "_law_k"] (spCell K) := D__law_cell T
  refine ⟨_, (pss_cons (ps_set (i := 3) sc__law_digits.nd rfl (Or.inl rfl) (pe_lst pa_nil)) (pss_cons (ps_for PassesOwn.never rfl (pi_range2 rfl (T.free 23) (pa_cons (pv 1) (pa_cons (pv 2) pa_nil))) (pg_name (i := 4) sc__law_digits.nd rfl (Or.inl rfl)) (pss_cons (ps_set (i := 5) sc__law_digits.nd rfl (Or.inl rfl) (pe_callA D__law_cell hr pass0 (pa_cons (pv 0) (pa_cons (pv 4) pa_nil)))) (Evl.pss_cut (ps_if (pt_cmpR op_ltU (pv 5) pe_int (nomark _)) (pss_one (ps_set (i := 5) sc__law_digits.nd rfl (Or.inl rfl) (pe_op op_subU pe_int (pe_op (op_mulU (K := K)) pe_int (pv 5))))) pss_nil) (pss_one (ps_if (pt_cmpR op_geU (pv 5) pe_int (nomark _)) (pss_one (ps_for PassesOwn.never rfl (pi_range1 rfl (T.free 23) (pa_cons pe_int pa_nil)) (pg_name (i := 6) sc__law_digits.nd rfl (Or.inl rfl)) (pss_one (ps_if (pt_cmpR op_gtU (pv 5) pe_int (nomark _)) (pss_cons (ps_expr (pe_appendU (K := K) (pv 3) (pe_op op_modU (pe_callTy cr_int rfl (T.free 24) (by decide +kernel) (pa_cons (pv 5) pa_nil)) pe_int))) (pss_one (ps_set (i := 5) sc__law_digits.nd rfl (Or.inl rfl) (pe_op op_divU (pv 5) pe_int)))) pss_nil)))) (pss_cons (ps_set (i := 7) sc__law_digits.nd rfl (Or.inl rfl) (pe_op op_modU (pe_callTy cr_int rfl (T.free 24) (by decide +kernel) (pa_cons (pe_op (op_addU (K := K)) (pe_op (op_addU (K := K)) (pe_op (op_mulU (K := K)) (pv 5) pe_int) (pe_op (op_mulU (K := K)) (pv 4) pe_int)) pe_int) pa_nil)) pe_int)) (pss_one (ps_for PassesOwn.never rfl (pi_range1 rfl (T.free 23) (pa_cons pe_int pa_nil)) (pg_name (i := 6) sc__law_digits.nd rfl (Or.inl rfl)) (pss_cons (ps_set (i := 7) sc__law_digits.nd rfl (Or.inl rfl) (pe_op op_modU (pe_callTy cr_int rfl (T.free 24) (by decide +kernel) (pa_cons (pe_op (op_addU (K := K)) (pe_op (op_addU (K := K)) (pe_op (op_mulU (K := K)) (pv 7) pe_int) (pe_op (op_mulU (K := K)) pe_int (pv 6))) pe_int) pa_nil)) pe_int)) (pss_one (ps_expr (pe_appendU (K := K) (pv 3) (pe_op op_modU (pe_callTy cr_int rfl (T.free 24) (by decide +kernel) (pa_cons (pe_op op_divU (pv 7) pe_int) pa_nil)) pe_int))))))))))))) (pss_one (ps_ret (pv 3))))), ?_⟩
  walk_at "st"
  walk_at "nw"
  rintro p _ ⟨hp, rfl⟩
  walk_at "st"
  refine forR (fun i σ H' => ∃ (ds : List Int) (v4 v5 v6 v7 : Option V), σ = [some (.ref a), some (.int 0), some (.int 63), some (.ref p), v4, v5, v6, v7] ∧ H' = upd H p (.lst (ds.map V.int)) ∧ ds.length ≤ 60 * i)
    ⟨[], _, _, _, _, rfl, rfl, Nat.le_refl _⟩ ?_ ?_
  · rintro i σ _ hi ⟨ds, v4, v5, v6, v7, rfl, rfl, hl⟩
    have hi : i < 63 := hi
    walk_at "st"
    refine ⟨a, ns, _, rfl, by walk_at "lk", by omega, fun n => ?_⟩
    walk_at "st"
    refine c_cut (fun σ' H' => ∃ m : Int, σ' = [some (.ref a), some (.int 0), some (.int 63), some (.ref p), some (.int (0 + (i : Int))), some (.int m), v6, v7] ∧ H' = upd H p (.lst (ds.map V.int))) ?_ ?_
    · walk_at "st"
      refine c_ite (fun hlt => ?_) (fun hlt => ?_)
      · walk_at "st"
        exact ⟨_, rfl, rfl⟩
      · walk_at "st"
        exact ⟨_, rfl, rfl⟩
    · rintro _ _ ⟨m, rfl, rfl⟩
      walk_at "st"
      refine c_ite (fun hlt => ?_) (fun hlt => ?_)
      · walk_at "st"
        refine forR (fun j σ H' => ∃ (ds' : List Int) (v6 : Option V) (m : Int), σ = [some (.ref a), some (.int 0), some (.int 63), some (.ref p), some (.int (0 + (i : Int))), some (.int m), v6, v7] ∧ H' = upd H p (.lst (ds'.map V.int)) ∧ ds'.length ≤ ds.length + j)
          ⟨ds, _, _, rfl, rfl, Nat.le_refl _⟩ ?_ ?_
        · rintro j σ _ hj ⟨ds', v6, m, rfl, rfl, hl'⟩
          have hj : j < 60 := hj
          walk_at "st"
          refine c_ite (fun hlt => ?_) (fun hlt => ?_)
          · walk_at "st"
            refine ⟨ds' ++ [m % 1000], _, _, rfl, by rw [upd_upd, map_snocI], by rw [List.length_append, List.length_singleton]; omega⟩
          · walk_at "st"
            exact ⟨ds', _, _, rfl, rfl, by omega⟩
        · rintro σ _ ⟨ds', v6, m, rfl, rfl, hl'⟩
          have hl' : ds'.length ≤ ds.length + 60 := hl'
          walk_at "st"
          exact ⟨ds', _, _, _, _, rfl, rfl, by omega⟩
      · walk_at "st"
        refine forR (fun j σ H' => ∃ (ds' : List Int) (v6 : Option V) (m z : Int), σ = [some (.ref a), some (.int 0), some (.int 63), some (.ref p), some (.int (0 + (i : Int))), some (.int m), v6, some (.int z)] ∧ H' = upd H p (.lst (ds'.map V.int)) ∧ ds'.length ≤ ds.length + j)
          ⟨ds, _, _, _, rfl, rfl, Nat.le_refl _⟩ ?_ ?_
        · rintro j σ _ hj ⟨ds', v6, m, z, rfl, rfl, hl'⟩
          have hj : j < 12 := hj
          walk_at "st"
          refine ⟨ds' ++ [_], _, _, _, rfl, by rw [upd_upd, map_snocI], by rw [List.length_append, List.length_singleton]; omega⟩
        · rintro σ _ ⟨ds', v6, m, z, rfl, rfl, hl'⟩
          have hl' : ds'.length ≤ ds.length + 12 := hl'
          walk_at "st"
          exact ⟨ds', _, _, _, _, rfl, rfl, by omega⟩
  · rintro σ _ ⟨ds, v4, v5, v6, v7, rfl, rfl, hl⟩
    walk_at "st"
    exact q p ds hp
theorem D__law_digits (T : TX K mg) : DefAt P w K mg base CX0 "_law_digits" 3 ["_law_script", "_law_first", "_law_last"] (spDigits K) :=
  def_of T 10 25 sc__law_digits bn__law_digits (fun vs H Q E h => by obtain ⟨b, d, rfl, _⟩ := h; rfl) (b__law_digits T)
end
end K06



namespace K06
open PySem L2 Sa
def isNameS (z : Str) : Bool := decide (1 ≤ z.length) && decide (z.length ≤ 8) && z.cps.toList.all fun c => decide (c ∈ (PySem.Str.ofString "abcdefghijklmnopqrstuvwxyz0123456789").cps.toList)
def isPathS (z : Str) : Bool := decide ((Txt.split z (PySem.Str.ofString "/")).length ≤ 3) && (Txt.split z (PySem.Str.ofString "/")).all isNameS
def isPlaceS (z : Str) : Bool := decide (z = PySem.Str.ofString "") || isPathS z
def plainC (c : Nat) : Bool := decide (32 ≤ c) && decide (c ≤ 126) && !decide (c = 34) && !decide (c = 37)
def isPlainS (z : Str) : Bool := z.cps.toList.all plainC
def isLineS (z : Str) : Bool := decide (z.length ≤ 20) && isPlainS z
def isWordS (z : Str) : Bool := decide (1 ≤ z.length) && decide (z.length ≤ 12) && isPlainS z
def isLinesS (ys : List Str) : Bool := decide (ys.length ≤ 12) && ys.all isLineS
def isInsideS (x y : Str) : Bool := decide (y = PySem.Str.ofString "") || Txt.startswith x (y ++ PySem.Str.ofString "/")
def spStrB (f : Str → Bool) : Sp := fun vs H Q _ => ∃ z : Str, vs = [.str z] ∧ z.length ≤ 100000 ∧ ∀ H', Kp [] H H' → Q (.bl (f z)) H'
theorem spStrB_len (f : Str → Bool) : ∀ vs H Q E, spStrB f vs H Q E → vs.length = 1 := fun vs H Q E h => by obtain ⟨z, rfl, _⟩ := h; rfl
theorem split_small {z y : Str} (h : z.length ≤ 100000) (hy : 0 < y.length) : (Txt.split z y).length ≤ 100001 := by have := split_many (x := z) y hy; omega
theorem all_bl {α : Type} (ys : List α) (f : α → Bool) : (ys.map fun y => V.bl (f y)) = (ys.map f).map V.bl := by simp [Function.comp_def]
theorem all_id {α : Type} (ys : List α) (f : α → Bool) : (ys.map f).all id = ys.all f := by simp [List.all_map, Function.comp_def]
theorem fil_true {α : Type} (ys : List α) : ys.filter (fun _ => true) = ys := by simp
theorem join_ne_nil {z y : Str} : (Txt.split z y) ≠ [] ∨ z = PySem.Str.ofString "" := by
  by_cases h : Txt.split z y = []
  · right
    have e := StrLaws.join_split z y
    rw [h] at e
    rw [← e]
    rfl
  · exact .inl h
section
variable {P : Program} {w : World} {K : PySem.W.Frag} {mg : Str → Option Value} {base : Heap}
theorem sc_is_name : FnScope ["text", "sign"] ["text"] (defScope s_is_name) := ⟨rfl, rfl, rfl, by decide +kernel, rfl, by decide +kernel, by decide +kernel⟩
theorem bn_is_name : BindN "is_name" s_is_name ["text"] := fun _ _ _ _ _ _ us hl => match us, hl with | [_], _ => rfl
theorem b_is_name (T : TX K mg) : Body P w K mg base "is_name" s_is_name ["text", "sign"] 1 (spStrB isNameS) := by
  intro cdv A outer s H vs Q E h X hr
  obtain ⟨z, rfl, hz, q⟩ := h
  refine ⟨_, (pss_one (ps_ret (pe_and (pe_chain op_leU op_leU pe_int (pe_callB (cr_len (K := K)) rfl (T.free 2) PySem.boot_len (pa_cons (pv 0) pa_nil)) (pe_gInt (T.int 3))) (pe_one (pe_callB (cr_allU (K := K) rfl) rfl (T.free 0) (by decide +kernel) (pa_cons (pe_lc (own := [("sign", 1)]) rfl sc_is_name.nd (pi_str (pv 0)) (blkOk_by (N := ["text", "sign"]) (sc := defScope s_is_name) (by decide +kernel)) (fun _ _ _ _ _ => (pg_name (i := 1) sc_is_name.nd rfl (Or.inl rfl))) (fun _ _ _ _ _ => pts_nil) (fun _ _ _ _ _ => (pe_cmpR (op_inU (K := K)) (pv 1) (pe_gStr (T.str 1)) rfl))) pa_nil)))))), ?_⟩
  have no : ¬ (1 ≤ z.length ∧ z.length ≤ 8) → Q (.bl false) H := fun h => by
    have e : isNameS z = false := by unfold isNameS; by_cases h1 : 1 ≤ z.length <;> by_cases h2 : z.length ≤ 8 <;> simp [h1, h2] <;> exact absurd ⟨h1, h2⟩ h
    have := q H Kp.refl
    rw [e] at this
    exact this
  walk_at "st"
  refine c_ite (fun h1 => ?_) (fun h1 => ?_)
  · walk_at "st"
    refine c_ite (fun h2 => ?_) (fun h2 => ?_)
    · walk_at "st"
      refine lcS_map (fun c => V.bl (decide (c ∈ (PySem.Str.ofString "abcdefghijklmnopqrstuvwxyz0123456789").cps.toList))) (fun _ => true) (by omega) (fun c H' R S hc e k1 k2 => ?_) (fun Dl H' hD e hacc => ?_)
      · walk_at "st"
        refine ⟨rfl, ?_⟩
        walk_at "st"
        exact k1 rfl _ Kp.refl
      · rw [fil_true, all_bl] at hacc
        refine c_allB (SqL.of hacc) ?_
        rw [all_id]
        have g := q H' e
        have e2 : isNameS z = z.cps.toList.all fun c => decide (c ∈ (PySem.Str.ofString "abcdefghijklmnopqrstuvwxyz0123456789").cps.toList) := by
          unfold isNameS
          rw [decide_eq_true (by omega), decide_eq_true (by omega), Bool.true_and, Bool.true_and]
        rw [e2] at g
        exact g
    · walk_at "st"
      exact no (by omega)
  · walk_at "st"
    exact no (by omega)
theorem D_is_name (T : TX K mg) : DefAt P w K mg base CX0 "is_name" 2 ["text"] (spStrB isNameS) :=
  def_of T 0 4 sc_is_name bn_is_name (spStrB_len _) (b_is_name T)
theorem sc_is_path : FnScope ["text", "names", "name"] ["text"] (defScope s_is_path) := ⟨rfl, rfl, rfl, by decide +kernel, rfl, by decide +kernel, by decide +kernel⟩
theorem bn_is_path : BindN "is_path" s_is_path ["text"] := fun _ _ _ _ _ _ us hl => match us, hl with | [_], _ => rfl
theorem b_is_path (T : TX K mg) : Body P w K mg base "is_path" s_is_path ["text", "names", "name"] 2 (spStrB isPathS) := by
  intro cdv A outer s H vs Q E h X hr
  obtain ⟨z, rfl, hz, q⟩ := h
  have D_is_name : DefAt P w K mg base CX0 "is_name" 2 ["text"] (spStrB isNameS) := D_is_name T
  refine ⟨_, (pss_cons (ps_set (i := 1) sc_is_path.nd rfl (Or.inl rfl) (pe_splitU (pv 0) pe_str)) (pss_one (ps_ret (pe_and (pe_cmpR op_leU (pe_callB (cr_len (K := K)) rfl (T.free 2) PySem.boot_len (pa_cons (pv 1) pa_nil)) (pe_gInt (T.int 5)) (nomark _)) (pe_one (pe_callB (cr_allU (K := K) rfl) rfl (T.free 0) (by decide +kernel) (pa_cons (pe_lc (own := [("name", 2)]) rfl sc_is_path.nd (pi_listU (K := K) (pv 1)) (blkOk_by (N := ["text", "names", "name"]) (sc := defScope s_is_path) (by decide +kernel)) (fun _ _ _ _ _ => (pg_name (i := 2) sc_is_path.nd rfl (Or.inl rfl))) (fun _ _ _ _ _ => pts_nil) (fun _ _ _ _ _ => (pe_callA D_is_name hr pass0 (pa_cons (pv 2) pa_nil)))) pa_nil))))))), ?_⟩
  walk_at "st"
  refine c_split (by decide) (by rw [sizeLine_eq]; omega) fun p H1 N => ?_
  have hs := split_small (z := z) (y := PySem.Str.ofString "/") hz (by decide)
  walk_at "st"
  refine c_ite (fun h1 => ?_) (fun h1 => ?_)
  · walk_at "st"
    rw [List.length_map] at h1
    refine lcL_map (fun y => V.bl (isNameS y)) (fun _ => true) (SqL.of N.at_) (by omega) (fun y H' R S hy e k1 k2 => ?_) (fun Dl H' hD e hacc => ?_)
    · walk_at "st"
      refine ⟨rfl, ?_⟩
      walk_at "st"
      have hl := split_part hy
      exact ⟨y, rfl, by omega, fun H4 e4 => k1 rfl _ e4⟩
    · rw [fil_true, all_bl] at hacc
      refine c_allB (SqL.of hacc) ?_
      rw [all_id]
      have g := q H' (N.kp.trans e)
      unfold isPathS at g
      rw [decide_eq_true (by omega), Bool.true_and] at g
      exact g
  · walk_at "st"
    rw [List.length_map] at h1
    have g := q H1 N.kp
    unfold isPathS at g
    rw [decide_eq_false (by omega), Bool.false_and] at g
    exact g
theorem D_is_path (T : TX K mg) : DefAt P w K mg base CX0 "is_path" 3 ["text"] (spStrB isPathS) :=
  def_of T 1 6 sc_is_path bn_is_path (spStrB_len _) (b_is_path T)
end
end K06



namespace K06
open PySem L2 Sa
section
variable {P : Program} {w : World} {K : PySem.W.Frag} {mg : Str → Option Value} {base : Heap}
theorem sc_OutOfRange___init__ : FnScope ["self", "name"] ["self", "name"] (defScope s_OutOfRange___init__) := ⟨rfl, rfl, rfl, by decide +kernel, rfl, by decide +kernel, by decide +kernel⟩
theorem bn_OutOfRange___init__ : BindM "__init__" "OutOfRange.__init__" s_OutOfRange___init__ ["self", "name"] := fun _ _ _ _ _ _ us hl => match us, hl with | [_, _], _ => rfl
theorem b_oor (T : TX K mg) : BodyM P w K mg base "OutOfRange" "__init__" "OutOfRange.__init__" s_OutOfRange___init__ ["self", "name"] 1 (spInit K (He.ga K "OutOfRange") "name") := by
  intro cdv A outer s H vs Q E h X hr
  obtain ⟨a, v, rfl, ha, q⟩ := h
  refine ⟨_, (pss_one (ps_ost (pv 0) (pv 1))), ?_⟩
  have hc := T.oex 2
  walk_at "st"
  refine c_ost ?_
  walk_at "st"
  refine ⟨a, He.ga K "OutOfRange", rfl, hc, He.noat_ok (T.fact 69), .inl ⟨ha, fun dx h1 h2 => ?_⟩⟩
  exact q dx h1 h2
theorem E_OutOfRange (T : TX K mg) : ErrC P w K mg base "OutOfRange" "name" :=
  ⟨T.glo 20, T.oex 2, T.xfc 3, He.noat_ok (T.fact 69), _,
    meth_of T 32 49 sc_OutOfRange___init__ bn_OutOfRange___init__ (fun vs H Q E h => by obtain ⟨b, d, rfl, _⟩ := h; rfl) (b_oor T)⟩
end
end K06



namespace K06
open PySem L2 Sa
structure Sane (fs : List File) : Prop where
  len : fs.length ≤ 500
  row : ∀ f ∈ fs, f.1.length ≤ 1000 ∧ f.2.length ≤ 500 ∧ ∀ y ∈ f.2, y.length ≤ 1000
def pathsOf (fs : List File) : List Str := fs.map Prod.fst
def goodRow (ps : List Str) (f : File) : Bool := isPathS f.1 && isLinesS f.2 && !(ps.any fun o => isInsideS f.1 o)
def goodF (fs : List File) : Bool := decide (fs.length ≤ 20) && !decide ((ded (pathsOf fs)).length < fs.length) && fs.all (goodRow (pathsOf fs))
section
variable {P : Program} {w : World} {K : PySem.W.Frag} {mg : Str → Option Value} {base : Heap}
end
end K06


namespace K06
open PySem L2 Sa
section
variable {P : Program} {w : World} {K : PySem.W.Frag} {mg : Str → Option Value} {base : Heap}
end
end K06



namespace K06
open PySem L2 Sa
section
variable {P : Program} {w : World} {K : PySem.W.Frag} {mg : Str → Option Value} {base : Heap}
end
end K06



namespace K06
open PySem L2 Sa
section
variable {P : Program} {w : World} {K : PySem.W.Frag} {mg : Str → Option Value} {base : Heap}
end
end K06



namespace K06
open PySem L2 Sa
def withoutF (fs : List File) (p : Str) : List File := fs.filter fun f => !decide (f.1 = p)
def withF (fs : List File) (p : Str) (ls : List Str) : List File := withoutF fs p ++ [(p, ls)]
section
variable {P : Program} {w : World} {K : PySem.W.Frag} {mg : Str → Option Value} {base : Heap}
end
end K06



namespace K06
open PySem L2 Sa
inductive Action where
  | read (p : Str) | kind (z : Str) | list (z : Str) | find (z w : Str) | count (z : Str)
  | write (p : Str) (ls : List Str) | remove (p : Str) | move (p t : Str) | splice (p : Str) (old new : List Str)
def ActAt (K : PySem.W.Frag) (H : Hp) (a : Addr) : Action → Prop
  | .read p => SqT K H a [.str "read", .str p]
  | .kind z => SqT K H a [.str "kind", .str z]
  | .list z => SqT K H a [.str "list", .str z]
  | .find z w => SqT K H a [.str "find", .str z, .str w]
  | .count z => SqT K H a [.str "count", .str z]
  | .write p ls => ∃ l, SqT K H a [.str "write", .str p, .ref l] ∧ SqT K H l (ls.map V.str)
  | .remove p => SqT K H a [.str "remove", .str p]
  | .move p t => SqT K H a [.str "move", .str p, .str t]
  | .splice p old new => ∃ l m, SqT K H a [.str "splice", .str p, .ref l, .ref m] ∧ SqT K H l (old.map V.str) ∧ SqT K H m (new.map V.str)
theorem ActAt.kp {K : PySem.W.Frag} {H H' : Hp} {a : Addr} (e : Kp [] H H') : ∀ {x : Action}, ActAt K H a x → ActAt K H' a x
  | .read _, h => SqT.kp e h
  | .kind _, h => SqT.kp e h
  | .list _, h => SqT.kp e h
  | .find _ _, h => SqT.kp e h
  | .count _, h => SqT.kp e h
  | .write _ _, ⟨l, h1, h2⟩ => ⟨l, SqT.kp e h1, SqT.kp e h2⟩
  | .remove _, h => SqT.kp e h
  | .move _ _, h => SqT.kp e h
  | .splice _ _ _, ⟨l, m, h1, h2, h3⟩ => ⟨l, m, SqT.kp e h1, SqT.kp e h2, SqT.kp e h3⟩
def Action.bad : Action → Option Str
  | .read p => if isPathS p then none else some "path"
  | .kind z => if isPlaceS z then none else some "place"
  | .list z => if isPlaceS z then none else some "place"
  | .find z w => if isPlaceS z then (if isWordS w then none else some "word") else some "place"
  | .count z => if isPlaceS z then none else some "place"
  | .write p ls => if isPathS p then (if isLinesS ls then none else some "lines") else some "path"
  | .remove p => if isPathS p then none else some "path"
  | .move p t => if isPathS p then (if isPathS t then none else some "target") else some "path"
  | .splice p old new => if isPathS p then (if isLinesS old && decide (0 < old.length) then (if isLinesS new then none else some "new") else some "old") else some "path"
section
variable {P : Program} {w : World} {K : PySem.W.Frag} {mg : Str → Option Value} {base : Heap}
def RaisesE (K : PySem.W.Frag) (H : Hp) (E : XK) (nm : Str) : Prop := ∀ d H', Kp [] H H' → H' d = some (.xd [("name", .str nm)]) → E (.ref (He.ga K "OutOfRange")) (some d) H'
theorem RaisesE.kp {K : PySem.W.Frag} {H H1 : Hp} {E : XK} {nm : Str} (h : RaisesE K H E nm) (e : Kp [] H H1) : RaisesE K H1 E nm := fun d H' e' hd => h d H' (e.trans e') hd
end
end K06



namespace K06
open PySem L2 Sa
def Action.isQ : Action → Bool
  | .read _ | .kind _ | .list _ | .find _ _ | .count _ => true
  | _ => false
def insideF (fs : List File) (z : Str) : List Str := (pathsOf fs).filter fun y => isInsideS y z
def aboveF (fs : List File) (z : Str) : List Str := (pathsOf fs).filter fun y => isInsideS z y
def wordD (w : Str) : PyData := .tuple [.str w]
theorem lenSum (xs : List Str) (n : Nat) (h : ∀ x ∈ xs, x.length ≤ n) : (xs.map (·.length)).sum ≤ n * xs.length := by
  induction xs with
  | nil => simp
  | cons x r ih =>
    have h1 := h x (List.mem_cons_self ..)
    have h2 := ih fun y hy => h y (List.mem_cons_of_mem _ hy)
    rw [List.map_cons, List.sum_cons, List.length_cons, Nat.mul_add, Nat.mul_one]
    omega
theorem path_len {p : Str} (h : isPathS p = true) : p.length ≤ 26 := by
  unfold isPathS at h
  rw [Bool.and_eq_true, decide_eq_true_eq, List.all_eq_true] at h
  have e := split_len p (PySem.Str.ofString "/")
  have s := lenSum (Txt.split p (PySem.Str.ofString "/")) 8 fun x hx => by
    have := h.2 x hx
    unfold isNameS at this
    simp only [Bool.and_eq_true, decide_eq_true_eq] at this
    exact this.1.2
  have e1 : (PySem.Str.ofString "/").length = 1 := by decide
  rw [e1] at e
  omega
theorem lines_len {ls : List Str} (h : isLinesS ls = true) : ls.length ≤ 12 ∧ ∀ y ∈ ls, y.length ≤ 20 ∧ isPlainS y = true := by
  unfold isLinesS at h
  simp only [Bool.and_eq_true, decide_eq_true_eq, List.all_eq_true] at h
  refine ⟨h.1, fun y hy => ?_⟩
  have := h.2 y hy
  unfold isLineS at this
  simp only [Bool.and_eq_true, decide_eq_true_eq] at this
  exact this
theorem at_mem {fs : List File} {p : Str} {ls : List Str} (h : at? fs p = some ls) : (p, ls) ∈ fs := by
  unfold at? at h
  obtain ⟨f, h1, h2⟩ := Option.map_eq_some_iff.mp h
  have e := List.find?_some h1
  have m := List.mem_of_find?_eq_some h1
  simp only [decide_eq_true_eq] at e
  subst e h2
  exact m
theorem plain_ok {z : Str} (h : isPlainS z = true) : okS z = true := okS_iff.mpr fun c hc => by
  have := List.all_eq_true.mp h c hc
  unfold plainC at this
  simp only [Bool.and_eq_true, decide_eq_true_eq] at this
  omega
structure TreeG (K : PySem.W.Frag) (H : Hp) (t : Addr) (fs : List File) : Prop where
  at_ : TreeAt K H t fs
  good : goodF fs = true
theorem TreeG.kp {K : PySem.W.Frag} {H H' : Hp} {t : Addr} {fs : List File} (h : TreeG K H t fs) (e : Kp [] H H') : TreeG K H' t fs := ⟨h.at_.kp e, h.good⟩
theorem TreeG.ins {K : PySem.W.Frag} {H : Hp} {t : Addr} {fs : List File} (h : TreeG K H t fs) : ∃ dx d, H t = some (.ins (He.ga K "Tree") dx [("_files", .ref d)]) := by
  obtain ⟨⟨dx, d, _, hx, _⟩, _⟩ := h
  exact ⟨dx, d, hx⟩
section
variable {P : Program} {w : World} {K : PySem.W.Frag} {mg : Str → Option Value} {base : Heap}
end
end K06



namespace K06
open PySem L2 Sa
section
variable {P : Program} {w : World} {K : PySem.W.Frag} {mg : Str → Option Value} {base : Heap}
end
end K06



namespace K06
open PySem L2 Sa
def blockedF (fs : List File) (p : Str) : Bool := decide (0 < (insideF fs p).length) || decide (0 < (aboveF fs p).length)
structure GoodP (fs : List File) : Prop where
  len : fs.length ≤ 20
  once : Once fs
  path : ∀ f ∈ fs, isPathS f.1 = true
  lines : ∀ f ∈ fs, isLinesS f.2 = true
  apart : ∀ f ∈ fs, ∀ g ∈ fs, isInsideS f.1 g.1 = false
theorem GoodP.perm {fs gs : List File} (h : GoodP fs) (p : fs.Perm gs) : GoodP gs :=
  ⟨by rw [← p.length_eq]; exact h.len, (p.map Prod.fst).nodup h.once, fun f hf => h.path f (p.symm.subset hf), fun f hf => h.lines f (p.symm.subset hf), fun f hf g hg => h.apart f (p.symm.subset hf) g (p.symm.subset hg)⟩
theorem GoodP.sort {fs : List File} (h : GoodP fs) : GoodP (sortF fs) := h.perm (sortF_perm fs).symm
theorem GoodP.without {fs : List File} (h : GoodP fs) (p : Str) : GoodP (withoutF fs p) := by
  have sub : ∀ f ∈ withoutF fs p, f ∈ fs := fun f hf => (List.mem_filter.mp hf).1
  exact ⟨Nat.le_trans (List.length_filter_le _ _) h.len, List.Nodup.sublist (List.Sublist.map _ List.filter_sublist) h.once, fun f hf => h.path f (sub f hf), fun f hf => h.lines f (sub f hf), fun f hf g hg => h.apart f (sub f hf) g (sub g hg)⟩
theorem starts_len {x y : Str} (h : Txt.startswith x y = true) : y.length ≤ x.length := by
  rw [← cut_starts, decide_eq_true_eq] at h
  have := cutS_len x none (some (y.length : Int))
  rw [h] at this
  exact this
theorem path_ne {p : Str} (h : isPathS p = true) : p ≠ PySem.Str.ofString "" := fun e => by
  rw [e] at h
  revert h
  decide +kernel
theorem self_out {p : Str} (h : isPathS p = true) : isInsideS p p = false := by
  unfold isInsideS
  rw [decide_eq_false (path_ne h), Bool.false_or]
  cases q : Txt.startswith p (p ++ PySem.Str.ofString "/") with
  | false => rfl
  | true =>
    have := starts_len q
    rw [str_app_len] at this
    have e1 : (PySem.Str.ofString "/").length = 1 := by decide
    omega
theorem nob {fs : List File} {p : Str} (h : blockedF fs p = false) : (∀ g ∈ fs, isInsideS g.1 p = false) ∧ ∀ g ∈ fs, isInsideS p g.1 = false := by
  unfold blockedF at h
  simp only [Bool.or_eq_false_iff, decide_eq_false_iff_not, Nat.not_lt, Nat.le_zero, List.length_eq_zero_iff] at h
  refine ⟨fun g hg => ?_, fun g hg => ?_⟩
  · have := List.filter_eq_nil_iff.mp h.1 g.1 (List.mem_map_of_mem hg)
    simpa using this
  · have := List.filter_eq_nil_iff.mp h.2 g.1 (List.mem_map_of_mem hg)
    simpa using this
theorem at_isSome {fs : List File} {p : Str} : (at? fs p).isSome = true ↔ p ∈ pathsOf fs := by
  unfold at? pathsOf
  rw [Option.isSome_map, List.find?_isSome, List.mem_map]
  constructor
  · rintro ⟨f, hf, e⟩; exact ⟨f, hf, by simpa using e⟩
  · rintro ⟨f, hf, e⟩; exact ⟨f, hf, by simpa using e⟩
theorem without_len {fs : List File} {p : Str} (h : p ∈ pathsOf fs) : (withoutF fs p).length < fs.length := by
  obtain ⟨f, hf, e⟩ := List.mem_map.mp h
  unfold withoutF
  refine List.length_filter_lt_length_iff_exists.mpr ⟨f, hf, ?_⟩
  simp [e]
theorem GoodP.withf {fs : List File} {p : Str} {ls : List Str} (h : GoodP fs) (hp : isPathS p = true) (hl : isLinesS ls = true) (nb : (∀ g ∈ fs, isInsideS g.1 p = false) ∧ ∀ g ∈ fs, isInsideS p g.1 = false)
    (hn : fs.length < 20 ∨ (at? fs p).isSome = true) : GoodP (withF fs p ls) := by
  have hw := h.without p
  have mem : ∀ f ∈ withF fs p ls, f ∈ withoutF fs p ∨ f = (p, ls) := fun f hf => by
    rcases List.mem_append.mp hf with hf | hf
    · exact .inl hf
    · exact .inr (List.mem_singleton.mp hf)
  have sub : ∀ f ∈ withoutF fs p, f ∈ fs := fun f hf => (List.mem_filter.mp hf).1
  refine ⟨?_, ?_, fun f hf => ?_, fun f hf => ?_, fun f hf g hg => ?_⟩
  · unfold withF
    rw [List.length_append, List.length_singleton]
    rcases hn with hn | hn
    · have := List.length_filter_le (fun f : File => !decide (f.1 = p)) fs
      unfold withoutF
      omega
    · have := without_len (at_isSome.mp hn)
      have := h.len
      omega
  · unfold withF Once
    rw [List.map_append, List.nodup_append]
    refine ⟨hw.once, by simp, fun a ha b hb => ?_⟩
    simp only [List.map_cons, List.map_nil, List.mem_singleton] at hb
    subst hb
    obtain ⟨f, hf, rfl⟩ := List.mem_map.mp ha
    have := (List.mem_filter.mp hf).2
    simpa using this
  · rcases mem f hf with hf | rfl
    · exact hw.path f hf
    · exact hp
  · rcases mem f hf with hf | rfl
    · exact hw.lines f hf
    · exact hl
  · rcases mem f hf with hf | rfl <;> rcases mem g hg with hg | rfl
    · exact hw.apart f hf g hg
    · exact nb.1 f (sub f hf)
    · exact nb.2 g (sub g hg)
    · exact self_out hp
end K06



namespace K06
open PySem L2 Sa
def RetA (K : PySem.W.Frag) (H : Hp) (Q : VK) (r : PyData × List File) : Prop := ∀ p v t' H', Kp [] H H' → SqT K H' p [v, .ref t'] → Dt K H' v r.1 → TreeG K H' t' r.2 → Q (.ref p) H'
theorem RetA.kp {K : PySem.W.Frag} {H H1 : Hp} {Q : VK} {r : PyData × List File} (h : RetA K H Q r) (e : Kp [] H H1) : RetA K H1 Q r := fun p v t' H' e' h1 h2 h3 => h p v t' H' (e.trans e') h1 h2 h3
section
variable {P : Program} {w : World} {K : PySem.W.Frag} {mg : Str → Option Value} {base : Heap}
end
end K06



namespace K06
open PySem L2 Sa
def pathNames : List Str := ["a", "b", "ab", "x1"]
def lineTexts : List Str := ["x", "y", "x y", "", "todo", "yx", "note the x", "12345678901234567890"]
structure Pth (z : Str) : Prop where
  ex : ∃ ns : List Str, z = Txt.join (PySem.Str.ofString "/") ns ∧ 1 ≤ ns.length ∧ ns.length ≤ 3 ∧ ∀ n ∈ ns, n ∈ pathNames
theorem pathNames_len : ∀ n ∈ pathNames, n.length ≤ 2 := by decide +kernel
theorem sum_le {m : Nat} : ∀ {ns : List Str}, (∀ n ∈ ns, n.length ≤ m) → (ns.map (·.length)).sum ≤ ns.length * m
  | [], _ => Nat.zero_le _
  | n :: r, h => by
    have h1 := h n (List.mem_cons_self ..)
    have h2 := sum_le (ns := r) fun z hz => h z (List.mem_cons_of_mem _ hz)
    simp only [List.map_cons, List.sum_cons, List.length_cons, Nat.add_mul, Nat.one_mul]
    omega
theorem Pth.len {z : Str} (h : Pth z) : z.length ≤ 8 := by
  obtain ⟨ns, rfl, h1, h2, h3⟩ := h.ex
  rw [tjoin, ← join_len]
  have e1 := sum_le (m := 2) fun n hn => pathNames_len n (h3 n hn)
  have e2 : (PySem.Str.ofString "/").length = 1 := by decide
  rw [e2]
  omega
theorem pathNames_pos : ∀ n ∈ pathNames, 1 ≤ n.length := by decide +kernel
theorem Pth.pos {z : Str} (h : Pth z) : 1 ≤ z.length := by
  obtain ⟨ns, rfl, h1, h2, h3⟩ := h.ex
  rw [tjoin, ← join_len]
  cases ns with
  | nil => simp at h1
  | cons n r =>
    have := pathNames_pos n (h3 n (List.mem_cons_self ..))
    simp only [List.map_cons, List.sum_cons]
    omega
theorem Pth.parts {z : Str} (h : Pth z) (y : Str) : 1 ≤ (Txt.split z y).length := by
  cases e : Txt.split z y with
  | nil =>
    have j := StrLaws.join_split z y
    rw [e] at j
    have := h.pos
    rw [← j] at this
    exact absurd this (by show ¬ 1 ≤ 0; omega)
  | cons a r => simp
section
variable {P : Program} {w : World} {K : PySem.W.Frag} {mg : Str → Option Value} {base : Heap}
theorem sc__law_path : FnScope ["_law_box", "_law_depth", "_law_k"] ["_law_box"] (defScope s__law_path) := ⟨rfl, rfl, rfl, by decide +kernel, rfl, by decide +kernel, by decide +kernel⟩
theorem bn__law_path : BindN "_law_path" s__law_path ["_law_box"] := fun _ _ _ _ _ _ us hl => match us, hl with | [_], _ => rfl
def spPath : Sp := fun vs H Q _ => ∃ (b d : Addr), vs = [.ref b] ∧ Bx H b d ∧ ∀ z H', Pth z → Kp [b] H H' → Bx H' b d → Q (.str z) H'
theorem b__law_path (T : TX K mg) : Body P w K mg base "_law_path" s__law_path ["_law_box", "_law_depth", "_law_k"] 2 spPath := by
  intro cdv A outer s H vs Q E h X hr
  obtain ⟨b, d, rfl, B, q⟩ := h
  have D__law_draw : DefAt P w K mg base CX0 "_law_draw" 2 ["_law_box", "_law_many"] spDraw := D__law_draw T
  refine ⟨_, (pss_cons (ps_set (i := 1) sc__law_path.nd rfl (Or.inl rfl) (pe_ix (ix_U (K := K)) (pe_lst (pa_cons pe_int (pa_cons pe_int (pa_cons pe_int (pa_cons pe_int pa_nil))))) (pe_callA D__law_draw hr pass0 (pa_cons (pv 0) (pa_cons pe_int pa_nil))) (fun _ _ => rfl))) (pss_one (ps_ret (pe_joinU (K := K) pe_str (pe_lc (own := [("_law_k", 2)]) rfl sc__law_path.nd (pi_range1 rfl (T.free 23) (pa_cons (pv 1) pa_nil)) (blkOk_by (N := ["_law_box", "_law_depth", "_law_k"]) (sc := defScope s__law_path) (by decide +kernel)) (fun _ _ _ _ _ => (pg_name (i := 2) sc__law_path.nd rfl (Or.inl rfl))) (fun _ _ _ _ _ => pts_nil) (fun _ _ _ _ _ => (pe_ix (ix_U (K := K)) (pe_lst (pa_cons pe_str (pa_cons pe_str (pa_cons pe_str (pa_cons pe_str pa_nil))))) (pe_callA D__law_draw hr pass0 (pa_cons (pv 0) (pa_cons pe_int pa_nil))) (fun _ _ => rfl)))))))), ?_⟩
  walk_at "st"
  walk_at "nw"
  intro p H1 N
  walk_at "st"
  refine ⟨b, d, 4, rfl, B.nw N, by decide, fun i H2 h0 h1 e2 B2 => ?_⟩
  refine c_pickM (u := V.int) [1, 2, 2, 3] (B.pick N e2) h0 h1 fun dp hdp => ?_
  have hdp : 1 ≤ dp ∧ dp ≤ 3 := by
    simp only [List.mem_cons, List.not_mem_nil, or_false] at hdp
    omega
  walk_at "st"
  refine lcR_draw V.str (fun z => z ∈ pathNames) B2 (by omega) (fun i H' R S hi e B3 k => ?_) (fun Dl H' ns hD hlen hP e B3 hacc => ?_)
  · walk_at "st"
    refine ⟨rfl, ?_⟩
    walk_at "st"
    walk_at "nw"
    intro p2 H4 N4
    walk_at "st"
    refine ⟨b, d, 4, rfl, B3.nw N4, by decide, fun j H5 g0 g1 e5 B5 => ?_⟩
    exact c_pickM (u := V.str) pathNames (B3.pick N4 e5) g0 g1 fun z hz => k z H5 hz (N4.kp.trans e5) B5
  · have hp : Pth (Txt.join (PySem.Str.ofString "/") ns) := ⟨ns, rfl, by omega, by omega, hP⟩
    refine c_join (ys := ns) (SqL.of hacc) ?_ (q _ _ hp ((N.kp.trans e2).trans e) B3)
    have e1 := sum_le (m := 2) fun n hn => pathNames_len n (hP n hn)
    have e2 : (PySem.Str.ofString "/").length = 1 := by decide
    rw [e2]
    omega
theorem D__law_path (T : TX K mg) : DefAt P w K mg base CX0 "_law_path" 3 ["_law_box"] spPath :=
  def_of T 12 27 sc__law_path bn__law_path (fun vs H Q E h => by obtain ⟨b, d, rfl, _⟩ := h; rfl) (b__law_path T)
theorem sc__law_line : FnScope ["_law_box"] ["_law_box"] (defScope s__law_line) := ⟨rfl, rfl, rfl, by decide +kernel, rfl, by decide +kernel, by decide +kernel⟩
theorem bn__law_line : BindN "_law_line" s__law_line ["_law_box"] := fun _ _ _ _ _ _ us hl => match us, hl with | [_], _ => rfl
def spLine : Sp := fun vs H Q _ => ∃ (b d : Addr), vs = [.ref b] ∧ Bx H b d ∧ ∀ z H', z ∈ lineTexts → Kp [b] H H' → Bx H' b d → Q (.str z) H'
theorem b__law_line (T : TX K mg) : Body P w K mg base "_law_line" s__law_line ["_law_box"] 2 spLine := by
  intro cdv A outer s H vs Q E h X hr
  obtain ⟨b, d, rfl, B, q⟩ := h
  have D__law_draw : DefAt P w K mg base CX0 "_law_draw" 2 ["_law_box", "_law_many"] spDraw := D__law_draw T
  refine ⟨_, (pss_one (ps_ret (pe_ix (ix_U (K := K)) (pe_lst (pa_cons pe_str (pa_cons pe_str (pa_cons pe_str (pa_cons pe_str (pa_cons pe_str (pa_cons pe_str (pa_cons pe_str (pa_cons pe_str pa_nil))))))))) (pe_callA D__law_draw hr pass0 (pa_cons (pv 0) (pa_cons pe_int pa_nil))) (fun _ _ => rfl)))), ?_⟩
  walk_at "st"
  walk_at "nw"
  intro p H1 N
  walk_at "st"
  refine ⟨b, d, 8, rfl, B.nw N, by decide, fun i H2 h0 h1 e2 B2 => ?_⟩
  exact c_pickM (u := V.str) lineTexts (B.pick N e2) h0 h1 fun z hz => q z H2 hz (N.kp.trans e2) B2
theorem D__law_line (T : TX K mg) : DefAt P w K mg base CX0 "_law_line" 3 ["_law_box"] spLine :=
  def_of T 13 28 sc__law_line bn__law_line (fun vs H Q E h => by obtain ⟨b, d, rfl, _⟩ := h; rfl) (b__law_line T)
end
end K06



namespace K06
open PySem L2 Sa
def filesKv (ls : List (Addr × File)) : List (Key × V) := ls.map fun l => ((Sum.inr l.2.1 : Key), V.ref l.1)
structure FilesR (K : PySem.W.Frag) (H : Hp) (d : Addr) (fs : List File) : Prop where
  ex : ∃ ls : List (Addr × File), Rd H d (.dK (filesKv ls)) ∧ (∀ l ∈ ls, SqT K H l.1 (l.2.2.map V.str)) ∧ ls.map Prod.snd = fs
structure FilesAt (K : PySem.W.Frag) (H : Hp) (d : Addr) (fs : List File) : Prop where
  ex : ∃ ls : List (Addr × File), H d = some (.dK (filesKv ls)) ∧ (∀ l ∈ ls, SqT K H l.1 (l.2.2.map V.str)) ∧ ls.map Prod.snd = fs
section
variable {K : PySem.W.Frag} {H H' : Hp} {d b e : Addr} {fs : List File} {p : Str}
theorem FilesAt.r (h : FilesAt K H d fs) : FilesR K H d fs := by
  obtain ⟨ls, h1, h2, h3⟩ := h.ex
  exact ⟨ls, .inl h1, h2, h3⟩
theorem FilesAt.kp (h : FilesAt K H d fs) (e : Kp [] H H') : FilesAt K H' d fs := by
  obtain ⟨ls, h1, h2, h3⟩ := h.ex
  exact ⟨ls, e.at0 h1, fun l hl => SqT.kp e (h2 l hl), h3⟩
theorem FilesAt.ne (h : FilesAt K H d fs) (B : Bx H b e) : d ≠ b := fun z => by
  obtain ⟨ls, h1, _⟩ := h.ex
  obtain ⟨_, _, h2, _⟩ := B.ex
  rw [z, h2] at h1
  cases h1
theorem FilesAt.kb (h : FilesAt K H d fs) (B : Bx H b e) (k : Kp [b] H H') : FilesAt K H' d fs := by
  have n := h.ne B
  obtain ⟨ls, h1, h2, h3⟩ := h.ex
  exact ⟨ls, k.at1 n h1, fun l hl => SqT.kt (B.kt k) (h2 l hl), h3⟩
theorem find_at (ls : List (Addr × File)) (p : Str) : at? (ls.map Prod.snd) p = (ls.find? fun l => decide (l.2.1 = p)).map fun l => l.2.2 := by
  unfold at?
  rw [List.find?_map, Option.map_map]
  rfl
theorem filesKv_val (ls : List (Addr × File)) (p : Str) : valV (filesKv ls) (Sum.inr p) = (ls.find? fun l => decide (l.2.1 = p)).map fun l => V.ref l.1 := by
  unfold valV filesKv
  rw [List.find?_map, Option.map_map]
  congr 1
  congr 1
  funext l
  simp
theorem FilesR.get (h : FilesR K H d fs) {ls : List Str} (g : at? fs p = some ls) : ∃ a, DGet H d (.str p) (some (.ref a)) ∧ SqT K H a (ls.map V.str) := by
  obtain ⟨rs, h1, h2, rfl⟩ := h.ex
  rw [find_at] at g
  obtain ⟨l, hl, rfl⟩ := Option.map_eq_some_iff.mp g
  exact ⟨l.1, .inl ⟨_, Sum.inr p, h1, rfl, by rw [filesKv_val, hl]; rfl⟩, h2 l (List.mem_of_find?_eq_some hl)⟩
theorem FilesR.dget (h : FilesR K H d fs) (p : Str) : ∃ o, DGet H d (.str p) o ∧ o.isSome = (at? fs p).isSome := by
  obtain ⟨rs, h1, h2, rfl⟩ := h.ex
  refine ⟨_, .inl ⟨_, Sum.inr p, h1, rfl, rfl⟩, ?_⟩
  rw [filesKv_val, find_at, Option.isSome_map, Option.isSome_map]
theorem FilesAt.nil {K : PySem.W.Frag} (h : H d = some (.dK [])) : FilesAt K H d [] := ⟨[], h, by simp, rfl⟩
end
theorem c_dinF {K : PySem.W.Frag} {H : Hp} {d : Addr} {fs : List File} {p : Str} {Q : VK} (h : FilesR K H d fs) (q : Q (.bl (at? fs p).isSome) H) : DinK false (.ref d) (.str p) H Q := by
  obtain ⟨o, h1, h2⟩ := h.dget p
  refine ⟨d, o, rfl, h1, ?_⟩
  show Q (.bl o.isSome) H
  rw [h2]; exact q
theorem c_dgetF {K : PySem.W.Frag} {H : Hp} {d : Addr} {fs : List File} {p : Str} {ls : List Str} {Q : VK} (h : FilesR K H d fs) (g : at? fs p = some ls) (q : ∀ a, SqT K H a (ls.map V.str) → Q (.ref a) H) : ∃ a v, V.ref d = .ref a ∧ DGet H a (.str p) (some v) ∧ Q v H := by
  obtain ⟨a, h1, h2⟩ := h.get g
  exact ⟨d, .ref a, rfl, h1, q a h2⟩
theorem c_sortedF {K : PySem.W.Frag} {H : Hp} {d : Addr} {fs : List File} {Q : VK} (h : FilesR K H d fs) (hn : fs.length ≤ 60) (q : ∀ p H', New H p (.lst ((pathsOf (sortF fs)).map V.str)) H' → Q (.ref p) H') : rSortedDU [.ref d] H Q := by
  obtain ⟨ls, h1, h2, rfl⟩ := h.ex
  refine ⟨d, _, pathsOf (ls.map Prod.snd), rfl, h1, ?_, by unfold pathsOf; rw [List.length_map]; omega, fun ys p hp hs hf => ?_⟩
  · unfold filesKv pathsOf
    rw [List.map_map, List.map_map, List.map_map]
    rfl
  · rw [sorted_keys hp hs]
    exact q p _ ⟨hf, rfl⟩
theorem name_no {z : Str} (h : isNameS z = true) : 47 ∉ z.cps.toList := fun hm => by
  unfold isNameS at h
  simp only [Bool.and_eq_true, List.all_eq_true] at h
  have := h.2 47 hm
  revert this
  decide +kernel
theorem name_ok {z : Str} (h : isNameS z = true) : okS z = true := okS_iff.mpr fun c hc => by
  unfold isNameS at h
  simp only [Bool.and_eq_true, List.all_eq_true, decide_eq_true_eq] at h
  have := h.2 c hc
  exact (by decide +kernel : ∀ c ∈ (PySem.Str.ofString "abcdefghijklmnopqrstuvwxyz0123456789").cps.toList, c < 1114112) c this
theorem slash1 : (PySem.Str.ofString "/").cps.toList = [47] := by decide +kernel
theorem slash2 : PySem.Str.ofString "/" = ⟨#[47]⟩ := by decide +kernel
theorem split_join1 {ns : List Str} (h0 : ns ≠ []) (hn : ∀ n ∈ ns, 47 ∉ n.cps.toList) : Txt.split (Txt.join (PySem.Str.ofString "/") ns) (PySem.Str.ofString "/") = ns :=
  TL.split_join (y := PySem.Str.ofString "/") (s := 47) (S := []) slash1 (by rw [slash2]; decide +kernel) h0 hn
theorem path_join {ns : List Str} (h0 : ns ≠ []) (h3 : ns.length ≤ 3) (hn : ∀ n ∈ ns, isNameS n = true) : isPathS (Txt.join (PySem.Str.ofString "/") ns) = true := by
  unfold isPathS
  rw [split_join1 h0 fun n h => name_no (hn n h), decide_eq_true h3, Bool.true_and, List.all_eq_true]
  exact hn
theorem split_ne {p : Str} (h : isPathS p = true) : Txt.split p (PySem.Str.ofString "/") ≠ [] := by
  rcases join_ne_nil (z := p) (y := PySem.Str.ofString "/") with h1 | h1
  · exact h1
  · exact absurd h1 (path_ne h)
theorem path_parts {p : Str} (h : isPathS p = true) : (Txt.split p (PySem.Str.ofString "/")).length ≤ 3 ∧ ∀ n ∈ Txt.split p (PySem.Str.ofString "/"), isNameS n = true := by
  unfold isPathS at h
  rw [Bool.and_eq_true, decide_eq_true_eq, List.all_eq_true] at h
  exact h
theorem name_path {n : Str} (h : isNameS n = true) : isPathS n = true := by
  have := path_join (ns := [n]) (by simp) (by simp) (by simpa using h)
  rw [tjoin] at this
  exact this
theorem mem_join {y : Str} {c : Nat} : ∀ {ys : List Str}, c ∈ (Str.join y ys).cps.toList → c ∈ y.cps.toList ∨ ∃ z ∈ ys, c ∈ z.cps.toList
  | [], h => by cases h
  | [x], h => .inr ⟨x, List.mem_singleton.mpr rfl, h⟩
  | x :: u :: r, h => by
    have h : c ∈ (x ++ y ++ Str.join y (u :: r)).cps.toList := h
    rw [cps_app, cps_app, List.mem_append, List.mem_append] at h
    rcases h with (h | h) | h
    · exact .inr ⟨x, List.mem_cons_self .., h⟩
    · exact .inl h
    · rcases mem_join h with h | ⟨z, hz, h⟩
      · exact .inl h
      · exact .inr ⟨z, List.mem_cons_of_mem _ hz, h⟩
theorem path_ok {p : Str} (h : isPathS p = true) : okS p = true := okS_iff.mpr fun c hc => by
  have j := StrLaws.join_split p (PySem.Str.ofString "/")
  rw [← j] at hc
  rcases mem_join hc with hc | ⟨z, hz, hc⟩
  · rw [slash1, List.mem_singleton] at hc
    omega
  · exact okS_iff.mp (name_ok ((path_parts h).2 z hz)) c hc
theorem Pth.path {z : Str} (h : Pth z) : isPathS z = true := by
  obtain ⟨ns, rfl, h1, h2, h3⟩ := h.ex
  exact path_join (by intro e; rw [e] at h1; simp at h1) h2 fun n hn => (by decide +kernel : ∀ n ∈ pathNames, isNameS n = true) n (h3 n hn)
theorem lineTexts_line : ∀ z ∈ lineTexts, isLineS z = true := by decide +kernel
section
variable {P : Program} {w : World} {K : PySem.W.Frag} {mg : Str → Option Value} {base : Heap}
def spLinesD (K : PySem.W.Frag) : Sp := fun vs H Q _ => ∃ (b d : Addr) (m : Int), vs = [.ref b, .int m] ∧ Bx H b d ∧ 0 ≤ m ∧ m ≤ 12 ∧ ∀ p ls H', isLinesS ls = true → (ls.length : Int) ≤ m → Kp [b] H H' → Bx H' b d → SqT K H' p (ls.map V.str) → Q (.ref p) H'
theorem sc__law_lines : FnScope ["_law_box", "_law_most", "_law_k"] ["_law_box", "_law_most"] (defScope s__law_lines) := ⟨rfl, rfl, rfl, by decide +kernel, rfl, by decide +kernel, by decide +kernel⟩
theorem bn__law_lines : BindN "_law_lines" s__law_lines ["_law_box", "_law_most"] := fun _ _ _ _ _ _ us hl => match us, hl with | [_, _], _ => rfl
theorem b__law_lines (T : TX K mg) : Body P w K mg base "_law_lines" s__law_lines ["_law_box", "_law_most", "_law_k"] 3 (spLinesD K) := by
  intro cdv A outer s H vs Q E h X hr
  obtain ⟨b, d, m, rfl, B, m0, m1, q⟩ := h
  have D__law_draw := D__law_draw (P := P) (w := w) (base := base) T; have D__law_line := D__law_line (P := P) (w := w) (base := base) T
  refine ⟨_, (pss_one (ps_ret (pe_callTy (cr_tuple (K := K)) rfl (T.free 17) (by decide +kernel) (pa_cons (pe_lc (own := [("_law_k", 2)]) rfl sc__law_lines.nd (pi_range1 rfl (T.free 23) (pa_cons (pe_callA D__law_draw hr pass0 (pa_cons (pv 0) (pa_cons (pe_op (op_addU (K := K)) (pv 1) pe_int) pa_nil))) pa_nil)) (blkOk_by (N := ["_law_box", "_law_most", "_law_k"]) (sc := defScope s__law_lines) (by decide +kernel)) (fun _ _ _ _ _ => (pg_name (i := 2) sc__law_lines.nd rfl (Or.inl rfl))) (fun _ _ _ _ _ => pts_nil) (fun _ _ _ _ _ => (pe_callA D__law_line hr pass0 (pa_cons (pv 0) pa_nil)))) pa_nil)))), ?_⟩
  walk_at "st"
  refine ⟨b, d, m + 1, rfl, B, by omega, fun i H1 h0 h1 e1 B1 => ?_⟩
  walk_at "st"
  refine lcR_draw V.str (fun z => z ∈ lineTexts) B1 (by omega) (fun i H' R S hi e B3 k => ?_) (fun Dl H' ns hD hlen hP e B3 hacc => ?_)
  · walk_at "st"
    refine ⟨rfl, ?_⟩
    walk_at "st"
    exact ⟨b, d, rfl, B3, fun z H4 hz e4 B4 => k z H4 hz e4 B4⟩
  · refine c_tupleL (SqL.of hacc) fun p H2 N => ?_
    refine q p ns H2 ?_ (by omega) ((e1.trans e).trans N.kp) (B3.nw N) (SqT.of N.at_)
    unfold isLinesS
    rw [decide_eq_true (by omega), Bool.true_and, List.all_eq_true]
    exact fun z hz => lineTexts_line z (hP z hz)
theorem D__law_lines (T : TX K mg) : DefAt P w K mg base CX0 "_law_lines" 4 ["_law_box", "_law_most"] (spLinesD K) :=
  def_of T 14 29 sc__law_lines bn__law_lines (by walk_at "len") (b__law_lines T)
def spSome (K : PySem.W.Frag) : Sp := fun vs H Q _ => ∃ (b d f : Addr) (fs : List File), vs = [.ref b, .ref f] ∧ Bx H b d ∧ FilesAt K H f fs ∧ GoodP fs ∧ ∀ z H', isPathS z = true → Kp [b] H H' → Bx H' b d → Q (.str z) H'
theorem sc__law_some_path : FnScope ["_law_box", "_law_files_here", "_law_paths"] ["_law_box", "_law_files_here"] (defScope s__law_some_path) := ⟨rfl, rfl, rfl, by decide +kernel, rfl, by decide +kernel, by decide +kernel⟩
theorem bn__law_some_path : BindN "_law_some_path" s__law_some_path ["_law_box", "_law_files_here"] := fun _ _ _ _ _ _ us hl => match us, hl with | [_, _], _ => rfl
theorem b__law_some_path (T : TX K mg) : Body P w K mg base "_law_some_path" s__law_some_path ["_law_box", "_law_files_here", "_law_paths"] 3 (spSome K) := by
  intro cdv A outer s H vs Q E h X hr
  obtain ⟨b, d, f, fs, rfl, B, F, G, q⟩ := h
  have D__law_draw := D__law_draw (P := P) (w := w) (base := base) T; have D__law_path := D__law_path (P := P) (w := w) (base := base) T
  refine ⟨_, (pss_cons (ps_set (i := 2) sc__law_some_path.nd rfl (Or.inl rfl) (pe_callB (cr_sortedDU rfl) rfl (T.free 33) (by decide +kernel) (pa_cons (pv 1) pa_nil))) (pss_cons (ps_if (PW.pt (pw_and (pt_cmpR (op_neU (K := K) hr.units) (pv 2) (pe_lst pa_nil) (nomark _)) (pw_and1 (pt_cmpR op_gtU (pe_callA D__law_draw hr pass0 (pa_cons (pv 0) (pa_cons pe_int pa_nil))) pe_int (nomark _))))) (pss_one (ps_ret (pe_ix (ix_U (K := K)) (pv 2) (pe_callA D__law_draw hr pass0 (pa_cons (pv 0) (pa_cons (pe_callB (cr_len (K := K)) rfl (T.free 2) PySem.boot_len (pa_cons (pv 2) pa_nil)) pa_nil))) (fun _ _ => rfl)))) pss_nil) (pss_one (ps_ret (pe_callA D__law_path hr pass0 (pa_cons (pv 0) pa_nil)))))), ?_⟩
  have gl := G.len
  walk_at "st"
  refine c_sortedF F.r (by omega) fun p H1 N1 => ?_
  walk_at "st"
  walk_at "nw"
  intro p2 H2 N2
  walk_at "st"
  have k2 : Kp [b] H H2 := N1.kp.trans N2.kp
  have B2 := (B.nw N1).nw N2
  have hps : ∀ y ∈ pathsOf (sortF fs), isPathS y = true := fun y hy => by
    obtain ⟨r, hr, rfl⟩ := List.mem_map.mp hy
    exact G.sort.path r hr
  have h1 : SqL K H2 p ((pathsOf (sortF fs)).map V.str) := SqL.of (N2.keep N1.at_)
  refine c_neLS (zs := []) h1 (SqL.of N2.at_) (fun y hy => path_ok (hps y hy)) (by simp) ?_
  walk_at "st"
  have alt : ∀ H3, Kp [b] H H3 → Bx H3 b d → spPath [.ref b] H3 Q E0 := fun H3 e3 B3 => ⟨b, d, rfl, B3, fun z H4 hz e4 B4 => q z H4 hz.path (e3.trans e4) B4⟩
  refine c_iteN (fun g => ?_) (fun g => ?_)
  · walk_at "st"
    refine ⟨b, d, 4, rfl, B2, by decide, fun i H3 h0 h1' e3 B3 => ?_⟩
    walk_at "st"
    have nb : p ≠ b := ((B.ne_new N1.fr).1)
    have h3 : SqL K H3 p ((pathsOf (sortF fs)).map V.str) := SqL.kp1 e3 nb h1
    refine c_ite (fun g1 => ?_) (fun g1 => ?_)
    · walk_at "st"
      have hpos : 0 < (pathsOf (sortF fs)).length := List.length_pos_iff.mpr g
      refine ⟨b, d, _, rfl, B3, by rw [List.length_map]; omega, fun j H4 j0 j1 e4 B4 => ?_⟩
      rw [List.length_map] at j1
      refine c_pickM (pathsOf (sortF fs)) (SqL.kp1 e4 nb h3) j0 j1 fun y hy => ?_
      exact q y H4 (hps y hy) ((k2.trans e3).trans e4) B4
    · walk_at "st"
      exact alt H3 (k2.trans e3) B3
  · walk_at "st"
    exact alt H2 k2 B2
theorem D__law_some_path (T : TX K mg) : DefAt P w K mg base CX0 "_law_some_path" 4 ["_law_box", "_law_files_here"] (spSome K) :=
  def_of T 18 34 sc__law_some_path bn__law_some_path (by walk_at "len") (b__law_some_path T)
def spPlace (K : PySem.W.Frag) : Sp := fun vs H Q _ => ∃ (b d f : Addr) (fs : List File), vs = [.ref b, .ref f] ∧ Bx H b d ∧ FilesAt K H f fs ∧ GoodP fs ∧ ∀ z H', isPlaceS z = true → Kp [b] H H' → Bx H' b d → Q (.str z) H'
theorem sc__law_place : FnScope ["_law_box", "_law_files_here", "_law_path_here", "_law_parts"] ["_law_box", "_law_files_here"] (defScope s__law_place) := ⟨rfl, rfl, rfl, by decide +kernel, rfl, by decide +kernel, by decide +kernel⟩
theorem bn__law_place : BindN "_law_place" s__law_place ["_law_box", "_law_files_here"] := fun _ _ _ _ _ _ us hl => match us, hl with | [_, _], _ => rfl
theorem b__law_place (T : TX K mg) : Body P w K mg base "_law_place" s__law_place ["_law_box", "_law_files_here", "_law_path_here", "_law_parts"] 4 (spPlace K) := by
  intro cdv A outer s H vs Q E h X hr
  obtain ⟨b, d, f, fs, rfl, B, F, G, q⟩ := h
  have D__law_draw := D__law_draw (P := P) (w := w) (base := base) T; have D__law_some_path := D__law_some_path (P := P) (w := w) (base := base) T
  refine ⟨_, (pss_cons (ps_set (i := 2) sc__law_place.nd rfl (Or.inl rfl) (pe_callA D__law_some_path hr pass0 (pa_cons (pv 0) (pa_cons (pv 1) pa_nil)))) (pss_cons (ps_set (i := 3) sc__law_place.nd rfl (Or.inl rfl) (pe_splitU (pv 2) pe_str)) (pss_one (ps_ret (pe_ix (ix_U (K := K)) (pe_lst (pa_cons pe_str (pa_cons (pv 2) (pa_cons (pe_ix (ix_U (K := K)) (pv 3) pe_int (fun _ _ => rfl)) (pa_cons (pe_joinU (K := K) pe_str (pe_slice (sl_U (K := K)) (pv 3) po_none (po_some pe_int))) pa_nil))))) (pe_callA D__law_draw hr pass0 (pa_cons (pv 0) (pa_cons pe_int pa_nil))) (fun _ _ => rfl)))))), ?_⟩
  walk_at "st"
  refine ⟨b, d, f, fs, rfl, B, F, G, fun z H1 hz e1 B1 => ?_⟩
  walk_at "st"
  have zl := path_len hz
  refine c_split (by decide) (by rw [sizeLine_eq]; omega) fun p H2 N2 => ?_
  walk_at "st"
  obtain ⟨n3, nn⟩ := path_parts hz
  have ne := split_ne hz
  generalize Txt.split z (PySem.Str.ofString "/") = ns at *
  cases ns with
  | nil => exact absurd rfl ne
  | cons n0 r =>
    refine c_ixL (v := .str n0) (SqL.of N2.at_) (atI_nat (j := 0) rfl) ?_
    walk_at "st"
    refine c_slL (SqL.of N2.at_) fun p3 H3 N3 => ?_
    have e2 : cutV ((n0 :: r).map V.str) none (some (2 : Int)) = ((n0 :: r).take 2).map V.str := by
      rw [cutV_eq, cutL_map]
      congr 1
      unfold cutL
      have e1 : HT.sIx (n0 :: r).length 0 none = 0 := rfl
      rw [e1, sIx_of (by decide), List.drop_zero, Nat.sub_zero]
      have e3 : (2 : Int).toNat = 2 := rfl
      rw [e3]
      by_cases h : 2 ≤ (n0 :: r).length
      · rw [Nat.min_eq_left h]
      · rw [Nat.min_eq_right (by omega), List.take_of_length_le (Nat.le_refl _), List.take_of_length_le (by omega)]
    have at3 := N3.at_
    rw [e2] at at3
    have nn2 : ∀ n ∈ (n0 :: r).take 2, isNameS n = true := fun n hn => nn n (List.mem_of_mem_take hn)
    refine c_join (ys := (n0 :: r).take 2) (SqL.of at3) ?_ ?_
    · have s := lenSum ((n0 :: r).take 2) 8 fun x hx => by
        have := nn2 x hx
        unfold isNameS at this
        simp only [Bool.and_eq_true, decide_eq_true_eq] at this
        exact this.1.2
      have l2 : ((n0 :: r).take 2).length ≤ 2 := by rw [List.length_take]; omega
      have e1 : (PySem.Str.ofString "/").length = 1 := by decide
      rw [e1]
      omega
    walk_at "st"
    walk_at "nw"
    intro p4 H4 N4
    walk_at "st"
    have k4 : Kp [b] H H4 := e1.trans ((N2.kp.trans N3.kp).trans N4.kp)
    have B4 := ((B1.nw N2).nw N3).nw N4
    refine ⟨b, d, 4, rfl, B4, by decide, fun i H5 h0 h1 e5 B5 => ?_⟩
    refine c_pickM (u := V.str) [PySem.Str.ofString "", z, n0, Txt.join (PySem.Str.ofString "/") ((n0 :: r).take 2)] ((B1.nw N2).nw N3 |>.pick N4 e5) h0 h1 fun y hy => ?_
    refine q y H5 ?_ (k4.trans e5) B5
    unfold isPlaceS
    simp only [List.mem_cons, List.not_mem_nil, or_false] at hy
    rcases hy with rfl | rfl | rfl | rfl
    · rfl
    · rw [hz, Bool.or_true]
    · rw [name_path (nn _ (List.mem_cons_self ..)), Bool.or_true]
    · rw [path_join (by simp) (by rw [List.length_take]; omega) nn2, Bool.or_true]
theorem D__law_place (T : TX K mg) : DefAt P w K mg base CX0 "_law_place" 5 ["_law_box", "_law_files_here"] (spPlace K) :=
  def_of T 19 35 sc__law_place bn__law_place (by walk_at "len") (b__law_place T)
end
end K06



namespace K06
open PySem L2 Sa
theorem place_len {z : Str} (h : isPlaceS z = true) : z.length ≤ 26 := by
  unfold isPlaceS at h
  rw [Bool.or_eq_true, decide_eq_true_eq] at h
  rcases h with rfl | h
  · decide
  · exact path_len h
theorem word_len {z : Str} (h : isWordS z = true) : z.length ≤ 12 := by
  unfold isWordS at h
  simp only [Bool.and_eq_true, decide_eq_true_eq] at h
  exact h.1.2
section
variable {P : Program} {w : World} {K : PySem.W.Frag} {mg : Str → Option Value} {base : Heap}
def spDrawn (K : PySem.W.Frag) (p : Action → Bool) : Sp := fun vs H Q _ => ∃ (b d f : Addr) (fs : List File), vs = [.ref b, .ref f] ∧ Bx H b d ∧ FilesAt K H f fs ∧ GoodP fs ∧ ∀ a x H', x.bad = none → p x = true → Kp [b] H H' → Bx H' b d → ActAt K H' a x → Q (.ref a) H'
theorem sc__law_question : FnScope ["_law_box", "_law_files_here", "_law_word"] ["_law_box", "_law_files_here"] (defScope s__law_question) := ⟨rfl, rfl, rfl, by decide +kernel, rfl, by decide +kernel, by decide +kernel⟩
theorem bn__law_question : BindN "_law_question" s__law_question ["_law_box", "_law_files_here"] := fun _ _ _ _ _ _ us hl => match us, hl with | [_, _], _ => rfl
theorem b__law_question (T : TX K mg) : Body P w K mg base "_law_question" s__law_question ["_law_box", "_law_files_here", "_law_word"] 5 (spDrawn K fun x => x.isQ) := by
  intro cdv A outer s H vs Q E h X hr
  obtain ⟨b, d, f, fs, rfl, B, F, G, q⟩ := h
  have D__law_draw := D__law_draw (P := P) (w := w) (base := base) T; have D__law_place := D__law_place (P := P) (w := w) (base := base) T; have D__law_some_path := D__law_some_path (P := P) (w := w) (base := base) T
  refine ⟨_, (pss_cons (ps_set (i := 2) sc__law_question.nd rfl (Or.inl rfl) (pe_ix (ix_U (K := K)) (pe_lst (pa_cons pe_str (pa_cons pe_str (pa_cons pe_str (pa_cons pe_str (pa_cons pe_str pa_nil)))))) (pe_callA D__law_draw hr pass0 (pa_cons (pv 0) (pa_cons pe_int pa_nil))) (fun _ _ => rfl))) (pss_cons (ps_if (pt_cmpR (op_eqU (K := K) hr.units) (pv 2) pe_str (nomark _)) (pss_one (ps_ret (pe_tup (pa_cons pe_str (pa_cons (pe_callA D__law_some_path hr pass0 (pa_cons (pv 0) (pa_cons (pv 1) pa_nil))) pa_nil))))) pss_nil) (pss_cons (ps_if (pt_cmpR (op_eqU (K := K) hr.units) (pv 2) pe_str (nomark _)) (pss_one (ps_ret (pe_tup (pa_cons pe_str (pa_cons (pe_callA D__law_place hr pass0 (pa_cons (pv 0) (pa_cons (pv 1) pa_nil))) (pa_cons (pe_ix (ix_U (K := K)) (pe_lst (pa_cons pe_str (pa_cons pe_str (pa_cons pe_str (pa_cons pe_str (pa_cons pe_str pa_nil)))))) (pe_callA D__law_draw hr pass0 (pa_cons (pv 0) (pa_cons pe_int pa_nil))) (fun _ _ => rfl)) pa_nil)))))) pss_nil) (pss_one (ps_ret (pe_tup (pa_cons (pv 2) (pa_cons (pe_callA D__law_place hr pass0 (pa_cons (pv 0) (pa_cons (pv 1) pa_nil))) pa_nil)))))))), ?_⟩
  walk_at "st"
  walk_at "nw"
  intro p1 H1 N1
  walk_at "st"
  refine ⟨b, d, 5, rfl, B.nw N1, by decide, fun i H2 h0 h1 e2 B2 => ?_⟩
  have k2 : Kp [b] H H2 := N1.kp.trans e2
  have F2 := F.kb B k2
  have pl : ∀ {Q1 : VK}, (∀ z H', isPlaceS z = true → Kp [b] H H' → Bx H' b d → Q1 (.str z) H') → spPlace K [.ref b, .ref f] H2 Q1 E0 := fun h => ⟨b, d, f, fs, rfl, B2, F2, G, fun z H' hz e' B' => h z H' hz (k2.trans e') B'⟩
  refine c_pickM (u := V.str) ["read", "kind", "list", "find", "count"] (B.pick N1 e2) h0 h1 fun y hy => ?_
  simp only [List.mem_cons, List.not_mem_nil, or_false] at hy
  rcases hy with rfl | rfl | rfl | rfl | rfl
  · walk_at "dc"
    refine ⟨b, d, f, fs, rfl, B2, F2, G, fun z H3 hz e3 B3 => ?_⟩
    walk_at "st"
    walk_at "nw"
    intro p4 H4 N4
    refine q p4 (.read z) H4 (by simp only [Action.bad, hz, if_true]) rfl ((k2.trans e3).trans N4.kp) (B3.nw N4) (SqT.of N4.at_)
  · walk_at "dc"
    refine pl fun z H3 hz e3 B3 => ?_
    walk_at "st"
    walk_at "nw"
    intro p4 H4 N4
    refine q p4 (.kind z) H4 (by simp only [Action.bad, hz, if_true]) rfl (e3.trans N4.kp) (B3.nw N4) (SqT.of N4.at_)
  · walk_at "dc"
    refine pl fun z H3 hz e3 B3 => ?_
    walk_at "st"
    walk_at "nw"
    intro p4 H4 N4
    refine q p4 (.list z) H4 (by simp only [Action.bad, hz, if_true]) rfl (e3.trans N4.kp) (B3.nw N4) (SqT.of N4.at_)
  · walk_at "dc"
    refine pl fun z H3 hz e3 B3 => ?_
    walk_at "st"
    walk_at "nw"
    intro p4 H4 N4
    walk_at "st"
    refine ⟨b, d, 5, rfl, B3.nw N4, by decide, fun j H5 j0 j1 e5 B5 => ?_⟩
    refine c_pickM (u := V.str) ["x", "y", " ", "todo", "x y"] (B3.pick N4 e5) j0 j1 fun y hy => ?_
    have hw : isWordS y = true := (by decide +kernel : ∀ y ∈ (["x", "y", " ", "todo", "x y"] : List Str), isWordS y = true) y hy
    walk_at "st"
    walk_at "nw"
    intro p6 H6 N6
    refine q p6 (.find z y) H6 (by simp only [Action.bad, hz, hw, if_true]) rfl (((e3.trans N4.kp).trans e5).trans N6.kp) (B5.nw N6) (SqT.of N6.at_)
  · walk_at "dc"
    refine pl fun z H3 hz e3 B3 => ?_
    walk_at "st"
    walk_at "nw"
    intro p4 H4 N4
    refine q p4 (.count z) H4 (by simp only [Action.bad, hz, if_true]) rfl (e3.trans N4.kp) (B3.nw N4) (SqT.of N4.at_)
theorem D__law_question (T : TX K mg) : DefAt P w K mg base CX0 "_law_question" 6 ["_law_box", "_law_files_here"] (spDrawn K fun x => x.isQ) :=
  def_of T 20 36 sc__law_question bn__law_question (by walk_at "len") (b__law_question T)
def spPart (K : PySem.W.Frag) : Sp := fun vs H Q _ => ∃ (b d l : Addr) (ls : List Str), vs = [.ref b, .ref l] ∧ Bx H b d ∧ SqT K H l (ls.map V.str) ∧ isLinesS ls = true ∧ ∀ p old H', isLinesS old = true → 0 < old.length → Kp [b] H H' → Bx H' b d → SqT K H' p (old.map V.str) → Q (.ref p) H'
theorem sc__law_part : FnScope ["_law_box", "_law_lines_here", "_law_at"] ["_law_box", "_law_lines_here"] (defScope s__law_part) := ⟨rfl, rfl, rfl, by decide +kernel, rfl, by decide +kernel, by decide +kernel⟩
theorem bn__law_part : BindN "_law_part" s__law_part ["_law_box", "_law_lines_here"] := fun _ _ _ _ _ _ us hl => match us, hl with | [_, _], _ => rfl
theorem b__law_part (T : TX K mg) : Body P w K mg base "_law_part" s__law_part ["_law_box", "_law_lines_here", "_law_at"] 3 (spPart K) := by
  intro cdv A outer s H vs Q E h X hr
  obtain ⟨b, d, l, ls, rfl, B, hl, hls, q⟩ := h
  have D__law_draw := D__law_draw (P := P) (w := w) (base := base) T; have D__law_line := D__law_line (P := P) (w := w) (base := base) T
  refine ⟨_, (pss_cons (ps_if (PW.pt (pw_and (pt_cmpR op_gtU (pe_callB (cr_len (K := K)) rfl (T.free 2) PySem.boot_len (pa_cons (pv 1) pa_nil)) pe_int (nomark _)) (pw_and1 (pt_cmpR op_gtU (pe_callA D__law_draw hr pass0 (pa_cons (pv 0) (pa_cons pe_int pa_nil))) pe_int (nomark _))))) (pss_cons (ps_set (i := 2) sc__law_part.nd rfl (Or.inl rfl) (pe_callA D__law_draw hr pass0 (pa_cons (pv 0) (pa_cons (pe_callB (cr_len (K := K)) rfl (T.free 2) PySem.boot_len (pa_cons (pv 1) pa_nil)) pa_nil)))) (pss_one (ps_ret (pe_slice (sl_U (K := K)) (pv 1) (po_some (pv 2)) (po_some (pe_op (op_addU (K := K)) (pe_op (op_addU (K := K)) (pv 2) pe_int) (pe_callA D__law_draw hr pass0 (pa_cons (pv 0) (pa_cons pe_int pa_nil))))))))) pss_nil) (pss_one (ps_ret (pe_tup (pa_cons (pe_callA D__law_line hr pass0 (pa_cons (pv 0) pa_nil)) pa_nil))))), ?_⟩
  obtain ⟨l1, l2⟩ := lines_len hls
  have alt : ∀ {H1 : Hp} {Q1 : VK}, Kp [b] H H1 → Bx H1 b d → (∀ z H', isLineS z = true → Kp [b] H H' → Bx H' b d → Q1 (.str z) H') → spLine [.ref b] H1 Q1 E0 := fun e1 B1 h => ⟨b, d, rfl, B1, fun z H' hz e' B' => h z H' (lineTexts_line z hz) (e1.trans e') B'⟩
  have one : ∀ z, isLineS z = true → isLinesS [z] = true := fun z hz => by unfold isLinesS; simp [hz]
  walk_at "st"
  refine c_ite (fun g => ?_) (fun g => ?_)
  · walk_at "st"
    refine ⟨b, d, 5, rfl, B, by decide, fun i H1 h0 h1 e1 B1 => ?_⟩
    walk_at "st"
    have hl1 := SqT.kt (B.kt e1) hl
    rw [List.length_map] at g
    refine c_ite (fun g1 => ?_) (fun g1 => ?_)
    · walk_at "st"
      refine ⟨b, d, _, rfl, B1, by rw [List.length_map]; omega, fun j H2 j0 j1 e2 B2 => ?_⟩
      rw [List.length_map] at j1
      walk_at "st"
      refine ⟨b, d, 2, rfl, B2, by decide, fun k H3 k0 k1 e3 B3 => ?_⟩
      walk_at "st"
      have e123 := (e1.trans e2).trans e3
      refine c_slT (SqT.kt (B.kt e123) hl) fun p H4 e4 hp => ?_
      rw [cutL_map] at hp
      refine q p _ H4 ?_ ?_ (e123.trans e4.mono) (B3.kp0 e4) hp
      · unfold isLinesS at hls ⊢
        simp only [Bool.and_eq_true, decide_eq_true_eq, List.all_eq_true] at hls ⊢
        refine ⟨?_, fun y hy => hls.2 y (List.mem_of_mem_drop (List.mem_of_mem_take hy))⟩
        unfold cutL
        rw [List.length_take, List.length_drop]
        omega
      · unfold cutL
        rw [List.length_take, List.length_drop, sIx_of (by omega), sIx_of (by omega)]
        omega
    · walk_at "st"
      refine alt e1 B1 fun z H2 hz e2 B2 => ?_
      walk_at "st"
      walk_at "nw"
      intro p H3 N3
      exact q p [z] H3 (one z hz) (by simp) (e2.trans N3.kp) (B2.nw N3) (SqT.of N3.at_)
  · walk_at "st"
    refine alt Kp.refl B fun z H2 hz e2 B2 => ?_
    walk_at "st"
    walk_at "nw"
    intro p H3 N3
    exact q p [z] H3 (one z hz) (by simp) (e2.trans N3.kp) (B2.nw N3) (SqT.of N3.at_)
theorem D__law_part (T : TX K mg) : DefAt P w K mg base CX0 "_law_part" 4 ["_law_box", "_law_lines_here"] (spPart K) :=
  def_of T 21 37 sc__law_part bn__law_part (by walk_at "len") (b__law_part T)
theorem sc__law_deed : FnScope ["_law_box", "_law_files_here", "_law_word", "_law_path_here", "_law_lines_here"] ["_law_box", "_law_files_here"] (defScope s__law_deed) := ⟨rfl, rfl, rfl, by decide +kernel, rfl, by decide +kernel, by decide +kernel⟩
theorem bn__law_deed : BindN "_law_deed" s__law_deed ["_law_box", "_law_files_here"] := fun _ _ _ _ _ _ us hl => match us, hl with | [_, _], _ => rfl
theorem b__law_deed (T : TX K mg) : Body P w K mg base "_law_deed" s__law_deed ["_law_box", "_law_files_here", "_law_word", "_law_path_here", "_law_lines_here"] 4 (spDrawn K fun x => !x.isQ) := by
  intro cdv A outer s H vs Q E h X hr
  obtain ⟨b, d, f, fs, rfl, B, F, G, q⟩ := h
  have D__law_draw := D__law_draw (P := P) (w := w) (base := base) T; have D__law_lines := D__law_lines (P := P) (w := w) (base := base) T; have D__law_part := D__law_part (P := P) (w := w) (base := base) T; have D__law_some_path := D__law_some_path (P := P) (w := w) (base := base) T
  refine ⟨_, (pss_cons (ps_set (i := 2) sc__law_deed.nd rfl (Or.inl rfl) (pe_ix (ix_U (K := K)) (pe_lst (pa_cons pe_str (pa_cons pe_str (pa_cons pe_str (pa_cons pe_str (pa_cons pe_str (pa_cons pe_str pa_nil))))))) (pe_callA D__law_draw hr pass0 (pa_cons (pv 0) (pa_cons pe_int pa_nil))) (fun _ _ => rfl))) (pss_cons (ps_set (i := 3) sc__law_deed.nd rfl (Or.inl rfl) (pe_callA D__law_some_path hr pass0 (pa_cons (pv 0) (pa_cons (pv 1) pa_nil)))) (pss_cons (ps_if (pt_cmpR (op_eqU (K := K) hr.units) (pv 2) pe_str (nomark _)) (pss_one (ps_ret (pe_tup (pa_cons pe_str (pa_cons (pv 3) (pa_cons (pe_callA D__law_lines hr pass0 (pa_cons (pv 0) (pa_cons pe_int pa_nil))) pa_nil)))))) pss_nil) (pss_cons (ps_if (pt_cmpR (op_eqU (K := K) hr.units) (pv 2) pe_str (nomark _)) (pss_one (ps_ret (pe_tup (pa_cons pe_str (pa_cons (pv 3) pa_nil))))) pss_nil) (pss_cons (ps_if (pt_cmpR (op_eqU (K := K) hr.units) (pv 2) pe_str (nomark _)) (pss_one (ps_ret (pe_tup (pa_cons pe_str (pa_cons (pv 3) (pa_cons (pe_callA D__law_some_path hr pass0 (pa_cons (pv 0) (pa_cons pe_dnewK pa_nil))) pa_nil)))))) pss_nil) (pss_cons (ps_set (i := 4) sc__law_deed.nd rfl (Or.inl rfl) (pe_tup pa_nil)) (Evl.pss_cut (ps_if (pt_cmp (pc_din (hu_of hr) (pv 3) (pv 1)) rfl) (pss_one (ps_set (i := 4) sc__law_deed.nd rfl (Or.inl rfl) (pe_dget (hu_of hr) (pv 1) (pv 3) (fun _ _ => rfl)))) pss_nil) (pss_one (ps_ret (pe_tup (pa_cons pe_str (pa_cons (pv 3) (pa_cons (pe_callA D__law_part hr pass0 (pa_cons (pv 0) (pa_cons (pv 4) pa_nil))) (pa_cons (pe_callA D__law_lines hr pass0 (pa_cons (pv 0) (pa_cons pe_int pa_nil))) pa_nil)))))))))))))), ?_⟩
  walk_at "st"
  walk_at "nw"
  intro p1 H1 N1
  walk_at "st"
  refine ⟨b, d, 6, rfl, B.nw N1, by decide, fun i H2 h0 h1 e2 B2 => ?_⟩
  have k2 : Kp [b] H H2 := N1.kp.trans e2
  have F2 := F.kb B k2
  refine c_pickM (u := V.str) ["write", "write", "remove", "move", "splice", "splice"] (B.pick N1 e2) h0 h1 fun y hy => ?_
  walk_at "st"
  refine ⟨b, d, f, fs, rfl, B2, F2, G, fun p H3 hp e3 B3 => ?_⟩
  have k3 := k2.trans e3
  have F3 := F2.kb B2 e3
  simp only [List.mem_cons, List.not_mem_nil, or_false] at hy
  rcases hy with rfl | rfl | rfl | rfl | rfl | rfl
  · walk_at "dc"
    refine ⟨b, d, 4, rfl, B3, by decide, by decide, fun l ls H4 hls _ e4 B4 hl => ?_⟩
    walk_at "st"
    walk_at "nw"
    intro p5 H5 N5
    refine q p5 (.write p ls) H5 (by simp only [Action.bad, hp, hls, if_true]) rfl ((k3.trans e4).trans N5.kp) (B4.nw N5) ⟨l, SqT.of N5.at_, SqT.kp N5.kp hl⟩
  · walk_at "dc"
    refine ⟨b, d, 4, rfl, B3, by decide, by decide, fun l ls H4 hls _ e4 B4 hl => ?_⟩
    walk_at "st"
    walk_at "nw"
    intro p5 H5 N5
    refine q p5 (.write p ls) H5 (by simp only [Action.bad, hp, hls, if_true]) rfl ((k3.trans e4).trans N5.kp) (B4.nw N5) ⟨l, SqT.of N5.at_, SqT.kp N5.kp hl⟩
  · walk_at "dc"
    walk_at "nw"
    intro p5 H5 N5
    refine q p5 (.remove p) H5 (by simp only [Action.bad, hp, if_true]) rfl (k3.trans N5.kp) (B3.nw N5) (SqT.of N5.at_)
  · walk_at "dc"
    refine c_dnew fun f0 H4 N4 => ?_
    walk_at "st"
    refine ⟨b, d, f0, [], rfl, B3.nw N4, FilesAt.nil N4.at_, ⟨by simp, .nil, by simp, by simp, by simp⟩, fun t H5 ht e5 B5 => ?_⟩
    walk_at "st"
    walk_at "nw"
    intro p6 H6 N6
    refine q p6 (.move p t) H6 (by simp only [Action.bad, hp, ht, if_true]) rfl (((k3.trans N4.kp).trans e5).trans N6.kp) (B5.nw N6) (SqT.of N6.at_)
  all_goals
    walk_at "dc"
    walk_at "nw"
    intro p4 H4 N4
    walk_at "st"
    refine c_cut (fun σ' H' => ∃ l ls, σ' = [some (.ref b), some (.ref f), some (.str "splice"), some (.str p), some (.ref l)] ∧ H4 = H' ∧ SqT K H' l (ls.map V.str) ∧ isLinesS ls = true) ?_ ?_
    · walk_at "st"
      refine c_dinF (F3.kp N4.kp).r ?_
      walk_at "st"
      refine c_iteB (fun g => ?_) (fun g => ?_)
      · obtain ⟨ls, g⟩ := Option.isSome_iff_exists.mp g
        walk_at "st"
        refine c_dgetF (F3.kp N4.kp).r g fun la hla => ?_
        walk_at "st"
        exact ⟨la, ls, rfl, rfl, hla, G.lines _ (at_mem g)⟩
      · walk_at "st"
        exact ⟨p4, [], rfl, rfl, SqT.of N4.at_, rfl⟩
    · rintro _ _ ⟨l, ls, rfl, rfl, hl, hls⟩
      walk_at "st"
      refine ⟨b, d, l, ls, rfl, B3.nw N4, hl, hls, fun po old H5 ho hpos e5 B5 hpo => ?_⟩
      walk_at "st"
      refine ⟨b, d, 3, rfl, B5, by decide, by decide, fun pn new H6 hn _ e6 B6 hpn => ?_⟩
      walk_at "st"
      walk_at "nw"
      intro p7 H7 N7
      refine q p7 (.splice p old new) H7 ?_ rfl ((((k3.trans N4.kp).trans e5).trans e6).trans N7.kp) (B6.nw N7) ⟨po, pn, SqT.of N7.at_, SqT.kp N7.kp (SqT.kt (B5.kt e6) hpo), SqT.kp N7.kp hpn⟩
      simp only [Action.bad, hp, ho, hn, decide_eq_true hpos, Bool.and_self, if_true]
theorem D__law_deed (T : TX K mg) : DefAt P w K mg base CX0 "_law_deed" 5 ["_law_box", "_law_files_here"] (spDrawn K fun x => !x.isQ) :=
  def_of T 22 38 sc__law_deed bn__law_deed (by walk_at "len") (b__law_deed T)
theorem sc__law_action : FnScope ["_law_box", "_law_files_here"] ["_law_box", "_law_files_here"] (defScope s__law_action) := ⟨rfl, rfl, rfl, by decide +kernel, rfl, by decide +kernel, by decide +kernel⟩
theorem bn__law_action : BindN "_law_action" s__law_action ["_law_box", "_law_files_here"] := fun _ _ _ _ _ _ us hl => match us, hl with | [_, _], _ => rfl
theorem b__law_action (T : TX K mg) : Body P w K mg base "_law_action" s__law_action ["_law_box", "_law_files_here"] 6 (spDrawn K fun _ => true) := by
  intro cdv A outer s H vs Q E h X hr
  obtain ⟨b, d, f, fs, rfl, B, F, G, q⟩ := h
  have D__law_deed := D__law_deed (P := P) (w := w) (base := base) T; have D__law_draw := D__law_draw (P := P) (w := w) (base := base) T; have D__law_question := D__law_question (P := P) (w := w) (base := base) T
  refine ⟨_, (pss_cons (ps_if (pt_cmpR (op_eqU (K := K) hr.units) (pe_callA D__law_draw hr pass0 (pa_cons (pv 0) (pa_cons pe_int pa_nil))) pe_int (nomark _)) (pss_one (ps_ret (pe_callA D__law_question hr pass0 (pa_cons (pv 0) (pa_cons (pv 1) pa_nil))))) pss_nil) (pss_one (ps_ret (pe_callA D__law_deed hr pass0 (pa_cons (pv 0) (pa_cons (pv 1) pa_nil)))))), ?_⟩
  walk_at "st"
  refine ⟨b, d, 2, rfl, B, by decide, fun i H1 h0 h1 e1 B1 => ?_⟩
  walk_at "st"
  refine c_ite (fun g => ?_) (fun g => ?_)
  · walk_at "st"
    exact ⟨b, d, f, fs, rfl, B1, F.kb B e1, G, fun a x H2 hb _ e2 B2 ha => q a x H2 hb rfl (e1.trans e2) B2 ha⟩
  · walk_at "st"
    exact ⟨b, d, f, fs, rfl, B1, F.kb B e1, G, fun a x H2 hb _ e2 B2 ha => q a x H2 hb rfl (e1.trans e2) B2 ha⟩
theorem D__law_action (T : TX K mg) : DefAt P w K mg base CX0 "_law_action" 7 ["_law_box", "_law_files_here"] (spDrawn K fun _ => true) :=
  def_of T 23 39 sc__law_action bn__law_action (by walk_at "len") (b__law_action T)
end
end K06



namespace K06
open PySem L2 Sa
structure Fit (n w : Nat) (d : PyData) : Prop where
  lay : PyData.canLay0 d = true
  dep : PyData.depth d ≤ n
  wt : PyData.weight d ≤ w
  shrt : PyData.intsShort 13 d = true
  show_ : PyData.showable d = true
structure FitAll (n w : Nat) (ds : List PyData) : Prop where
  lay : PyData.canLayAll0 ds = true
  dep : PyData.depthAll ds ≤ n
  wt : PyData.weightAll ds ≤ w
  shrt : PyData.intsShortAll 13 ds = true
  show_ : PyData.showableAll ds = true
theorem Fit.mono {n w n' w' : Nat} {d : PyData} (h : Fit n w d) (h1 : n ≤ n') (h2 : w ≤ w') : Fit n' w' d := ⟨h.lay, Nat.le_trans h.dep h1, Nat.le_trans h.wt h2, h.shrt, h.show_⟩
theorem Fit.none : Fit 0 0 .none := ⟨rfl, Nat.le_refl _, Nat.le_refl _, rfl, rfl⟩
theorem Fit.bool (b : Bool) : Fit 0 0 (.bool b) := ⟨rfl, Nat.le_refl _, Nat.le_refl _, rfl, rfl⟩
theorem Fit.str {z : Str} {w : Nat} (h : okS z = true) (hw : z.length ≤ w) : Fit 0 w (.str z) := ⟨by unfold PyData.canLay0; exact h, Nat.le_refl _, by unfold PyData.weight; exact hw, by simp only [PyData.intsShort], by simp only [PyData.showable]⟩
theorem FitAll.nil {n : Nat} : FitAll n 0 [] := ⟨by simp only [PyData.canLayAll0], Nat.zero_le _, Nat.le_refl _, by simp only [PyData.intsShortAll], by simp only [PyData.showableAll]⟩
theorem FitAll.cons {n w v : Nat} {d : PyData} {ds : List PyData} (h : Fit n w d) (g : FitAll n v ds) : FitAll n (w + 1 + v) (d :: ds) :=
  ⟨by simp only [PyData.canLayAll0, h.lay, g.lay, Bool.and_self], by simp only [PyData.depthAll]; exact Nat.max_le.mpr ⟨h.dep, g.dep⟩, by simp only [PyData.weightAll]; have := h.wt; have := g.wt; omega, by simp only [PyData.intsShortAll, h.shrt, g.shrt, Bool.and_self], by simp only [PyData.showableAll, h.show_, g.show_, Bool.and_self]⟩
theorem FitAll.of {n w : Nat} : ∀ {ds : List PyData}, (∀ d ∈ ds, Fit n w d) → FitAll n ((w + 1) * ds.length) ds
  | [], _ => FitAll.nil
  | d :: r, h => by
    have g := FitAll.cons (h d (List.mem_cons_self ..)) (FitAll.of fun e he => h e (List.mem_cons_of_mem _ he))
    rw [List.length_cons, Nat.mul_add, Nat.mul_one]
    exact ⟨g.lay, g.dep, by have := g.wt; omega, g.shrt, g.show_⟩
theorem FitAll.mono {n w n' w' : Nat} {ds : List PyData} (h : FitAll n w ds) (h1 : n ≤ n') (h2 : w ≤ w') : FitAll n' w' ds := ⟨h.lay, Nat.le_trans h.dep h1, Nat.le_trans h.wt h2, h.shrt, h.show_⟩
theorem FitAll.tup {n w : Nat} {ds : List PyData} (h : FitAll n w ds) : Fit (n + 1) w (.tuple ds) :=
  ⟨by simp only [PyData.canLay0, h.lay], by simp only [PyData.depth]; have := h.dep; omega, by simp only [PyData.weight]; exact h.wt, by simp only [PyData.intsShort, h.shrt], by simp only [PyData.showable, h.show_]⟩
theorem FitAll.lst {n w : Nat} {ds : List PyData} (h : FitAll n w ds) : Fit (n + 1) w (.list ds) :=
  ⟨by simp only [PyData.canLay0, h.lay], by simp only [PyData.depth]; have := h.dep; omega, by simp only [PyData.weight]; exact h.wt, by simp only [PyData.intsShort, h.shrt], by simp only [PyData.showable, h.show_]⟩
theorem Fit.tup {n w m : Nat} {ds : List PyData} (h : ∀ d ∈ ds, Fit n w d) (hl : ds.length ≤ m) : Fit (n + 1) ((w + 1) * m) (.tuple ds) := ((FitAll.of h).mono (Nat.le_refl _) (Nat.mul_le_mul_left _ hl)).tup
theorem Fit.nice {n w : Nat} {d : PyData} (h : Fit n w d) (hn : n ≤ 64) (hw : w ≤ 1048576) : Nice d := by
  refine ⟨?_, h.shrt, h.show_⟩
  unfold PyData.layable0
  have e : (2 : Nat) ^ 20 = 1048576 := by decide
  rw [h.lay, decide_eq_true (Nat.le_trans h.dep hn), e, decide_eq_true (Nat.le_trans h.wt hw)]
  rfl
theorem Fit.shaped {n w : Nat} {d : PyData} (h : Fit n w d) (hn : n ≤ 64) : SeqAt.shaped d = true := by
  unfold SeqAt.shaped
  rw [h.lay, decide_eq_true (Nat.le_trans h.dep hn)]
  rfl
theorem Fit.strs {ys : List Str} {w m : Nat} (h : ∀ y ∈ ys, okS y = true ∧ y.length ≤ w) (hl : ys.length ≤ m) : Fit 1 ((w + 1) * m) (strsD ys) :=
  Fit.tup (fun d hd => by obtain ⟨y, hy, rfl⟩ := List.mem_map.mp hd; exact Fit.str (h y hy).1 (h y hy).2) (by rw [List.length_map]; exact hl)
theorem Fit.word {z : Str} (h : okS z = true) (hl : z.length ≤ 11) : Fit 1 12 (wordD z) := Fit.tup (m := 1) (fun d hd => by rw [List.mem_singleton.mp hd]; exact Fit.str h hl) (by simp)
end K06




namespace K06
open PySem L2 Sa
theorem law_cut (x y : Str) : decide (cutS x none (some ((y.length : Int) + 1)) = y ++ PySem.Str.ofString "/") = Txt.startswith x (y ++ PySem.Str.ofString "/") := by
  rw [← cut_starts, str_app_len]
  have e1 : (PySem.Str.ofString "/").length = 1 := by decide
  rw [e1]
  rfl
def lawBlocked (ps : List Str) (p : Str) : Bool := ps.any fun o => !decide (o = p) && (isInsideS o p || isInsideS p o)
theorem lawBlocked_eq {fs : List File} {p : Str} (hp : isPathS p = true) : lawBlocked (pathsOf fs) p = blockedF fs p := by
  unfold lawBlocked blockedF insideF aboveF
  have e : ∀ q : Str → Bool, decide (0 < ((pathsOf fs).filter q).length) = (pathsOf fs).any q := fun q => by
    rw [Bool.eq_iff_iff, decide_eq_true_eq, List.any_eq_true, List.length_pos_iff_exists_mem]
    constructor
    · rintro ⟨a, ha⟩; exact ⟨a, (List.mem_filter.mp ha).1, (List.mem_filter.mp ha).2⟩
    · rintro ⟨a, h1, h2⟩; exact ⟨a, List.mem_filter.mpr ⟨h1, h2⟩⟩
  rw [e, e, Bool.eq_iff_iff, Bool.or_eq_true, List.any_eq_true, List.any_eq_true, List.any_eq_true]
  have so := self_out hp
  constructor
  · rintro ⟨o, h1, h2⟩
    rw [Bool.and_eq_true, Bool.or_eq_true] at h2
    exact h2.2.elim (fun h => .inl ⟨o, h1, h⟩) (fun h => .inr ⟨o, h1, h⟩)
  · have ne : ∀ o, isInsideS o p = true ∨ isInsideS p o = true → o ≠ p := fun o h e => by
      subst e
      rw [so] at h
      rcases h with h | h <;> cases h
    rintro (⟨o, h1, h2⟩ | ⟨o, h1, h2⟩)
    · exact ⟨o, h1, by rw [h2, decide_eq_false (ne o (.inl h2))]; rfl⟩
    · exact ⟨o, h1, by rw [h2, decide_eq_false (ne o (.inr h2)), Bool.or_true]; rfl⟩
theorem itn_ks {d : Addr} {od : Obj} {ls : List (Addr × File)} : Itn (Itk d od (filesKv ls)) ls.length (fun H => H d = some (.frz od (.dK (filesKv ls)))) (Yq ls fun l => V.str l.2.1) := itn_k (f := fun l : Addr × File => (Sum.inr l.2.1 : Key)) (g := fun l => V.ref l.1)
section
variable {P : Program} {w : World} {K : PySem.W.Frag} {mg : Str → Option Value} {base : Heap}
def spLInside : Sp := fun vs H Q _ => ∃ x y : Str, vs = [.str x, .str y] ∧ x.length ≤ 1000 ∧ y.length ≤ 1000 ∧ Q (.bl (isInsideS x y)) H
theorem sc__law_inside : FnScope ["_law_path_here", "_law_place_here"] ["_law_path_here", "_law_place_here"] (defScope s__law_inside) := ⟨rfl, rfl, rfl, by decide +kernel, rfl, by decide +kernel, by decide +kernel⟩
theorem bn__law_inside : BindN "_law_inside" s__law_inside ["_law_path_here", "_law_place_here"] := fun _ _ _ _ _ _ us hl => match us, hl with | [_, _], _ => rfl
theorem b__law_inside (T : TX K mg) : Body P w K mg base "_law_inside" s__law_inside ["_law_path_here", "_law_place_here"] 1 (spLInside) := by
  intro cdv A outer s H vs Q E h X hr
  obtain ⟨x, y, rfl, hx, hy, q⟩ := h
  refine ⟨_, (pss_one (ps_ret (pe_or (pe_cmpR (op_eqU (K := K) hr.units) (pv 1) pe_str (nomark _)) (pe_one (pe_cmpR (op_eqU (K := K) hr.units) (pe_slice (sl_U (K := K)) (pv 0) po_none (po_some (pe_op (op_addU (K := K)) (pe_callB (cr_len (K := K)) rfl (T.free 2) PySem.boot_len (pa_cons (pv 1) pa_nil)) pe_int))) (pe_op (op_addU (K := K)) (pv 1) pe_str) (nomark _)))))), ?_⟩
  unfold isInsideS at q
  have e1 : (PySem.Str.ofString "/").length = 1 := by decide
  walk_at "st"
  refine c_ite (fun g => ?_) (fun g => ?_)
  · walk_at "st"
    rw [decide_eq_true g, Bool.true_or] at q
    exact q
  · walk_at "st"
    rw [decide_eq_false g, Bool.false_or, ← law_cut] at q
    refine c_slS (by rw [sizeLine_eq]; omega) ?_
    walk_at "st"
    refine c_addS (by rw [sizeLine_eq]; omega) ?_
    walk_at "st"
    exact q
theorem D__law_inside (T : TX K mg) : DefAt P w K mg base CX0 "_law_inside" 2 ["_law_path_here", "_law_place_here"] (spLInside) :=
  def_of T 15 30 sc__law_inside bn__law_inside (by walk_at "len") (b__law_inside T)
def spLBlocked (K : PySem.W.Frag) : Sp := fun vs H Q _ => ∃ (f : Addr) (p : Str) (fs : List File), vs = [.ref f, .str p] ∧ FilesAt K H f fs ∧ (∀ o ∈ pathsOf fs, o.length ≤ 1000) ∧ p.length ≤ 1000 ∧ Q (.bl (lawBlocked (pathsOf fs) p)) H
theorem lb_yes {ps : List Str} {p o : Str} (h : o ∈ ps) (h1 : o ≠ p) (h2 : (isInsideS o p || isInsideS p o) = true) : lawBlocked ps p = true := List.any_eq_true.mpr ⟨o, h, by rw [h2, decide_eq_false h1]; rfl⟩
theorem lb_snoc {ps : List Str} {p o : Str} {i : Nat} (h : ps[i]? = some o) (g : lawBlocked (ps.take i) p = false) (n : (!decide (o = p) && (isInsideS o p || isInsideS p o)) = false) : lawBlocked (ps.take (i + 1)) p = false := by
  unfold lawBlocked at g ⊢
  rw [take_succ' h, List.any_append, g, Bool.false_or, List.any_cons, n]
  rfl
theorem sc__law_blocked : FnScope ["_law_files_here", "_law_path_here", "_law_other"] ["_law_files_here", "_law_path_here"] (defScope s__law_blocked) := ⟨rfl, rfl, rfl, by decide +kernel, rfl, by decide +kernel, by decide +kernel⟩
theorem bn__law_blocked : BindN "_law_blocked" s__law_blocked ["_law_files_here", "_law_path_here"] := fun _ _ _ _ _ _ us hl => match us, hl with | [_, _], _ => rfl
theorem b__law_blocked (T : TX K mg) : Body P w K mg base "_law_blocked" s__law_blocked ["_law_files_here", "_law_path_here", "_law_other"] 2 (spLBlocked K) := by
  intro cdv A outer s H vs Q E h X hr
  obtain ⟨f, p, fs, rfl, F, hps, hp, q⟩ := h
  have D__law_inside := D__law_inside (P := P) (w := w) (base := base) T
  refine ⟨_, (pss_cons (ps_lock (ps_for PassesOwn.never rfl (pi_keys (pv 0)) (pg_name (i := 2) sc__law_blocked.nd rfl (Or.inl rfl)) (pss_one (ps_if (PW.pt (pw_and (pt_cmpR (op_neU (K := K) hr.units) (pv 2) (pv 1) (nomark _)) (pw_and1 (PW.pt (pw_or (pt_tru (K := K) (pe_callA D__law_inside hr pass0 (pa_cons (pv 2) (pa_cons (pv 1) pa_nil)))) (pw_or1 (pt_tru (K := K) (pe_callA D__law_inside hr pass0 (pa_cons (pv 1) (pa_cons (pv 2) pa_nil)))))))))) (pss_one (ps_ret pe_bl)) pss_nil)))) (pss_one (ps_ret pe_bl))), ?_⟩
  obtain ⟨ls, hf, hl, rfl⟩ := F.ex
  walk_at "st"
  refine c_lockF hf fun od => ?_
  have back : upd (upd H f (.frz od (.dK (filesKv ls)))) f (.dK (filesKv ls)) = H := by rw [lock_back, upd_self hf]
  walk_at "st"
  refine c_keysAt upd_same ?_
  refine forQ (itn_ks (ls := ls)) (fun i σ H' => ∃ v, σ = [some (.ref f), some (.str p), v] ∧ H' = upd H f (.frz od (.dK (filesKv ls))) ∧ lawBlocked ((pathsOf (ls.map Prod.snd)).take i) p = false) ⟨_, rfl, rfl, rfl⟩ (by rintro i σ H' ⟨_, _, rfl, _⟩; exact upd_same) ?_ ?_
  · rintro i x σ H' _ hi ⟨v, rfl, rfl, hg⟩ ⟨rfl, l, hl1, rfl⟩
    have ho : (pathsOf (ls.map Prod.snd))[i]? = some l.2.1 := by unfold pathsOf; rw [List.getElem?_map, List.getElem?_map, hl1]; rfl
    have hm := List.mem_of_getElem? ho
    have hlen := hps _ hm
    walk_at "st"
    have yes : l.2.1 ≠ p → (isInsideS l.2.1 p || isInsideS p l.2.1) = true → Q (.bl true) H := fun h1 h2 => by rw [lb_yes hm h1 h2] at q; exact q
    refine c_iteN (fun g1 => ?_) (fun g1 => ?_)
    · walk_at "st"
      refine ⟨_, _, rfl, hlen, hp, ?_⟩
      walk_at "st"
      refine c_iteB (fun g2 => ?_) (fun g2 => ?_)
      · walk_at "st"
        refine ⟨upd_same, ?_⟩
        rw [back]
        exact yes g1 (by rw [g2]; rfl)
      · walk_at "st"
        refine ⟨_, _, rfl, hp, hlen, ?_⟩
        walk_at "st"
        refine c_iteB (fun g3 => ?_) (fun g3 => ?_)
        · walk_at "st"
          refine ⟨upd_same, ?_⟩
          rw [back]
          exact yes g1 (by rw [g3, Bool.or_true])
        · walk_at "st"
          exact ⟨_, rfl, rfl, lb_snoc ho hg (by rw [g2, g3]; simp)⟩
    · walk_at "st"
      exact ⟨_, rfl, rfl, lb_snoc ho hg (by rw [decide_eq_true g1]; rfl)⟩
  · rintro σ H' ⟨v, rfl, rfl, hg⟩
    refine ⟨upd_same, ?_⟩
    rw [back]
    walk_at "st"
    rw [List.take_of_length_le (by unfold pathsOf; rw [List.length_map, List.length_map]; exact Nat.le_refl _)] at hg
    rw [hg] at q
    exact q
theorem D__law_blocked (T : TX K mg) : DefAt P w K mg base CX0 "_law_blocked" 3 ["_law_files_here", "_law_path_here"] (spLBlocked K) :=
  def_of T 16 31 sc__law_blocked bn__law_blocked (by walk_at "len") (b__law_blocked T)

end
def putR (fs : List File) (p : Str) (ls : List Str) : List File := if fs.any (fun f => decide (f.1 = p)) = true then fs.map (fun f => if f.1 = p then (p, ls) else f) else fs ++ [(p, ls)]
def putA (rs : List (Addr × File)) (p : Str) (a : Addr) (ls : List Str) : List (Addr × File) := if rs.any (fun r => decide (r.2.1 = p)) = true then rs.map (fun r => if r.2.1 = p then (a, (p, ls)) else r) else rs ++ [(a, (p, ls))]
theorem putA_snd (rs : List (Addr × File)) (p : Str) (a : Addr) (ls : List Str) : (putA rs p a ls).map Prod.snd = putR (rs.map Prod.snd) p ls := by
  unfold putA putR
  rw [List.any_map]
  have e : ((fun f : File => decide (f.1 = p)) ∘ Prod.snd) = fun r : Addr × File => decide (r.2.1 = p) := rfl
  rw [e]
  split
  · rw [List.map_map, List.map_map]
    congr 1
    funext r
    simp only [Function.comp]
    split <;> rfl
  · rw [List.map_append]; rfl
theorem putA_kv (rs : List (Addr × File)) (p : Str) (a : Addr) (ls : List Str) : filesKv (putA rs p a ls) = putK (filesKv rs) (Sum.inr p) (.ref a) := by
  unfold putA putK filesKv
  rw [List.any_map]
  have e : ((fun kv : Key × V => decide (kv.1 = (Sum.inr p : Key))) ∘ fun l : Addr × File => ((Sum.inr l.2.1 : Key), V.ref l.1)) = fun r : Addr × File => decide (r.2.1 = p) := by
    funext r
    simp
  rw [e]
  split
  · rw [List.map_map, List.map_map]
    congr 1
    funext r
    simp only [Function.comp, Sum.inr.injEq]
    split
    · rename_i h; rw [h]
    · rfl
  · rw [List.map_append]; rfl
theorem putR_perm {fs : List File} (h : Once fs) (p : Str) (ls : List Str) : (putR fs p ls).Perm (withF fs p ls) := by
  unfold putR withF withoutF
  split
  · rename_i hp
    induction fs with
    | nil => simp at hp
    | cons f r ih =>
      obtain ⟨h1, h2⟩ := List.nodup_cons.mp (show (f.1 :: r.map Prod.fst).Nodup from h)
      by_cases e : f.1 = p
      · have hr : ∀ g ∈ r, ¬ g.1 = p := fun g hg e2 => h1 (by rw [e, ← e2]; exact List.mem_map_of_mem (f := Prod.fst) hg)
        rw [List.map_cons, if_pos e, List.filter_cons_of_neg (by simp [e])]
        have e1 : r.map (fun f => if f.1 = p then (p, ls) else f) = r := by
          conv => rhs; rw [← List.map_id r]
          exact List.map_congr_left fun g hg => by rw [if_neg (hr g hg)]; rfl
        have e2 : r.filter (fun f => !decide (f.1 = p)) = r := List.filter_eq_self.mpr fun g hg => by rw [decide_eq_false (hr g hg)]; rfl
        rw [e1, e2]
        exact (List.perm_append_singleton (p, ls) r).symm
      · rw [List.map_cons, if_neg e, List.filter_cons_of_pos (by simp [e]), List.cons_append]
        refine List.Perm.cons f (ih h2 ?_)
        rw [List.any_cons, decide_eq_false e, Bool.false_or] at hp
        exact hp
  · rename_i hp
    have e2 : fs.filter (fun f => !decide (f.1 = p)) = fs := List.filter_eq_self.mpr fun g hg => by
      rw [List.any_eq_true] at hp
      cases q : decide (g.1 = p) with
      | false => rfl
      | true => exact absurd ⟨g, hg, q⟩ hp
    rw [e2]
theorem GoodP.put {fs : List File} {p : Str} {ls : List Str} (h : GoodP fs) (hp : isPathS p = true) (hl : isLinesS ls = true) (nb : lawBlocked (pathsOf fs) p = false) (hn : fs.length < 20 ∨ (at? fs p).isSome = true) : GoodP (putR fs p ls) :=
  (h.withf hp hl (nob (by rw [← lawBlocked_eq hp]; exact nb)) hn).perm (putR_perm h.once p ls).symm
theorem putR_len (fs : List File) (p : Str) (ls : List Str) : (putR fs p ls).length ≤ fs.length + 1 := by
  unfold putR
  split
  · rw [List.length_map]; omega
  · rw [List.length_append]; exact Nat.le_refl _
section
variable {K : PySem.W.Frag} {H : Hp} {f la : Addr} {fs : List File} {p : Str} {ls : List Str} {R : Hp → Prop}
theorem c_putF (h : FilesAt K H f fs) (hn : fs.length ≤ 1000) (hl : SqT K H la (ls.map V.str)) (q : ∀ H', Kp [f] H H' → Kt H H' → FilesAt K H' f (putR fs p ls) → (∀ a o, a ≠ f → H' a = some o → H a = some o) → R H') : ∃ a H4, V.ref f = .ref a ∧ DPut H a (.str p) (.ref la) H4 ∧ R H4 := by
  obtain ⟨rs, h1, h2, rfl⟩ := h.ex
  have kt : ∀ o, Kt H (upd H f o) := fun o => Kt.upd1 (NoT.dK h1)
  refine c_dputAt h1 (by rw [sizeLine_eq]; unfold filesKv; rw [List.length_map] at hn ⊢; omega) ?_
  rw [← putA_kv rs p la ls]
  refine q _ (Kp.mut (by simp)) (kt _) ⟨putA rs p la ls, upd_same, fun r hr => ?_, putA_snd rs p la ls⟩ (fun a o ha ho => by rw [upd_ne ha] at ho; exact ho)
  unfold putA at hr
  split at hr
  · obtain ⟨r0, hr0, rfl⟩ := List.mem_map.mp hr
    split
    · exact SqT.kt (kt _) hl
    · exact SqT.kt (kt _) (h2 r0 hr0)
  · rcases List.mem_append.mp hr with hr | hr
    · exact SqT.kt (kt _) (h2 r hr)
    · rw [List.mem_singleton.mp hr]; exact SqT.kt (kt _) hl
end
section
variable {P : Program} {w : World} {K : PySem.W.Frag} {mg : Str → Option Value} {base : Heap}
def spFiles (K : PySem.W.Frag) : Sp := fun vs H Q _ => ∃ (b d : Addr) (m : Int), vs = [.ref b, .int m] ∧ Bx H b d ∧ 0 ≤ m ∧ m ≤ 12 ∧ ∀ f fs H', GoodP fs → (fs.length : Int) ≤ m → FilesAt K H' f fs → Kp [b] H H' → Bx H' b d → H f = none → Q (.ref f) H'
theorem sc__law_files : FnScope ["_law_box", "_law_most", "_law_files_here", "_law_turn", "_law_path_here", "_law_lines_here"] ["_law_box", "_law_most"] (defScope s__law_files) := ⟨rfl, rfl, rfl, by decide +kernel, rfl, by decide +kernel, by decide +kernel⟩
theorem bn__law_files : BindN "_law_files" s__law_files ["_law_box", "_law_most"] := fun _ _ _ _ _ _ us hl => match us, hl with | [_, _], _ => rfl
theorem b__law_files (T : TX K mg) : Body P w K mg base "_law_files" s__law_files ["_law_box", "_law_most", "_law_files_here", "_law_turn", "_law_path_here", "_law_lines_here"] 4 (spFiles K) := by
  intro cdv A outer s H vs Q E h X hr
  obtain ⟨b, d, m, rfl, B, m0, m1, q⟩ := h
  have D__law_blocked := D__law_blocked (P := P) (w := w) (base := base) T; have D__law_draw := D__law_draw (P := P) (w := w) (base := base) T; have D__law_lines := D__law_lines (P := P) (w := w) (base := base) T; have D__law_path := D__law_path (P := P) (w := w) (base := base) T
  refine ⟨_, (pss_cons (ps_set (i := 2) sc__law_files.nd rfl (Or.inl rfl) pe_dnewK) (pss_cons (ps_for PassesOwn.never rfl (pi_range1 rfl (T.free 23) (pa_cons (pe_callA D__law_draw hr pass0 (pa_cons (pv 0) (pa_cons (pe_op (op_addU (K := K)) (pv 1) pe_int) pa_nil))) pa_nil)) (pg_name (i := 3) sc__law_files.nd rfl (Or.inl rfl)) (pss_cons (ps_set (i := 4) sc__law_files.nd rfl (Or.inl rfl) (pe_callA D__law_path hr pass0 (pa_cons (pv 0) pa_nil))) (pss_cons (ps_set (i := 5) sc__law_files.nd rfl (Or.inl rfl) (pe_callA D__law_lines hr pass0 (pa_cons (pv 0) (pa_cons pe_int pa_nil)))) (pss_one (ps_if (pt_not (pt_tru (K := K) (pe_callA D__law_blocked hr pass0 (pa_cons (pv 2) (pa_cons (pv 4) pa_nil))))) (pss_one (ps_dput (hu_of hr) (pv 2) (pv 4) (pv 5) rfl)) pss_nil))))) (pss_one (ps_ret (pv 2))))), ?_⟩
  walk_at "st"
  refine c_dnew fun f H1 N1 => ?_
  walk_at "st"
  refine ⟨b, d, m + 1, rfl, B.nw N1, by omega, fun n H2 n0 n1 e2 B2 => ?_⟩
  walk_at "st"
  have nf := B.ne_new N1.fr
  have F1 : FilesAt K H1 f [] := FilesAt.nil N1.at_
  have F2 := F1.kb (B.nw N1) e2
  refine forR (fun i σ H' => ∃ v3 v4 v5 fs, σ = [some (.ref b), some (.int m), some (.ref f), v3, v4, v5] ∧ FilesAt K H' f fs ∧ GoodP fs ∧ fs.length ≤ i ∧ Kp [b] H H' ∧ Bx H' b d) ⟨_, _, _, [], rfl, F2, ⟨by simp, .nil, by simp, by simp, by simp⟩, Nat.le_refl _, (N1.kp (ms := [b])).trans e2, B2⟩ ?_ ?_
  · rintro i σ H3 hi ⟨v3, v4, v5, fs, rfl, F3, G3, hl, e3, B3⟩
    have gl := G3.len
    walk_at "st"
    refine ⟨b, d, rfl, B3, fun z H4 hz e4 B4 => ?_⟩
    walk_at "st"
    refine ⟨b, d, 4, rfl, B4, by decide, by decide, fun la lns H5 hls _ e5 B5 hla => ?_⟩
    walk_at "st"
    have F5 := (F3.kb B3 e4).kb B4 e5
    have hz8 := hz.len
    refine ⟨f, z, fs, rfl, F5, fun o ho => by
      obtain ⟨r, hr, rfl⟩ := List.mem_map.mp ho
      have := path_len (G3.path r hr)
      omega, by omega, ?_⟩
    walk_at "st"
    refine c_iteNB (fun g => ?_) (fun g => ?_)
    · walk_at "st"
      refine c_putF F5 (by omega) hla fun H6 e6 kt6 F6 back => ?_
      walk_at "st"
      refine ⟨_, _, _, _, rfl, F6, G3.put hz.path hls g (.inl (by omega)), by have := putR_len fs z lns; omega, ?_, ?_⟩
      · intro a o ha ho
        have hne : a ≠ f := fun e => by rw [e, N1.fr] at ho; cases ho
        exact e6 a o (by simpa using hne) (((e3.trans e4).trans e5) a o ha ho)
      · obtain ⟨at_, ds, b1, b2, b3⟩ := B5.ex
        exact ⟨at_, ds, e6 b _ (by simpa using (Ne.symm nf.1)) b1, e6 d _ (by simpa using (Ne.symm nf.2)) b2, b3⟩
    · walk_at "st"
      exact ⟨_, _, _, _, rfl, F5, G3, by omega, (e3.trans e4).trans e5, B5⟩
  · rintro σ H3 ⟨v3, v4, v5, fs, rfl, F3, G3, hl, e3, B3⟩
    walk_at "st"
    exact q f fs H3 G3 (by omega) F3 e3 B3 N1.fr
theorem D__law_files (T : TX K mg) : DefAt P w K mg base CX0 "_law_files" 5 ["_law_box", "_law_most"] (spFiles K) :=
  def_of T 17 32 sc__law_files bn__law_files (by walk_at "len") (b__law_files T)
end
end K06



namespace K06
open PySem L2 Sa
local macro_rules | `(tactic| walk_at "s1") => `(tactic| first | (with_reducible apply c_dgetK))
local macro_rules | `(tactic| walk_at "s1") => `(tactic| (with_reducible apply c_raiseO))
def Action.d : Action → PyData
  | .read p => .tuple [.str "read", .str p]
  | .kind z => .tuple [.str "kind", .str z]
  | .list z => .tuple [.str "list", .str z]
  | .find z w => .tuple [.str "find", .str z, .str w]
  | .count z => .tuple [.str "count", .str z]
  | .write p ls => .tuple [.str "write", .str p, strsD ls]
  | .remove p => .tuple [.str "remove", .str p]
  | .move p t => .tuple [.str "move", .str p, .str t]
  | .splice p old new => .tuple [.str "splice", .str p, strsD old, strsD new]
theorem ActAt.dt {K : PySem.W.Frag} {H : Hp} {a : Addr} {x : Action} (h : ActAt K H a x) : Dt K H (.ref a) x.d := by
  cases x with
  | write p ls => obtain ⟨l, h1, h2⟩ := h; exact .tup h1 (.cons (.str _) (.cons (.str _) (.cons (dt_strs h2) .nil)))
  | splice p old new => obtain ⟨l, m, h1, h2, h3⟩ := h; exact .tup h1 (.cons (.str _) (.cons (.str _) (.cons (dt_strs h2) (.cons (dt_strs h3) .nil))))
  | find z w => exact .tup h (.cons (.str _) (.cons (.str _) (.cons (.str _) .nil)))
  | move z w => exact .tup h (.cons (.str _) (.cons (.str _) (.cons (.str _) .nil)))
  | _ => exact .tup h (.cons (.str _) (.cons (.str _) .nil))
theorem dta_one {K : PySem.W.Frag} {H : Hp} {xs : List V} {s : Str} {ds : List PyData} (h : DtAll K H xs (.str s :: ds)) : ∃ vs, xs = .str s :: vs ∧ DtAll K H vs ds := by
  obtain ⟨v, vs, rfl, h1, h2⟩ := dta_cons h
  rw [dt_str h1]
  exact ⟨vs, rfl, h2⟩
theorem dta_strsD {K : PySem.W.Frag} {H : Hp} {xs : List V} {ys : List Str} {ds : List PyData} (h : DtAll K H xs (strsD ys :: ds)) : ∃ l vs, xs = .ref l :: vs ∧ SqT K H l (ys.map V.str) ∧ DtAll K H vs ds := by
  obtain ⟨v, vs, rfl, h1, h2⟩ := dta_cons h
  obtain ⟨l, rfl, h3⟩ := strsD_of h1
  exact ⟨l, vs, rfl, h3, h2⟩
theorem two_inv {K : PySem.W.Frag} {H : Hp} {v : V} {s z : Str} (h : Dt K H v (.tuple [.str s, .str z])) : ∃ a, v = .ref a ∧ SqT K H a [.str s, .str z] := by
  obtain ⟨a, xs, e, h1, h2⟩ := dt_tup h
  obtain ⟨ys, e2, h3⟩ := dta_one h2
  obtain ⟨zs, e3, h4⟩ := dta_one h3
  have e4 := dta_nil h4
  rw [e4] at e3
  rw [e3] at e2
  rw [e2] at h1
  exact ⟨a, e, h1⟩
theorem three_inv {K : PySem.W.Frag} {H : Hp} {v : V} {s z w : Str} (h : Dt K H v (.tuple [.str s, .str z, .str w])) : ∃ a, v = .ref a ∧ SqT K H a [.str s, .str z, .str w] := by
  obtain ⟨a, xs, e, h1, h2⟩ := dt_tup h
  obtain ⟨ys, e2, h3⟩ := dta_one h2
  obtain ⟨zs, e3, h4⟩ := dta_one h3
  obtain ⟨us, e4, h5⟩ := dta_one h4
  have e5 := dta_nil h5
  rw [e5] at e4
  rw [e4] at e3
  rw [e3] at e2
  rw [e2] at h1
  exact ⟨a, e, h1⟩
theorem ActAt.of {K : PySem.W.Frag} {H : Hp} {v : V} {x : Action} (h : Dt K H v x.d) : ∃ a, v = .ref a ∧ ActAt K H a x := by
  cases x with
  | write p ls =>
    obtain ⟨a, xs, e, h1, h2⟩ := dt_tup h
    obtain ⟨ys, e2, h3⟩ := dta_one h2
    obtain ⟨zs, e3, h4⟩ := dta_one h3
    obtain ⟨l, us, e4, g1, h5⟩ := dta_strsD h4
    have e5 := dta_nil h5
    rw [e5] at e4
    rw [e4] at e3
    rw [e3] at e2
    rw [e2] at h1
    exact ⟨a, e, l, h1, g1⟩
  | splice p old new =>
    obtain ⟨a, xs, e, h1, h2⟩ := dt_tup h
    obtain ⟨ys, e2, h3⟩ := dta_one h2
    obtain ⟨zs, e3, h4⟩ := dta_one h3
    obtain ⟨l, us, e4, g1, h5⟩ := dta_strsD h4
    obtain ⟨m, ws, e5, g2, h6⟩ := dta_strsD h5
    have e6 := dta_nil h6
    rw [e6] at e5
    rw [e5] at e4
    rw [e4] at e3
    rw [e3] at e2
    rw [e2] at h1
    exact ⟨a, e, l, m, h1, g1, g2⟩
  | find z w => exact three_inv h
  | move z w => exact three_inv h
  | _ => exact two_inv h
theorem fit_str {z : Str} {w : Nat} (h : okS z = true) (hl : z.length ≤ w) (hw : w ≤ 252) : Fit 1 252 (.str z) := (Fit.str h hl).mono (by omega) hw
theorem place_ok {z : Str} (h : isPlaceS z = true) : okS z = true := by
  unfold isPlaceS at h
  rw [Bool.or_eq_true, decide_eq_true_eq] at h
  rcases h with rfl | h
  · decide +kernel
  · exact path_ok h
theorem word_ok {z : Str} (h : isWordS z = true) : okS z = true := by
  unfold isWordS at h
  simp only [Bool.and_eq_true] at h
  exact plain_ok h.2
theorem fit_lns {ls : List Str} (h : isLinesS ls = true) : Fit 1 252 (strsD ls) := by
  obtain ⟨l1, l2⟩ := lines_len h
  exact Fit.strs (w := 20) (m := 12) (fun y hy => ⟨plain_ok (l2 y hy).2, (l2 y hy).1⟩) l1
theorem fit_list {ds : List PyData} (h : ∀ d ∈ ds, Fit 1 252 d) (hl : ds.length ≤ 4) : Fit 2 1012 (.tuple ds) := Fit.tup h hl
theorem kw_ok : ∀ z ∈ (["read", "kind", "list", "find", "count", "write", "remove", "move", "splice"] : List Str), okS z = true ∧ z.length ≤ 6 := by decide +kernel
theorem fit_kw (z : Str) (h : z ∈ (["read", "kind", "list", "find", "count", "write", "remove", "move", "splice"] : List Str)) : Fit 1 252 (.str z) := fit_str (kw_ok z h).1 (kw_ok z h).2 (by omega)
theorem fit_action {x : Action} (h : x.bad = none) : Fit 2 1012 x.d := by
  have pth : ∀ {p : Str}, isPathS p = true → Fit 1 252 (.str p) := fun hp => fit_str (path_ok hp) (path_len hp) (by omega)
  have plc : ∀ {p : Str}, isPlaceS p = true → Fit 1 252 (.str p) := fun hp => fit_str (place_ok hp) (place_len hp) (by omega)
  have wrd : ∀ {p : Str}, isWordS p = true → Fit 1 252 (.str p) := fun hp => fit_str (word_ok hp) (word_len hp) (by omega)
  have two : ∀ {a b : PyData}, Fit 1 252 a → Fit 1 252 b → Fit 2 1012 (.tuple [a, b]) := fun ha hb => fit_list (fun d hd => by
    simp only [List.mem_cons, List.not_mem_nil, or_false] at hd
    rcases hd with rfl | rfl <;> assumption) (by simp)
  have three : ∀ {a b c : PyData}, Fit 1 252 a → Fit 1 252 b → Fit 1 252 c → Fit 2 1012 (.tuple [a, b, c]) := fun ha hb hc => fit_list (fun d hd => by
    simp only [List.mem_cons, List.not_mem_nil, or_false] at hd
    rcases hd with rfl | rfl | rfl <;> assumption) (by simp)
  cases x with
  | read p => simp only [Action.bad] at h; split at h; exact two (fit_kw _ (by decide +kernel)) (pth ‹_›); cases h
  | kind p => simp only [Action.bad] at h; split at h; exact two (fit_kw _ (by decide +kernel)) (plc ‹_›); cases h
  | list p => simp only [Action.bad] at h; split at h; exact two (fit_kw _ (by decide +kernel)) (plc ‹_›); cases h
  | count p => simp only [Action.bad] at h; split at h; exact two (fit_kw _ (by decide +kernel)) (plc ‹_›); cases h
  | remove p => simp only [Action.bad] at h; split at h; exact two (fit_kw _ (by decide +kernel)) (pth ‹_›); cases h
  | find p w =>
    simp only [Action.bad] at h
    split at h
    · split at h
      · exact three (fit_kw _ (by decide +kernel)) (plc ‹_›) (wrd ‹_›)
      · cases h
    · cases h
  | move p t =>
    simp only [Action.bad] at h
    split at h
    · split at h
      · exact three (fit_kw _ (by decide +kernel)) (pth ‹_›) (pth ‹_›)
      · cases h
    · cases h
  | write p ls =>
    simp only [Action.bad] at h
    split at h
    · split at h
      · exact three (fit_kw _ (by decide +kernel)) (pth ‹_›) (fit_lns ‹_›)
      · cases h
    · cases h
  | splice p old new =>
    simp only [Action.bad] at h
    split at h
    · split at h
      · split at h
        · rename_i h1 h2 h3
          rw [Bool.and_eq_true] at h2
          exact fit_list (fun d hd => by
            simp only [List.mem_cons, List.not_mem_nil, or_false] at hd
            rcases hd with rfl | rfl | rfl | rfl
            · exact fit_kw _ (by decide +kernel)
            · exact pth h1
            · exact fit_lns h2.1
            · exact fit_lns h3) (by simp)
        · cases h
      · cases h
    · cases h
end K06



namespace K06
open PySem L2 Sa
section
variable {P : Program} {w : World} {K : PySem.W.Frag} {mg : Str → Option Value} {base : Heap}
theorem sc__law_alike : FnScope ["_law_one", "_law_two"] ["_law_one", "_law_two"] (defScope s__law_alike) := ⟨rfl, rfl, rfl, by decide +kernel, rfl, by decide +kernel, by decide +kernel⟩
theorem bn__law_alike : BindN "_law_alike" s__law_alike ["_law_one", "_law_two"] := fun _ _ _ _ _ _ us hl => match us, hl with | [_, _], _ => rfl
def spAlike (K : PySem.W.Frag) : Sp := fun vs H Q _ => ∃ (x y : V) (d : PyData), vs = [x, y] ∧ Dp K H x d ∧ Dp K H y d ∧ Nice d ∧ Q (.bl true) H
theorem b__law_alike (T : TX K mg) : BodyG P w K mg base "_law_alike" s__law_alike ["_law_one", "_law_two"] 1 (spAlike K) := by
  intro cdv A outer s H vs Q E h X hr hg
  obtain ⟨x, y, d, rfl, hx, hy, nd, q⟩ := h
  refine ⟨_, (pss_one (ps_ret (pe_cmpR (op_eqU (K := K) hr.units) (pe_callB (cr_reprD (K := K) hg (un100 hr)) rfl (T.free 44) (by decide +kernel) (pa_cons (pv 0) pa_nil)) (pe_callB (cr_reprD (K := K) hg (un100 hr)) rfl (T.free 44) (by decide +kernel) (pa_cons (pv 1) pa_nil)) (nomark _)))), ?_⟩
  walk_at "st"
  refine c_repr hx nd ?_
  walk_at "st"
  refine c_repr hy nd ?_
  walk_at "st"
  rw [decide_eq_true rfl]
  exact q
theorem D__law_alike (T : TX K mg) : DefG P w K mg base "_law_alike" 2 ["_law_one", "_law_two"] (spAlike K) :=
  defG_of T 28 45 sc__law_alike bn__law_alike (fun vs H Q E h => by obtain ⟨b, d, _, rfl, _⟩ := h; rfl) (b__law_alike T)
end
end K06



namespace K06
open PySem L2 Sa
section
variable {P : Program} {w : World} {K : PySem.W.Frag} {mg : Str → Option Value} {base : Heap}
theorem sc_TextFault___init__ : FnScope ["self", "line", "column", "words"] ["self", "line", "column", "words"] (defScope s_TextFault___init__) := ⟨rfl, rfl, rfl, by decide +kernel, rfl, by decide +kernel, by decide +kernel⟩
theorem bn_TextFault___init__ : BindM "__init__" "TextFault.__init__" s_TextFault___init__ ["self", "line", "column", "words"] := fun _ _ _ _ _ _ us hl => match us, hl with | [_, _, _, _], _ => rfl
theorem b_tft (T : TX K mg) : BodyM P w K mg base "TextFault" "__init__" "TextFault.__init__" s_TextFault___init__ ["self", "line", "column", "words"] 1 (spInit3 K (He.ga K "TextFault") "line" "column" "words") := by
  intro cdv A outer s H vs Q E h X hr
  obtain ⟨a, u, v, x, rfl, ha, q⟩ := h
  refine ⟨_, (pss_cons (ps_ost (pv 0) (pv 1)) (pss_cons (ps_ost (pv 0) (pv 2)) (pss_one (ps_ost (pv 0) (pv 3))))), ?_⟩
  have hc := T.oex 4
  have n1 := He.noat_ok (T.fact 70)
  have n2 := He.noat_ok (T.fact 71)
  have n3 := He.noat_ok (T.fact 72)
  walk_at "st"
  refine c_ost ?_
  walk_at "st"
  refine ⟨a, He.ga K "TextFault", rfl, hc, n1, .inl ⟨ha, fun dx h1 h2 => ?_⟩⟩
  walk_at "st"
  refine c_ost ?_
  walk_at "st"
  refine ⟨a, He.ga K "TextFault", rfl, hc, n2, .inr ⟨dx, _, upd_same, by rw [upd_ne h2, upd_same], by simp, ?_⟩⟩
  dsimp only
  refine c_ost ?_
  walk_at "st"
  refine ⟨a, He.ga K "TextFault", rfl, hc, n3, .inr ⟨dx, _, by rw [upd_ne h2.symm, upd_same], upd_same, by simp, ?_⟩⟩
  exact q dx h1 h2
theorem E_TextFault (T : TX K mg) : ErrC3 P w K mg base "TextFault" "line" "column" "words" :=
  ⟨T.glo 11, T.oex 4, T.xfc 5, He.noat_ok (T.fact 70), He.noat_ok (T.fact 71), He.noat_ok (T.fact 72), _,
    meth_of T 31 48 sc_TextFault___init__ bn_TextFault___init__ (fun vs H Q E h => by obtain ⟨b, d, _, _, rfl, _⟩ := h; rfl) (b_tft T)⟩
end
local macro_rules | `(tactic| walk_at "s1") => `(tactic| (with_reducible apply c_raiseE3))
end K06



namespace K06
open PySem L2 Sa
structure Tok where
  kind : Str
  text : Str
  line : Int
  col : Int
structure Flt where
  line : Int
  col : Int
  words : Str
def signsL : List Nat := (PySem.Str.ofString "()[]").cps.toList
def endsL : List Nat := (PySem.Str.ofString " \n()[]\"").cps.toList
inductive Md where
  | nrm | wd (w : List Nat) (l c : Int) | quo (q : List Nat) (l c : Int)
def wordT (w : List Nat) (l c : Int) : Tok := ⟨"word", txt w, l, c⟩
def quoT (w : List Nat) (l c : Int) : Tok := ⟨"quoted", txt w, l, c⟩
def signT (x : Nat) (l c : Int) : Tok := ⟨"sign", txt [x], l, c⟩
def endT (l c : Int) : Tok := ⟨"end", "", l, c⟩
def fresh (x : Nat) (l c : Int) : List Tok × Md :=
  if x = 10 then ([], .nrm) else if x = 34 then ([], .quo [] l c) else if x ∈ signsL then ([signT x l c], .nrm) else if x = 32 then ([], .nrm) else ([], .wd [x] l c)
def stepM (m : Md) (x : Nat) (l c : Int) : Option (List Tok × Md) := match m with
  | .nrm => some (fresh x l c)
  | .wd w l0 c0 => if x ∈ endsL then some (wordT w l0 c0 :: (fresh x l c).1, (fresh x l c).2) else some ([], .wd (w ++ [x]) l0 c0)
  | .quo q l0 c0 => if x = 34 then some ([quoT q l0 c0], .nrm) else if x = 10 then none else some ([], .quo (q ++ [x]) l0 c0)
def lastM (m : Md) (l c : Int) : Except Flt (List Tok) := match m with
  | .nrm => .ok [endT l c]
  | .wd w l0 c0 => .ok [wordT w l0 c0, endT l c]
  | .quo _ _ _ => .error ⟨l, c, "text is not closed"⟩
def nxL (x : Nat) (l : Int) : Int := if x = 10 then l + 1 else l
def nxC (x : Nat) (c : Int) : Int := if x = 10 then 1 else c + 1
def spl : Md → List Nat → Int → Int → Except Flt (List Tok)
  | m, [], l, c => lastM m l c
  | m, x :: r, l, c => match stepM m x l c with
    | none => .error ⟨l, c, "text is not closed"⟩
    | some (es, m') => (spl m' r (nxL x l) (nxC x c)).map (es ++ ·)
theorem map_nil (e : Except Flt (List Tok)) : e.map (([] : List Tok) ++ ·) = e := by cases e <;> rfl
theorem map_app (e : Except Flt (List Tok)) (a b : List Tok) : (e.map (b ++ ·)).map (a ++ ·) = e.map ((a ++ b) ++ ·) := by
  cases e with
  | error f => rfl
  | ok ts => show Except.ok (a ++ (b ++ ts)) = Except.ok ((a ++ b) ++ ts); rw [List.append_assoc]
def quoB (x : Nat) : Bool := decide (x ≠ 34) && decide (x ≠ 10)
def wdB (x : Nat) : Bool := !decide (x ∈ endsL)
theorem spl_step {m m' : Md} {x : Nat} {r : List Nat} {l c : Int} {es : List Tok} (e : stepM m x l c = some (es, m')) : spl m (x :: r) l c = (spl m' r (nxL x l) (nxC x c)).map (es ++ ·) := by rw [spl, e]
theorem spl_none {m : Md} {x : Nat} {r : List Nat} {l c : Int} (e : stepM m x l c = none) : spl m (x :: r) l c = .error ⟨l, c, "text is not closed"⟩ := by rw [spl, e]
theorem spl_nl {r : List Nat} {l c : Int} : spl .nrm (10 :: r) l c = spl .nrm r (l + 1) 1 := by
  show (spl .nrm r (l + 1) 1).map ([] ++ ·) = _
  exact map_nil _
theorem spl_sp {r : List Nat} {l c : Int} : spl .nrm (32 :: r) l c = spl .nrm r l (c + 1) := by
  have e : stepM .nrm 32 l c = some ([], .nrm) := by
    show some (fresh 32 l c) = _
    unfold fresh
    rw [if_neg (by decide), if_neg (by decide), if_neg (by decide +kernel), if_pos rfl]
  rw [spl_step e]
  exact map_nil _
theorem signs_ne {x : Nat} (h : x ∈ signsL) : x ≠ 10 ∧ x ≠ 34 ∧ x ≠ 32 := (by decide +kernel : ∀ x ∈ signsL, x ≠ 10 ∧ x ≠ 34 ∧ x ≠ 32) x h
theorem spl_sg {x : Nat} {r : List Nat} {l c : Int} (h : x ∈ signsL) : spl .nrm (x :: r) l c = (spl .nrm r l (c + 1)).map ([signT x l c] ++ ·) := by
  obtain ⟨h1, h2, h3⟩ := signs_ne h
  have e : stepM .nrm x l c = some ([signT x l c], .nrm) := by
    show some (fresh x l c) = _
    unfold fresh
    rw [if_neg h1, if_neg h2, if_pos h]
  rw [spl_step e]
  show (spl .nrm r (nxL x l) (nxC x c)).map _ = _
  unfold nxL nxC
  rw [if_neg h1, if_neg h1]
theorem spl_q0 {r : List Nat} {l c : Int} : spl .nrm (34 :: r) l c = spl (.quo [] l c) r l (c + 1) := by
  show (spl (.quo [] l c) r l (c + 1)).map ([] ++ ·) = _
  exact map_nil _
theorem ends_iff {x : Nat} : x ∈ endsL ↔ x = 32 ∨ x = 10 ∨ x = 34 ∨ x ∈ signsL := by
  have e1 : endsL = [32, 10, 40, 41, 91, 93, 34] := by decide +kernel
  have e2 : signsL = [40, 41, 91, 93] := by decide +kernel
  rw [e1, e2]
  simp only [List.mem_cons, List.not_mem_nil, or_false]
  omega
theorem spl_w0 {x : Nat} {r : List Nat} {l c : Int} (h : x ∉ endsL) : spl .nrm (x :: r) l c = spl (.wd [x] l c) r l (c + 1) := by
  have h' := h
  rw [ends_iff] at h'
  simp only [not_or] at h'
  obtain ⟨h1, h2, h3, h4⟩ := h'
  have e : stepM .nrm x l c = some ([], .wd [x] l c) := by
    show some (fresh x l c) = _
    unfold fresh
    rw [if_neg h2, if_neg h3, if_neg h4, if_neg h1]
  rw [spl_step e]
  show (spl (.wd [x] l c) r (nxL x l) (nxC x c)).map ([] ++ ·) = _
  rw [map_nil]
  unfold nxL nxC
  rw [if_neg h2, if_neg h2]
theorem spl_wd : ∀ (r w : List Nat) (l0 c0 l c : Int), spl (.wd w l0 c0) r l c = (spl .nrm (r.dropWhile wdB) l (c + (r.takeWhile wdB).length)).map ([wordT (w ++ r.takeWhile wdB) l0 c0] ++ ·)
  | [], w, l0, c0, l, c => by
    show lastM _ l c = _
    rw [List.takeWhile_nil, List.dropWhile_nil, List.append_nil]
    show Except.ok [wordT w l0 c0, endT l c] = Except.ok ([wordT w l0 c0] ++ [endT l (c + ((0 : Nat) : Int))])
    rw [show c + ((0 : Nat) : Int) = c from by omega]
    rfl
  | x :: r, w, l0, c0, l, c => by
    by_cases h : x ∈ endsL
    · have hb : wdB x = false := by unfold wdB; simp [h]
      rw [List.takeWhile_cons, List.dropWhile_cons, hb]
      simp only [Bool.false_eq_true, if_false, List.append_nil, List.length_nil]
      rw [show c + ((0 : Nat) : Int) = c from by omega]
      have e : stepM (.wd w l0 c0) x l c = some (wordT w l0 c0 :: (fresh x l c).1, (fresh x l c).2) := by
        show (if x ∈ endsL then _ else _) = _
        rw [if_pos h]
      rw [spl_step e]
      show (spl (fresh x l c).2 r (nxL x l) (nxC x c)).map ((wordT w l0 c0 :: (fresh x l c).1) ++ ·) = ((spl (fresh x l c).2 r (nxL x l) (nxC x c)).map ((fresh x l c).1 ++ ·)).map ([wordT w l0 c0] ++ ·)
      rw [map_app]
      rfl
    · have hb : wdB x = true := by unfold wdB; simp [h]
      have hx : x ≠ 10 := fun e => h (ends_iff.mpr (.inr (.inl e)))
      rw [List.takeWhile_cons, List.dropWhile_cons, hb]
      simp only [if_true]
      have e : stepM (.wd w l0 c0) x l c = some ([], .wd (w ++ [x]) l0 c0) := by
        show (if x ∈ endsL then _ else _) = _
        rw [if_neg h]
      rw [spl_step e]
      show (spl (.wd (w ++ [x]) l0 c0) r (nxL x l) (nxC x c)).map ([] ++ ·) = _
      rw [map_nil, spl_wd r (w ++ [x]) l0 c0]
      unfold nxL nxC
      rw [if_neg hx, if_neg hx, List.append_assoc, List.length_cons]
      have : c + 1 + ((r.takeWhile wdB).length : Int) = c + (((r.takeWhile wdB).length + 1 : Nat) : Int) := by omega
      rw [this]
      rfl
def quoR (q r : List Nat) (l0 c0 l c : Int) : Except Flt (List Tok) := match r.dropWhile quoB with
  | 34 :: r' => (spl .nrm r' l (c + (r.takeWhile quoB).length + 1)).map ([quoT (q ++ r.takeWhile quoB) l0 c0] ++ ·)
  | _ => .error ⟨l, c + (r.takeWhile quoB).length, "text is not closed"⟩
theorem spl_quo : ∀ (r q : List Nat) (l0 c0 l c : Int), spl (.quo q l0 c0) r l c = quoR q r l0 c0 l c
  | [], q, l0, c0, l, c => by
    show Except.error (⟨l, c, _⟩ : Flt) = Except.error (⟨l, c + ((0 : Nat) : Int), _⟩ : Flt)
    rw [show c + ((0 : Nat) : Int) = c from by omega]
  | x :: r, q, l0, c0, l, c => by
    unfold quoR
    by_cases h : x = 34
    · subst h
      have hb : quoB 34 = false := rfl
      rw [List.takeWhile_cons, List.dropWhile_cons, hb]
      simp only [Bool.false_eq_true, if_false, List.append_nil, List.length_nil]
      show (spl .nrm r l (c + 1)).map ([quoT q l0 c0] ++ ·) = _
      rw [show c + ((0 : Nat) : Int) + 1 = c + 1 from by omega]
    · by_cases h2 : x = 10
      · subst h2
        have hb : quoB 10 = false := rfl
        rw [List.takeWhile_cons, List.dropWhile_cons, hb]
        show Except.error (⟨l, c, _⟩ : Flt) = Except.error (⟨l, c + ((0 : Nat) : Int), _⟩ : Flt)
        rw [show c + ((0 : Nat) : Int) = c from by omega]
      · have hb : quoB x = true := by unfold quoB; simp [h, h2]
        rw [List.takeWhile_cons, List.dropWhile_cons, hb]
        simp only [if_true]
        have e : stepM (.quo q l0 c0) x l c = some ([], .quo (q ++ [x]) l0 c0) := by
          show (if x = 34 then _ else if x = 10 then _ else _) = _
          rw [if_neg h, if_neg h2]
        rw [spl_step e]
        show (spl (.quo (q ++ [x]) l0 c0) r (nxL x l) (nxC x c)).map ([] ++ ·) = _
        rw [map_nil, spl_quo r (q ++ [x]) l0 c0]
        unfold nxL nxC quoR
        rw [if_neg h2, if_neg h2, List.append_assoc, List.length_cons]
        have : c + 1 + ((r.takeWhile quoB).length : Int) = c + (((r.takeWhile quoB).length + 1 : Nat) : Int) := by omega
        rw [this]
        rfl
def Fin (ts : List Tok) : Prop := ∃ (us : List Tok) (l c : Int), ts = us ++ [endT l c]
theorem Fin.app {us ts : List Tok} (h : Fin ts) : Fin (us ++ ts) := by
  obtain ⟨vs, l, c, rfl⟩ := h
  exact ⟨us ++ vs, l, c, by rw [List.append_assoc]⟩
theorem Fin.ne {ts : List Tok} (h : Fin ts) : ts ≠ [] := by
  obtain ⟨vs, l, c, rfl⟩ := h
  simp
theorem Fin.tail {t : Tok} {ts : List Tok} (h : Fin (t :: ts)) (hk : t.kind ≠ "end") : Fin ts := by
  obtain ⟨vs, l, c, e⟩ := h
  cases vs with
  | nil =>
    simp only [List.nil_append, List.cons.injEq] at e
    rw [e.1] at hk
    exact absurd rfl hk
  | cons v r =>
    simp only [List.cons_append, List.cons.injEq] at e
    exact ⟨r, l, c, e.2⟩
theorem spl_fin : ∀ {m : Md} {r : List Nat} {l c : Int} {ts : List Tok}, spl m r l c = .ok ts → Fin ts
  | m, [], l, c, ts, h => by
    have h : lastM m l c = .ok ts := h
    cases m with
    | nrm => injection h with h; exact ⟨[], l, c, h.symm⟩
    | wd w l0 c0 => injection h with h; exact ⟨[wordT w l0 c0], l, c, h.symm⟩
    | quo q l0 c0 => cases h
  | m, x :: r, l, c, ts, h => by
    cases e : stepM m x l c with
    | none => rw [spl_none e] at h; cases h
    | some p =>
      obtain ⟨es, m'⟩ := p
      rw [spl_step e] at h
      cases e2 : spl m' r (nxL x l) (nxC x c) with
      | error f => rw [e2] at h; cases h
      | ok us =>
        rw [e2] at h
        injection h with h
        rw [← h]
        exact (spl_fin e2).app
end K06



namespace K06
open PySem L2 Sa
local macro_rules | `(tactic| walk_at "s1") => `(tactic| first | (with_reducible apply c_dgetK))
local macro_rules | `(tactic| walk_at "s1") => `(tactic| (with_reducible apply c_raiseO))
local macro_rules | `(tactic| walk_at "s1") => `(tactic| first | (with_reducible apply c_dgetK))
local macro_rules | `(tactic| walk_at "s1") => `(tactic| (with_reducible apply c_raiseO))
local macro_rules | `(tactic| walk_at "s1") => `(tactic| first | (with_reducible apply c_un) | (with_reducible apply c_negI))
local macro_rules | `(tactic| walk_at "s1") => `(tactic| (with_reducible apply c_raiseE3))
set_option pp.maxSteps 1500
def fltX (f : Flt) : List (Str × V) := [("words", .str f.words), ("column", .int f.col), ("line", .int f.line)]
def FltE (K : PySem.W.Frag) (E : XK) (ms : List Addr) (H : Hp) (f : Flt) : Prop := ∀ H1 d H', Kp ms H H1 → Kt H H1 → New H1 d (.xd (fltX f)) H' → E (.ref (He.ga K "TextFault")) (some d) H'
theorem FltE.kp {K : PySem.W.Frag} {E : XK} {ms : List Addr} {H H1 : Hp} {f : Flt} (h : FltE K E ms H f) (e : Kp ms H H1) (t : Kt H H1) : FltE K E ms H1 f := fun H2 d H3 e2 t2 N => h H2 d H3 (e.trans e2) (t.trans t2) N
theorem FltE.kp0 {K : PySem.W.Frag} {E : XK} {ms : List Addr} {H H1 : Hp} {f : Flt} (h : FltE K E ms H f) (e : Kp [] H H1) : FltE K E ms H1 f := h.kp e.mono e.kt
theorem tw_at {p : Nat → Bool} : ∀ {r : List Nat} {k : Nat}, k ≤ (r.takeWhile p).length →
    (k < (r.takeWhile p).length ∧ ∃ x, r[k]? = some x ∧ p x = true) ∨ (k = (r.takeWhile p).length ∧ ((r[k]? = none ∧ r.dropWhile p = []) ∨ ∃ x, r[k]? = some x ∧ p x = false ∧ ∃ r', r.dropWhile p = x :: r'))
  | [], k, h => .inr ⟨by simpa using h, .inl ⟨rfl, rfl⟩⟩
  | x :: r, k, h => by
    cases e : p x with
    | false =>
      rw [List.takeWhile_cons, e] at h ⊢
      simp only [Bool.false_eq_true, if_false, List.length_nil, Nat.le_zero_eq] at h
      subst h
      exact .inr ⟨rfl, .inr ⟨x, rfl, e, r, by rw [List.dropWhile_cons, e]; rfl⟩⟩
    | true =>
      have e1 : (x :: r).takeWhile p = x :: r.takeWhile p := by rw [List.takeWhile_cons, e]; rfl
      have e2 : (x :: r).dropWhile p = r.dropWhile p := by rw [List.dropWhile_cons, e]; rfl
      rw [e1] at h ⊢
      rw [e2]
      cases k with
      | zero => exact .inl ⟨by simp, x, rfl, e⟩
      | succ k =>
        rw [List.length_cons] at h
        rw [List.length_cons]
        rcases tw_at (p := p) (r := r) (k := k) (by omega) with ⟨h1, h2⟩ | ⟨h1, h2⟩
        · exact .inl ⟨by omega, h2⟩
        · exact .inr ⟨by omega, h2⟩
theorem tw_len {p : Nat → Bool} : ∀ r : List Nat, (r.takeWhile p).length ≤ r.length
  | [] => Nat.le_refl _
  | x :: r => by
    cases e : p x with
    | false => rw [List.takeWhile_cons, e]; simp
    | true => rw [List.takeWhile_cons, e]; simp only [if_true, List.length_cons]; have := tw_len (p := p) r; omega
theorem at_drop {xs : List Nat} {n k : Nat} : (xs.drop n)[k]? = xs[n + k]? := by rw [List.getElem?_drop]
theorem one_inj {x y : Nat} (e : (⟨#[x]⟩ : Str) = ⟨#[y]⟩) : x = y := by injection e with e; injection e with e; injection e
section
variable {P : Program} {w : World} {K : PySem.W.Frag} {mg : Str → Option Value} {base : Heap}
def spQE (K : PySem.W.Frag) : Sp := fun vs H Q E => ∃ (z : Str) (n : Nat) (l f : Int), vs = [.str z, .int n, .int l, .int f] ∧ z.length ≤ 8000 ∧ n < z.length ∧
  ((∃ r', (z.cps.toList.drop (n + 1)).dropWhile quoB = 34 :: r') → Q (.int ((n + 1 + ((z.cps.toList.drop (n + 1)).takeWhile quoB).length : Nat) : Int)) H) ∧
  ((¬ ∃ r', (z.cps.toList.drop (n + 1)).dropWhile quoB = 34 :: r') → FltE K E [] H ⟨l, ((n + 1 + ((z.cps.toList.drop (n + 1)).takeWhile quoB).length : Nat) : Int) - f + 1, "text is not closed"⟩)
theorem sc__quote_end : FnScope ["text", "at", "line", "first", "end"] ["text", "at", "line", "first"] (defScope s__quote_end) := ⟨rfl, rfl, rfl, by decide +kernel, rfl, by decide +kernel, by decide +kernel⟩
theorem bn__quote_end : BindN "_quote_end" s__quote_end ["text", "at", "line", "first"] := fun _ _ _ _ _ _ us hl => match us, hl with | [_, _, _, _], _ => rfl
theorem b__quote_end (T : TX K mg) : BodyX P w K mg base "_quote_end" s__quote_end ["text", "at", "line", "first", "end"] 3 (spQE K) := by
  intro cdv A outer s H vs Q E h X hr tk
  obtain ⟨z, n, l, f, rfl, hz, hn, q, qe⟩ := h
  have E_TextFault := E_TextFault (P := P) (w := w) (base := base) T
  refine ⟨_, (pss_cons (ps_set (i := 4) sc__quote_end.nd rfl (Or.inl rfl) (pe_op (op_addU (K := K)) (pv 1) pe_int)) (Evl.pss_cut (ps_while (passes_of rfl) (PW.pt (pw_and (pt_cmpR op_ltU (pv 4) (pe_callB (cr_len (K := K)) rfl (T.free 2) PySem.boot_len (pa_cons (pv 0) pa_nil)) (nomark _)) (pw_and (pt_cmpR (op_neU (K := K) hr.units) (pe_ix (ix_U (K := K)) (pv 0) (pv 4) (fun _ _ => rfl)) pe_str (nomark _)) (pw_and1 (pt_cmpR (op_neU (K := K) hr.units) (pe_ix (ix_U (K := K)) (pv 0) (pv 4) (fun _ _ => rfl)) pe_str (nomark _)))))) (pss_one (ps_set (i := 4) sc__quote_end.nd rfl (Or.inl rfl) (pe_op (op_addU (K := K)) (pv 4) pe_int)))) (pss_cons (ps_if (PW.pt (pw_or (pt_cmpR (op_eqU (K := K) hr.units) (pv 4) (pe_callB (cr_len (K := K)) rfl (T.free 2) PySem.boot_len (pa_cons (pv 0) pa_nil)) (nomark _)) (pw_or1 (pt_cmpR (op_neU (K := K) hr.units) (pe_ix (ix_U (K := K)) (pv 0) (pv 4) (fun _ _ => rfl)) pe_str (nomark _))))) (pss_one (ps_raiseE3 (K := K) E_TextFault hr tk (pa_cons (pv 2) (pa_cons (pe_op (op_addU (K := K)) (pe_op op_subU (pv 4) (pv 3)) pe_int) (pa_cons pe_str pa_nil))))) pss_nil) (pss_one (ps_ret (pv 4)))))), ?_⟩
  have zl : z.length = z.cps.toList.length := rfl
  have hs : z.length ≤ sizeLine := by rw [sizeLine_eq]; omega
  generalize er : z.cps.toList.drop (n + 1) = r at q qe
  have rl : r.length = z.length - (n + 1) := by rw [← er, List.length_drop, zl]
  have hat : ∀ {k x : Nat}, r[k]? = some x → atI z.cps.toList ((n + 1 + k : Nat) : Int) = some x := fun h => atI_nat (by rw [← at_drop, er]; exact h)
  walk_at "st"
  refine c_cut (fun σ' H' => σ' = [some (.str z), some (.int n), some (.int l), some (.int f), some (.int ((n + 1 + (r.takeWhile quoB).length : Nat) : Int))] ∧ H' = H) ?_ ?_
  · refine c_while (fun m σ' H' => ∃ k : Nat, k ≤ (r.takeWhile quoB).length ∧ m + k = (r.takeWhile quoB).length ∧ σ' = [some (.str z), some (.int n), some (.int l), some (.int f), some (.int ((n + 1 + k : Nat) : Int))] ∧ H' = H) (r.takeWhile quoB).length ⟨0, Nat.zero_le _, rfl, rfl, rfl⟩ ?_
    rintro m _ _ ⟨k, hk, hm, rfl, rfl⟩
    walk_at "st"
    have twl := tw_len (p := quoB) r
    rcases tw_at hk with ⟨h1, x, h2, h3⟩ | ⟨h1, ⟨h2, h3⟩ | ⟨x, h2, h3, r', h4⟩⟩
    · have : k < r.length := by omega
      refine c_iteT (by rw [decide_eq_true_eq]; omega) ?_
      unfold quoB at h3
      simp only [Bool.and_eq_true, decide_eq_true_eq] at h3
      walk_at "st"
      refine c_ixS hs (hat h2) ?_
      walk_at "st"
      refine c_iteT (by simp only [Bool.not_eq_true', decide_eq_false_iff_not]; exact fun e => h3.1 (one_inj e)) ?_
      walk_at "st"
      refine c_ixS hs (hat h2) ?_
      walk_at "st"
      refine c_iteT (by simp only [Bool.not_eq_true', decide_eq_false_iff_not]; exact fun e => h3.2 (one_inj e)) ?_
      refine c_turn ?_
      walk_at "st"
      exact ⟨m - 1, by omega, k + 1, by omega, by omega, by rw [show ((n + 1 + k : Nat) : Int) + 1 = ((n + 1 + (k + 1) : Nat) : Int) from by omega]; rfl, rfl⟩
    · have : r.length ≤ k := List.getElem?_eq_none_iff.mp h2
      refine c_iteF (by rw [decide_eq_false_iff_not]; omega) ?_
      walk_at "st"
      exact ⟨by rw [h1], rfl⟩
    · have hkr : k < r.length := (List.getElem?_eq_some_iff.mp h2).1
      refine c_iteT (by rw [decide_eq_true_eq]; omega) ?_
      walk_at "st"
      refine c_ixS hs (hat h2) ?_
      walk_at "st"
      by_cases hx : x = 34
      · subst hx
        refine c_iteF (by rfl) ?_
        walk_at "st"
        exact ⟨by rw [h1], rfl⟩
      · refine c_iteT (by simp only [Bool.not_eq_true', decide_eq_false_iff_not]; exact fun e => hx (one_inj e)) ?_
        walk_at "st"
        refine c_ixS hs (hat h2) ?_
        walk_at "st"
        have hx2 : x = 10 := by
          unfold quoB at h3
          simp only [Bool.and_eq_false_iff, decide_eq_false_iff_not, Decidable.not_not] at h3
          exact h3.resolve_left hx
        subst hx2
        refine c_iteF (by rfl) ?_
        walk_at "st"
        exact ⟨by rw [h1], rfl⟩
  · rintro _ _ ⟨rfl, rfl⟩
    walk_at "st"
    rcases tw_at (p := quoB) (Nat.le_refl (r.takeWhile quoB).length) with ⟨h1, _⟩ | ⟨_, ⟨h2, h3⟩ | ⟨x, h2, h3, r', h4⟩⟩
    · omega
    · have : r.length ≤ (r.takeWhile quoB).length := List.getElem?_eq_none_iff.mp h2
      have := tw_len (p := quoB) r
      refine c_iteT (by rw [decide_eq_true_eq]; omega) ?_
      walk_at "st"
      refine c_err3 fun d H1 N => ?_
      exact qe (fun ⟨r', e⟩ => by rw [h3] at e; cases e) _ d H1 Kp.refl Kt.refl N
    · have hkr := (List.getElem?_eq_some_iff.mp h2).1
      refine c_iteF (by rw [decide_eq_false_iff_not]; omega) ?_
      walk_at "st"
      refine c_ixS hs (hat h2) ?_
      walk_at "st"
      by_cases hx : x = 34
      · subst hx
        refine c_iteF (by rfl) ?_
        walk_at "st"
        exact q ⟨r', h4⟩
      · refine c_iteT (by simp only [Bool.not_eq_true', decide_eq_false_iff_not]; exact fun e => hx (one_inj e)) ?_
        walk_at "st"
        refine c_err3 fun d H1 N => ?_
        exact qe (fun ⟨r'', e⟩ => by rw [h4] at e; injection e with e1 _; exact hx e1) _ d H1 Kp.refl Kt.refl N
theorem D__quote_end (T : TX K mg) : DefAt P w K mg base (L2.CX P w) "_quote_end" 4 ["text", "at", "line", "first"] (spQE K) :=
  def_ofX T 5 12 sc__quote_end bn__quote_end (by walk_at "len") (b__quote_end T)
def spWE : Sp := fun vs H Q _ => ∃ (z : Str) (n : Nat), vs = [.str z, .int n] ∧ z.length ≤ 8000 ∧ n ≤ z.length ∧ Q (.int ((n + ((z.cps.toList.drop n).takeWhile wdB).length : Nat) : Int)) H
theorem sc__word_end : FnScope ["text", "at"] ["text", "at"] (defScope s__word_end) := ⟨rfl, rfl, rfl, by decide +kernel, rfl, by decide +kernel, by decide +kernel⟩
theorem bn__word_end : BindN "_word_end" s__word_end ["text", "at"] := fun _ _ _ _ _ _ us hl => match us, hl with | [_, _], _ => rfl
theorem b__word_end (T : TX K mg) : Body P w K mg base "_word_end" s__word_end ["text", "at"] 1 (spWE) := by
  intro cdv A outer s H vs Q E h X hr
  obtain ⟨z, n, rfl, hz, hn, q⟩ := h
  refine ⟨_, (pss_cons (ps_while PassesOwn.never (PW.pt (pw_and (pt_cmpR op_ltU (pv 1) (pe_callB (cr_len (K := K)) rfl (T.free 2) PySem.boot_len (pa_cons (pv 0) pa_nil)) (nomark _)) (pw_and1 (pt_cmpR (op_notInU (K := K)) (pe_ix (ix_U (K := K)) (pv 0) (pv 1) (fun _ _ => rfl)) (pe_gStr (T.str 13)) rfl)))) (pss_one (ps_set (i := 1) sc__word_end.nd rfl (Or.inl rfl) (pe_op (op_addU (K := K)) (pv 1) pe_int)))) (pss_one (ps_ret (pv 1)))), ?_⟩
  have zl : z.length = z.cps.toList.length := rfl
  have hs : z.length ≤ sizeLine := by rw [sizeLine_eq]; omega
  generalize er : z.cps.toList.drop n = r at q
  have rl : r.length = z.length - n := by rw [← er, List.length_drop, zl]
  have hat : ∀ {k x : Nat}, r[k]? = some x → atI z.cps.toList ((n + k : Nat) : Int) = some x := fun h => atI_nat (by rw [← at_drop, er]; exact h)
  have twl := tw_len (p := wdB) r
  walk_at "st"
  refine c_while (fun m σ' H' => ∃ k : Nat, k ≤ (r.takeWhile wdB).length ∧ m + k = (r.takeWhile wdB).length ∧ σ' = [some (.str z), some (.int ((n + k : Nat) : Int))] ∧ H' = H) (r.takeWhile wdB).length ⟨0, Nat.zero_le _, rfl, rfl, rfl⟩ ?_
  rintro m _ _ ⟨k, hk, hm, rfl, rfl⟩
  walk_at "st"
  rcases tw_at hk with ⟨h1, x, h2, h3⟩ | ⟨h1, ⟨h2, h3⟩ | ⟨x, h2, h3, r', h4⟩⟩
  · refine c_iteT (by rw [decide_eq_true_eq]; omega) ?_
    unfold wdB at h3
    walk_at "st"
    refine c_ixS hs (hat h2) ?_
    walk_at "st"
    refine c_iteT h3 ?_
    refine c_turn ?_
    walk_at "st"
    exact ⟨m - 1, by omega, k + 1, by omega, by omega, by rw [show ((n + k : Nat) : Int) + 1 = ((n + (k + 1) : Nat) : Int) from by omega]; rfl, rfl⟩
  · have : r.length ≤ k := List.getElem?_eq_none_iff.mp h2
    refine c_iteF (by rw [decide_eq_false_iff_not]; omega) ?_
    walk_at "st"
    rw [h1]
    exact q
  · have hkr : k < r.length := (List.getElem?_eq_some_iff.mp h2).1
    refine c_iteT (by rw [decide_eq_true_eq]; omega) ?_
    walk_at "st"
    refine c_ixS hs (hat h2) ?_
    walk_at "st"
    refine c_iteF h3 ?_
    walk_at "st"
    rw [h1]
    exact q
theorem D__word_end (T : TX K mg) : DefAt P w K mg base CX0 "_word_end" 2 ["text", "at"] (spWE) :=
  def_of T 6 14 sc__word_end bn__word_end (by walk_at "len") (b__word_end T)
def TokAt (K : PySem.W.Frag) (H : Hp) (v : V) (t : Tok) : Prop := ∃ p, v = .ref p ∧ SqT K H p [.str t.kind, .str t.text, .int t.line, .int t.col] ∧ okS t.kind = true ∧ okS t.text = true ∧ t.text.length ≤ 8000
inductive TkAll (K : PySem.W.Frag) (H : Hp) : List V → List Tok → Prop
  | nil : TkAll K H [] []
  | cons {v : V} {t : Tok} {xs : List V} {ts : List Tok} : TokAt K H v t → TkAll K H xs ts → TkAll K H (v :: xs) (t :: ts)
theorem TkAll.kt {H H' : Hp} (e : Kt H H') : ∀ {xs : List V} {ts : List Tok}, TkAll K H xs ts → TkAll K H' xs ts
  | _, _, .nil => .nil
  | _, _, .cons ⟨p, h1, h2, h3⟩ h => .cons ⟨p, h1, SqT.kt e h2, h3⟩ (h.kt e)
theorem TkAll.snoc {H : Hp} {v : V} {t : Tok} (h : TokAt K H v t) : ∀ {xs : List V} {ts : List Tok}, TkAll K H xs ts → TkAll K H (xs ++ [v]) (ts ++ [t])
  | _, _, .nil => .cons h .nil
  | _, _, .cons h1 h2 => .cons h1 (h2.snoc h)
theorem TkAll.len {H : Hp} : ∀ {xs : List V} {ts : List Tok}, TkAll K H xs ts → xs.length = ts.length
  | _, _, .nil => rfl
  | _, _, .cons _ h => by rw [List.length_cons, List.length_cons, h.len]
theorem TkAll.get {H : Hp} {t : Tok} {r : List Tok} : ∀ {xs : List V} {ts : List Tok} {k : Nat}, TkAll K H xs ts → ts.drop k = t :: r → ∃ v, xs[k]? = some v ∧ TokAt K H v t
  | _, _, 0, .cons h1 _, e => by
    simp only [List.drop_zero, List.cons.injEq] at e
    rw [← e.1]
    exact ⟨_, rfl, h1⟩
  | _, _, k + 1, .cons _ h2, e => h2.get (k := k) e
  | _, _, k, .nil, e => by simp at e
structure SplI (K : PySem.W.Frag) (z : Str) (H : Hp) (l : Addr) (n : Nat) (ln f : Int) (xs : List V) (H' : Hp) : Prop where
  fr : H l = none
  at_ : H' l = some (.lst xs)
  kp : Kp [] H H'
  ts : ∃ ts, TkAll K H' xs ts ∧ ts.length ≤ n ∧ spl .nrm z.cps.toList 1 1 = (spl .nrm (z.cps.toList.drop n) ln ((n : Int) - f + 1)).map (ts ++ ·)
  le : n ≤ z.length
theorem SplI.skip {z : Str} {H H' : Hp} {l : Addr} {n n' : Nat} {ln ln' f f' : Int} {xs : List V} (I : SplI K z H l n ln f xs H') (e : spl .nrm (z.cps.toList.drop n) ln ((n : Int) - f + 1) = spl .nrm (z.cps.toList.drop n') ln' ((n' : Int) - f' + 1))
    (h1 : n ≤ n') (h2 : n' ≤ z.length) : SplI K z H l n' ln' f' xs H' := by
  obtain ⟨ts, t1, t2, t3⟩ := I.ts
  exact ⟨I.fr, I.at_, I.kp, ⟨ts, t1, by omega, by rw [t3, e]⟩, h2⟩
theorem SplI.tok {z : Str} {H H' H2 : Hp} {l p : Addr} {n n' : Nat} {ln f : Int} {xs : List V} {t : Tok} (I : SplI K z H l n ln f xs H') (N : New H' p (.tup [.str t.kind, .str t.text, .int t.line, .int t.col]) H2)
    (k1 : okS t.kind = true) (k2 : okS t.text = true) (k3 : t.text.length ≤ 8000)
    (e : spl .nrm (z.cps.toList.drop n) ln ((n : Int) - f + 1) = (spl .nrm (z.cps.toList.drop n') ln ((n' : Int) - f + 1)).map ([t] ++ ·)) (h1 : n < n') (h2 : n' ≤ z.length) :
    SplI K z H l n' ln f (xs ++ [.ref p]) (upd H2 l (.lst (xs ++ [.ref p]))) := by
  obtain ⟨ts, t1, t2, t3⟩ := I.ts
  have hl : H2 l = some (.lst xs) := N.keep I.at_
  have kt : Kt H2 (upd H2 l (.lst (xs ++ [.ref p]))) := Kt.upd1 (NoT.lst hl)
  refine ⟨I.fr, upd_same, (I.kp.trans N.kp).fresh_mut I.fr, ⟨ts ++ [t], ?_, by rw [List.length_append, List.length_singleton]; omega, by rw [t3, e, map_app]⟩, h2⟩
  exact TkAll.snoc ⟨p, rfl, SqT.kt kt (SqT.of N.at_), k1, k2, k3⟩ ((t1.kt N.kp.kt).kt kt)
theorem okS_txt {w : List Nat} (h : ∀ x ∈ w, x < 1114112) : okS (txt w) = true := okS_iff.mpr (by rw [txt_cps]; exact h)
theorem tw_mem {p : Nat → Bool} {x : Nat} : ∀ {r : List Nat}, x ∈ r.takeWhile p → x ∈ r
  | [], h => h
  | y :: r, h => by
    rw [List.takeWhile_cons] at h
    split at h
    · rcases List.mem_cons.mp h with rfl | h
      · exact List.mem_cons_self ..
      · exact List.mem_cons_of_mem _ (tw_mem h)
    · cases h
theorem tw_drop {p : Nat → Bool} : ∀ {r : List Nat}, r.drop (r.takeWhile p).length = r.dropWhile p
  | [] => rfl
  | y :: r => by
    rw [List.takeWhile_cons, List.dropWhile_cons]
    split
    · rw [List.length_cons, List.drop_succ_cons]; exact tw_drop
    · rfl
theorem tw_take {p : Nat → Bool} : ∀ {r : List Nat}, r.take (r.takeWhile p).length = r.takeWhile p
  | [] => rfl
  | y :: r => by
    rw [List.takeWhile_cons]
    split
    · rw [List.length_cons, List.take_succ_cons, tw_take]
    · rfl
theorem cutS_mid {z : Str} {i j : Nat} (h1 : i ≤ j) (h2 : j ≤ z.length) : cutS z (some (i : Int)) (some (j : Int)) = txt ((z.cps.toList.drop i).take (j - i)) := by
  rw [txt_of z, cutS_txt, txt_cps]
  have zl : z.length = z.cps.toList.length := rfl
  rw [sIx_of (by omega), sIx_of (by omega)]
  congr 2
  · rw [Int.toNat_natCast, Int.toNat_natCast, Nat.min_eq_left (by omega), Nat.min_eq_left (by omega)]
  · rw [Int.toNat_natCast, Nat.min_eq_left (by omega)]
theorem ok_kinds : okS "quoted" = true ∧ okS "sign" = true ∧ okS "word" = true ∧ okS "end" = true ∧ okS "" = true := by decide +kernel
def spSplit (K : PySem.W.Frag) : Sp := fun vs H Q E => ∃ z : Str, vs = [.str z] ∧ z.length ≤ 8000 ∧ okS z = true ∧
  (∀ ts, spl .nrm z.cps.toList 1 1 = .ok ts → ∀ H' l xs, Kp [] H H' → H l = none → H' l = some (.lst xs) → TkAll K H' xs ts → Q (.ref l) H') ∧ (∀ f, spl .nrm z.cps.toList 1 1 = .error f → FltE K E [] H f)
theorem sc__split : FnScope ["text", "tokens", "at", "line", "first", "sign", "end"] ["text"] (defScope s__split) := ⟨rfl, rfl, rfl, by decide +kernel, rfl, by decide +kernel, by decide +kernel⟩
theorem bn__split : BindN "_split" s__split ["text"] := fun _ _ _ _ _ _ us hl => match us, hl with | [_], _ => rfl
theorem b__split (T : TX K mg) : BodyX P w K mg base "_split" s__split ["text", "tokens", "at", "line", "first", "sign", "end"] 4 (spSplit K) := by
  intro cdv A outer s H vs Q E h X hr tk
  obtain ⟨z, rfl, hz, hok, q, qe⟩ := h
  have D__quote_end := D__quote_end (P := P) (w := w) (base := base) T; have D__word_end := D__word_end (P := P) (w := w) (base := base) T
  refine ⟨_, (pss_cons (ps_set (i := 1) sc__split.nd rfl (Or.inl rfl) (pe_lst pa_nil)) (pss_cons (ps_set (i := 2) sc__split.nd rfl (Or.inl rfl) pe_int) (pss_cons (ps_set (i := 3) sc__split.nd rfl (Or.inl rfl) pe_int) (pss_cons (ps_set (i := 4) sc__split.nd rfl (Or.inl rfl) pe_int) (Evl.pss_cut (ps_while (passes_of rfl) (pt_cmpR op_ltU (pv 2) (pe_callB (cr_len (K := K)) rfl (T.free 2) PySem.boot_len (pa_cons (pv 0) pa_nil)) (nomark _)) (pss_cons (ps_set (i := 5) sc__split.nd rfl (Or.inl rfl) (pe_ix (ix_U (K := K)) (pv 0) (pv 2) (fun _ _ => rfl))) (pss_cons (ps_set (i := 6) sc__split.nd rfl (Or.inl rfl) (pe_op (op_addU (K := K)) (pv 2) pe_int)) (pss_cons (ps_if (pt_cmpR (op_eqU (K := K) hr.units) (pv 5) pe_str (nomark _)) (pss_cons (ps_set (i := 3) sc__split.nd rfl (Or.inl rfl) (pe_op (op_addU (K := K)) (pv 3) pe_int)) (pss_one (ps_set (i := 4) sc__split.nd rfl (Or.inl rfl) (pv 6)))) (pss_one (ps_if (pt_cmpR (op_eqU (K := K) hr.units) (pv 5) pe_str (nomark _)) (pss_cons (ps_set (i := 6) sc__split.nd rfl (Or.inl rfl) (pe_op (op_addU (K := K)) (pe_callX D__quote_end hr tk (pa_cons (pv 0) (pa_cons (pv 2) (pa_cons (pv 3) (pa_cons (pv 4) pa_nil))))) pe_int)) (pss_one (ps_expr (pe_appendU (K := K) (pv 1) (pe_tup (pa_cons pe_str (pa_cons (pe_slice (sl_U (K := K)) (pv 0) (po_some (pe_op (op_addU (K := K)) (pv 2) pe_int)) (po_some (pe_op op_subU (pv 6) pe_int))) (pa_cons (pv 3) (pa_cons (pe_op (op_addU (K := K)) (pe_op op_subU (pv 2) (pv 4)) pe_int) pa_nil))))))))) (pss_one (ps_if (pt_cmpR (op_inU (K := K)) (pv 5) (pe_gStr (T.str 15)) rfl) (pss_one (ps_expr (pe_appendU (K := K) (pv 1) (pe_tup (pa_cons pe_str (pa_cons (pv 5) (pa_cons (pv 3) (pa_cons (pe_op (op_addU (K := K)) (pe_op op_subU (pv 2) (pv 4)) pe_int) pa_nil)))))))) (pss_one (ps_if (pt_cmpR (op_neU (K := K) hr.units) (pv 5) pe_str (nomark _)) (pss_cons (ps_set (i := 6) sc__split.nd rfl (Or.inl rfl) (pe_callA D__word_end hr pass0 (pa_cons (pv 0) (pa_cons (pv 2) pa_nil)))) (pss_one (ps_expr (pe_appendU (K := K) (pv 1) (pe_tup (pa_cons pe_str (pa_cons (pe_slice (sl_U (K := K)) (pv 0) (po_some (pv 2)) (po_some (pv 6))) (pa_cons (pv 3) (pa_cons (pe_op (op_addU (K := K)) (pe_op op_subU (pv 2) (pv 4)) pe_int) pa_nil))))))))) pss_nil))))))) (pss_one (ps_set (i := 2) sc__split.nd rfl (Or.inl rfl) (pv 6))))))) (pss_cons (ps_expr (pe_appendU (K := K) (pv 1) (pe_tup (pa_cons pe_str (pa_cons pe_str (pa_cons (pv 3) (pa_cons (pe_op (op_addU (K := K)) (pe_op op_subU (pe_callB (cr_len (K := K)) rfl (T.free 2) PySem.boot_len (pa_cons (pv 0) pa_nil)) (pv 4)) pe_int) pa_nil))))))) (pss_one (ps_ret (pv 1))))))))), ?_⟩
  have zl : z.length = z.cps.toList.length := rfl
  have hs : z.length ≤ sizeLine := by rw [sizeLine_eq]; omega
  have hok' := okS_iff.mp hok
  walk_at "st"
  walk_at "nw"
  intro l H0 N0
  walk_at "st"
  refine c_cut (fun σ' H' => ∃ ln f xs o1 o2, SplI K z H l z.length ln f xs H' ∧ σ' = [some (.str z), some (.ref l), some (.int (z.length : Int)), some (.int ln), some (.int f), o1, o2]) ?_ ?_
  · refine c_while (fun m σ' H' => ∃ (n : Nat) (ln f : Int) (xs : List V) (o1 o2 : Option V), m + n = z.length ∧ SplI K z H l n ln f xs H' ∧ σ' = [some (.str z), some (.ref l), some (.int (n : Int)), some (.int ln), some (.int f), o1, o2]) z.length
      ⟨0, 1, 0, [], none, none, rfl, ⟨N0.fr, N0.at_, N0.kp, ⟨[], .nil, Nat.le_refl _, by rw [map_nil]; rfl⟩, Nat.zero_le _⟩, rfl⟩ ?_
    rintro m _ H1 ⟨n, ln, f, xs, o1, o2, hm, I, rfl⟩
    walk_at "st"
    refine c_ite (fun g => ?_) (fun g => ?_)
    · have hn : n < z.cps.toList.length := by omega
      obtain ⟨x, hx⟩ : ∃ x, z.cps.toList[n]? = some x := ⟨_, List.getElem?_eq_getElem hn⟩
      have hd : z.cps.toList.drop n = x :: z.cps.toList.drop (n + 1) := by rw [List.drop_eq_getElem_cons hn]; congr 1; exact (List.getElem?_eq_some_iff.mp hx).2
      have hxl : x < 1114112 := hok' x (List.mem_of_getElem? hx)
      refine c_turn ?_
      walk_at "st"
      refine c_ixS hs (atI_nat hx) ?_
      walk_at "st"
      have nx : ∀ (n' : Nat) (ln' f' : Int) (xs' : List V) (o1' o2' : Option V) (H' : Hp), n < n' → SplI K z H l n' ln' f' xs' H' → ∃ m', m' < m ∧ ∃ (n'' : Nat) (ln f : Int) (xs : List V) (o1 o2 : Option V), m' + n'' = z.length ∧ SplI K z H l n'' ln f xs H' ∧
          [some (V.str z), some (.ref l), some (.int (n' : Int)), some (.int ln'), some (.int f'), o1', o2'] = [some (.str z), some (.ref l), some (.int (n'' : Int)), some (.int ln), some (.int f), o1, o2] := fun n' ln' f' xs' o1' o2' H' h I' => by
        have := I'.le
        exact ⟨z.length - n', by omega, n', ln', f', xs', o1', o2', by omega, I', rfl⟩
      have hl1 := I.at_
      have I0 := I
      obtain ⟨ts, t1, t2, t3⟩ := I0.ts
      have xl : xs.length < sizeLine := by rw [sizeLine_eq, t1.len]; omega
      have n1 : (n : Int) + 1 = ((n + 1 : Nat) : Int) := by omega
      rw [n1]
      by_cases x1 : x = 10
      · subst x1
        refine c_iteT (by rfl) ?_
        walk_at "st"
        refine nx (n + 1) _ _ _ _ _ _ (by omega) (I.skip (by rw [hd, spl_nl]; congr 1; omega) (by omega) (by omega))
      refine c_iteF (by rw [decide_eq_false_iff_not]; exact fun e => x1 (one_inj e)) ?_
      walk_at "st"
      by_cases x2 : x = 34
      · subst x2
        refine c_iteT (by rfl) ?_
        walk_at "st"
        have sq : spl .nrm (z.cps.toList.drop n) ln ((n : Int) - f + 1) = quoR [] (z.cps.toList.drop (n + 1)) ln ((n : Int) - f + 1) ln ((n : Int) - f + 1 + 1) := by rw [hd, spl_q0, spl_quo]
        refine ⟨z, n, ln, f, rfl, hz, by omega, fun ⟨r', hr'⟩ => ?_, fun hno => ?_⟩
        · have dl : (z.cps.toList.drop (n + 1)).drop ((z.cps.toList.drop (n + 1)).takeWhile quoB).length = 34 :: r' := by rw [tw_drop, hr']
          generalize ew : (z.cps.toList.drop (n + 1)).takeWhile quoB = u at dl ⊢
          rw [List.drop_drop] at dl
          have ul : n + 1 + u.length < z.cps.toList.length := by
            have := congrArg List.length dl
            rw [List.length_drop, List.length_cons] at this
            omega
          have dr : z.cps.toList.drop (n + 1 + u.length + 1) = r' := by rw [← List.drop_drop, dl]; rfl
          walk_at "st"
          refine c_slS hs ?_
          have ec : cutS z (some ((n : Int) + 1)) (some (((n + 1 + u.length : Nat) : Int) + 1 - 1)) = txt u := by
            rw [n1, show ((n + 1 + u.length : Nat) : Int) + 1 - 1 = ((n + 1 + u.length : Nat) : Int) from by omega, cutS_mid (by omega) (by omega), show n + 1 + u.length - (n + 1) = u.length from by omega, ← ew, tw_take]
          rw [ec]
          walk_at "st"
          walk_at "nw"
          intro p H2 N2
          walk_at "st"
          rw [show ((n + 1 + u.length : Nat) : Int) + 1 = ((n + 1 + u.length + 1 : Nat) : Int) from by omega]
          refine nx _ _ _ _ _ _ _ (by omega) (I.tok (t := quoT u ln ((n : Int) - f + 1)) N2 ok_kinds.1 (okS_txt fun y hy => hok' y (List.mem_of_mem_drop (tw_mem (by rw [ew]; exact hy)))) (by show (txt u).length ≤ 8000; rw [txt_len]; omega) ?_ (by omega) (by omega))
          rw [sq]
          unfold quoR
          rw [hr', ew, dr]
          show (spl .nrm r' ln _).map _ = _
          congr 2
          omega
        · refine qe ⟨ln, _, _⟩ ?_ |>.kp0 I.kp
          rw [t3, sq]
          unfold quoR
          split
          · exact absurd ⟨_, ‹_›⟩ hno
          · show Except.error _ = Except.error _
            congr 2
            omega
      refine c_iteF (by rw [decide_eq_false_iff_not]; exact fun e => x2 (one_inj e)) ?_
      walk_at "st"
      by_cases x3 : x ∈ signsL
      · refine c_iteT (by rw [decide_eq_true_eq]; exact x3) ?_
        walk_at "st"
        walk_at "nw"
        intro p H2 N2
        walk_at "st"
        refine nx (n + 1) _ _ _ _ _ _ (by omega) (I.tok (t := signT x ln ((n : Int) - f + 1)) N2 ok_kinds.2.1 (okS_txt fun y hy => by rw [List.mem_singleton] at hy; rw [hy]; exact hxl) (by show (txt [x]).length ≤ 8000; rw [txt_len]; show 1 ≤ 8000; decide) ?_ (by omega) (by omega))
        rw [hd, spl_sg x3]
        congr 2
        omega
      refine c_iteF (by rw [decide_eq_false_iff_not]; exact x3) ?_
      walk_at "st"
      by_cases x4 : x = 32
      · subst x4
        refine c_iteF (by rfl) ?_
        walk_at "st"
        exact nx (n + 1) _ _ _ _ _ _ (by omega) (I.skip (by rw [hd, spl_sp]; congr 1; omega) (by omega) (by omega))
      refine c_iteT (by simp only [Bool.not_eq_true', decide_eq_false_iff_not]; exact fun e => x4 (one_inj e)) ?_
      have xe : x ∉ endsL := fun h => by
        rcases ends_iff.mp h with h | h | h | h
        · exact x4 h
        · exact x1 h
        · exact x2 h
        · exact x3 h
      have wb : wdB x = true := by unfold wdB; simp [xe]
      walk_at "st"
      refine ⟨z, n, rfl, hz, by omega, ?_⟩
      have twl := tw_len (p := wdB) (z.cps.toList.drop n)
      rw [List.length_drop] at twl
      generalize ew : (z.cps.toList.drop n).takeWhile wdB = u at twl ⊢
      have up : 0 < u.length := by rw [← ew, hd, List.takeWhile_cons, wb]; simp
      have dr : z.cps.toList.drop (n + u.length) = (z.cps.toList.drop (n + 1)).dropWhile wdB := by
        rw [← List.drop_drop, ← ew, tw_drop, hd, List.dropWhile_cons, wb]
        rfl
      walk_at "st"
      refine c_slS hs ?_
      rw [cutS_mid (by omega) (by omega), show n + u.length - n = u.length from by omega, ← ew, tw_take, ew]
      walk_at "st"
      walk_at "nw"
      intro p H2 N2
      walk_at "st"
      refine nx _ _ _ _ _ _ _ (by omega) (I.tok (t := wordT u ln ((n : Int) - f + 1)) N2 ok_kinds.2.2.1 (okS_txt fun y hy => hok' y (List.mem_of_mem_drop (tw_mem (by rw [ew]; exact hy)))) (by show (txt u).length ≤ 8000; rw [txt_len]; omega) ?_ (by omega) (by omega))
      have eu : u = x :: (z.cps.toList.drop (n + 1)).takeWhile wdB := by rw [← ew, hd, List.takeWhile_cons, wb]; rfl
      rw [hd, spl_w0 xe, spl_wd, dr, eu]
      rw [List.length_cons]
      show (spl .nrm _ ln _).map _ = (spl .nrm _ ln _).map _
      congr 2
      omega
    · have : n = z.length := by have := I.le; omega
      subst this
      exact ⟨_, _, _, _, _, I, rfl⟩
  · rintro _ H1 ⟨ln, f, xs, o1, o2, I, rfl⟩
    have hl1 := I.at_
    obtain ⟨ts, t1, t2, t3⟩ := I.ts
    have xl : xs.length < sizeLine := by rw [sizeLine_eq, t1.len]; omega
    walk_at "st"
    walk_at "nw"
    intro p H2 N2
    walk_at "st"
    have hl : H2 l = some (.lst xs) := N2.keep I.at_
    have kt : Kt H2 (upd H2 l (.lst (xs ++ [.ref p]))) := Kt.upd1 (NoT.lst hl)
    refine q (ts ++ [endT ln ((z.length : Int) - f + 1)]) ?_ _ l _ ((I.kp.trans N2.kp).fresh_mut I.fr) I.fr upd_same (TkAll.snoc ⟨p, rfl, SqT.kt kt (SqT.of N2.at_), ok_kinds.2.2.2.1, ok_kinds.2.2.2.2, Nat.zero_le _⟩ ((t1.kt N2.kp.kt).kt kt))
    rw [t3, List.drop_of_length_le (by omega)]
    rfl
theorem D__split (T : TX K mg) : DefAt P w K mg base (L2.CX P w) "_split" 5 ["text"] (spSplit K) :=
  def_ofX T 7 16 sc__split bn__split (by walk_at "len") (b__split T)
end
end K06



namespace K06
open PySem L2 Sa
abbrev RdF (α : Type) := Except Flt (α × List Tok)
def RdF.go {α β : Type} (e : RdF α) (f : α → List Tok → RdF β) : RdF β := match e with
  | .error x => .error x
  | .ok (x, r) => f x r
def fltAt (t : Tok) (w : Str) : Flt := ⟨t.line, t.col, w⟩
def noF : Flt := ⟨0, 0, ""⟩
def isSg (s : Str) (t : Tok) : Bool := decide ([t.kind, t.text] = ([PySem.Str.ofString "sign", s] : List Str))
def expF (s : Str) : List Tok → RdF Unit
  | [] => .error noF
  | t :: r => if isSg s t = true then .ok ((), r) else .error (fltAt t (PySem.Str.ofString "expected " ++ s))
def takeP (kind : Str) (p : Str → Bool) (words : Str) : List Tok → RdF Str
  | [] => .error noF
  | t :: r => if t.kind = kind then (if p t.text = true then .ok (t.text, r) else .error (fltAt t words)) else .error (fltAt t words)
def questL : List Str := ["read", "kind", "list", "find", "count"]
def deedL : List Str := ["write", "remove", "move", "splice"]
def wordB (z : Str) : Bool := decide (z ∈ questL) || decide (z ∈ deedL)
def placeB (z : Str) : Bool := decide (z = PySem.Str.ofString ".") || isPathS z
def quoWB (z : Str) : Bool := decide (1 ≤ z.length) && decide (z.length ≤ 12)
def toPlace (z : Str) : Str := if z = PySem.Str.ofString "." then "" else z
def wordF : List Tok → RdF Str := takeP "word" wordB "expected an action"
def pathF : List Tok → RdF Str := takeP "word" isPathS "expected a path"
def placeF (ts : List Tok) : RdF Str := (takeP "word" placeB "expected a place" ts).go fun z r => .ok (toPlace z, r)
def quoWF : List Tok → RdF Str := takeP "quoted" quoWB "expected a word"
def linesL (least : Nat) : List Str → List Tok → RdF (List Str)
  | _, [] => .error noF
  | found, t :: r =>
    if found.length < least ∨ isSg "]" t = false then
      if t.kind = "quoted" then
        if 20 < t.text.length then .error (fltAt t "expected a line")
        else if found.length = 12 then .error (fltAt t "too many lines")
        else linesL least (found ++ [t.text]) r
      else .error (fltAt t "expected a line")
    else .ok (found, r)
def linesF (least : Nat) (ts : List Tok) : RdF (List Str) := (expF "[" ts).go fun _ r => linesL least [] r
def restP (w p : Str) (ts : List Tok) : RdF Action :=
  if w = "write" then (linesF 0 ts).go fun ls r => .ok (.write p ls, r)
  else if w = "move" then (pathF ts).go fun q r => .ok (.move p q, r)
  else if w = "splice" then (linesF 1 ts).go fun old r => (linesF 0 r).go fun new r => .ok (.splice p old new, r)
  else if w = "remove" then .ok (.remove p, ts)
  else .ok (.read p, ts)
def restF (w : Str) (ts : List Tok) : RdF Action :=
  if w = "find" then (placeF ts).go fun z r => (quoWF r).go fun u r => .ok (.find z u, r)
  else if w = "kind" then (placeF ts).go fun z r => .ok (.kind z, r)
  else if w = "list" then (placeF ts).go fun z r => .ok (.list z, r)
  else if w = "count" then (placeF ts).go fun z r => .ok (.count z, r)
  else (pathF ts).go fun p r => restP w p r
def actRF (ts : List Tok) : RdF Action := (expF "(" ts).go fun _ r => (wordF r).go fun w r => (restF w r).go fun x r => (expF ")" r).go fun _ r => .ok (x, r)
def readN : Nat → List Tok → Except Flt (List Action)
  | 0, _ => .error noF
  | _ + 1, [] => .error noF
  | n + 1, t :: r => if t.kind = "end" then .ok [] else match actRF (t :: r) with
    | .error f => .error f
    | .ok (x, r') => (readN n r').map (x :: ·)
def readTx (z : Str) : Except Flt (List Action) := match spl .nrm z.cps.toList 1 1 with
  | .error f => .error f
  | .ok ts => readN ts.length ts
theorem go_ok {α β : Type} {e : RdF α} {f : α → List Tok → RdF β} {y : β} {r : List Tok} (h : e.go f = .ok (y, r)) : ∃ x r1, e = .ok (x, r1) ∧ f x r1 = .ok (y, r) := by
  cases e with
  | error x => cases h
  | ok p => exact ⟨p.1, p.2, rfl, h⟩
theorem exp_len {s : Str} {ts r : List Tok} {u : Unit} (h : expF s ts = .ok (u, r)) : r.length < ts.length := by
  cases ts with
  | nil => cases h
  | cons t r' =>
    simp only [expF] at h
    split at h
    · injection h with h; injection h with _ h; subst h; simp
    · cases h
theorem take_len {k w : Str} {p : Str → Bool} {ts r : List Tok} {u : Str} (h : takeP k p w ts = .ok (u, r)) : r.length < ts.length := by
  cases ts with
  | nil => cases h
  | cons t r' =>
    simp only [takeP] at h
    split at h
    · split at h
      · injection h with h; injection h with _ h; subst h; simp
      · cases h
    · cases h
theorem place_len' {ts r : List Tok} {u : Str} (h : placeF ts = .ok (u, r)) : r.length < ts.length := by
  obtain ⟨x, r1, h1, h2⟩ := go_ok h
  injection h2 with h2
  injection h2 with _ h2
  have := take_len h1
  rw [← h2]; exact this
theorem linesL_len {n : Nat} : ∀ {ts r : List Tok} {f ls : List Str}, linesL n f ts = .ok (ls, r) → r.length < ts.length
  | [], _, _, _, h => by cases h
  | t :: ts, r, f, ls, h => by
    rw [linesL] at h
    split at h
    · split at h
      · split at h
        · cases h
        · split at h
          · cases h
          · have := linesL_len h; rw [List.length_cons]; omega
      · cases h
    · injection h with h; injection h with _ h; subst h; simp
theorem lines_len' {n : Nat} {ts r : List Tok} {ls : List Str} (h : linesF n ts = .ok (ls, r)) : r.length < ts.length := by
  obtain ⟨x, r1, h1, h2⟩ := go_ok h
  have := exp_len h1
  have := linesL_len h2
  omega
theorem restP_len {w p : Str} {ts r : List Tok} {x : Action} (h : restP w p ts = .ok (x, r)) : r.length ≤ ts.length := by
  unfold restP at h
  split at h
  · obtain ⟨_, _, h1, h2⟩ := go_ok h
    injection h2 with h2; injection h2 with _ h2; subst h2
    exact Nat.le_of_lt (lines_len' h1)
  split at h
  · obtain ⟨_, _, h1, h2⟩ := go_ok h
    injection h2 with h2; injection h2 with _ h2; subst h2
    exact Nat.le_of_lt (take_len h1)
  split at h
  · obtain ⟨_, _, h1, h2⟩ := go_ok h
    obtain ⟨_, _, h3, h4⟩ := go_ok h2
    injection h4 with h4; injection h4 with _ h4; subst h4
    have := lines_len' h1
    have := lines_len' h3
    omega
  split at h
  · injection h with h; injection h with _ h; subst h; exact Nat.le_refl _
  · injection h with h; injection h with _ h; subst h; exact Nat.le_refl _
theorem restF_len {w : Str} {ts r : List Tok} {x : Action} (h : restF w ts = .ok (x, r)) : r.length ≤ ts.length := by
  unfold restF at h
  split at h
  · obtain ⟨_, _, h1, h2⟩ := go_ok h
    obtain ⟨_, _, h3, h4⟩ := go_ok h2
    injection h4 with h4; injection h4 with _ h4; subst h4
    have := place_len' h1
    have := take_len h3
    omega
  split at h
  · obtain ⟨_, _, h1, h2⟩ := go_ok h
    injection h2 with h2; injection h2 with _ h2; subst h2
    exact Nat.le_of_lt (place_len' h1)
  split at h
  · obtain ⟨_, _, h1, h2⟩ := go_ok h
    injection h2 with h2; injection h2 with _ h2; subst h2
    exact Nat.le_of_lt (place_len' h1)
  split at h
  · obtain ⟨_, _, h1, h2⟩ := go_ok h
    injection h2 with h2; injection h2 with _ h2; subst h2
    exact Nat.le_of_lt (place_len' h1)
  · obtain ⟨_, _, h1, h2⟩ := go_ok h
    have := take_len h1
    have := restP_len h2
    omega
theorem act_len {ts r : List Tok} {x : Action} (h : actRF ts = .ok (x, r)) : r.length < ts.length := by
  obtain ⟨_, _, h1, h2⟩ := go_ok h
  obtain ⟨_, _, h3, h4⟩ := go_ok h2
  obtain ⟨_, _, h5, h6⟩ := go_ok h4
  obtain ⟨_, _, h7, h8⟩ := go_ok h6
  injection h8 with h8; injection h8 with _ h8; subst h8
  have := exp_len h1
  have := take_len h3
  have := restF_len h5
  have := exp_len h7
  omega
end K06



namespace K06
open PySem L2 Sa
local macro_rules | `(tactic| walk_at "s1") => `(tactic| first | (with_reducible apply c_dgetK))
local macro_rules | `(tactic| walk_at "s1") => `(tactic| (with_reducible apply c_raiseO))
local macro_rules | `(tactic| walk_at "s1") => `(tactic| first | (with_reducible apply c_dgetK))
local macro_rules | `(tactic| walk_at "s1") => `(tactic| (with_reducible apply c_raiseO))
local macro_rules | `(tactic| walk_at "s1") => `(tactic| first | (with_reducible apply c_un) | (with_reducible apply c_negI))
def rdF (a1 a2 : V) : List (Str × V) := ([("_tokens", a1), ("_at", a2)] : List (Str × V))
section
variable {a1 a2 x v : V}
theorem rd_get1 : (rdF a1 a2).lookup ("_tokens" : Str) = some a1 := by kernel_rfl
theorem rd_put1 : putF "_tokens" x (rdF a1 a2) = rdF x a2 := by kernel_rfl
theorem rd_ini1 : putF "_tokens" a1 ([] : List (Str × V)) = ([("_tokens", a1)] : List (Str × V)) := by kernel_rfl
theorem rd_get2 : (rdF a1 a2).lookup ("_at" : Str) = some a2 := by kernel_rfl
theorem rd_put2 : putF "_at" x (rdF a1 a2) = rdF a1 x := by kernel_rfl
theorem rd_ini2 : putF "_at" a2 ([("_tokens", a1)] : List (Str × V)) = rdF a1 a2 := by kernel_rfl
end
section
variable {K : PySem.W.Frag} {mg : Str → Option Value}
theorem C_Reader (T : TX K mg) : ClsAt K mg "Reader" := ⟨T.glo 18, He.cls_ok (T.fact 73)⟩
theorem Mk_Reader (T : TX K mg) : Mk K (He.ga K "Reader") (He.ma K (He.ga K "Reader") "__init__") := He.mkr_ok (T.fact 74)
theorem rd_N1 (T : TX K mg) : NoAttr K (He.ga K "Reader") "_tokens" := He.noat_ok (T.fact 75)
theorem rd_N2 (T : TX K mg) : NoAttr K (He.ga K "Reader") "_at" := He.noat_ok (T.fact 76)
variable {H : Hp} {Q : VK} {R : Hp → Prop} {x dx : Addr} {a1 a2 v : V}
theorem rd_g1 (T : TX K mg) (h : H x = some (.ins (He.ga K "Reader") dx (rdF a1 a2))) (q : Q a1 H) : FldK K "_tokens" (.ref x) H Q := c_fldAt h (C_Reader T).cls (rd_N1 T) rd_get1 q
theorem rd_p1 (T : TX K mg) (h : H x = some (.ins (He.ga K "Reader") dx (rdF a1 a2))) (q : R (upd H x (.ins (He.ga K "Reader") dx (rdF v a2)))) : SetFldK K "_tokens" (.ref x) v H R := c_setFAt h (C_Reader T).cls (rd_N1 T) (by show 2 < 1000; decide) (by rw [rd_put1]; exact q)
theorem rd_i1 (T : TX K mg) (h : H x = some (.ins (He.ga K "Reader") dx ([] : List (Str × V)))) (q : R (upd H x (.ins (He.ga K "Reader") dx ([("_tokens", v)] : List (Str × V))))) : SetFldK K "_tokens" (.ref x) v H R := c_setFAt h (C_Reader T).cls (rd_N1 T) (by show 0 < 1000; decide) (by rw [rd_ini1]; exact q)
theorem rd_g2 (T : TX K mg) (h : H x = some (.ins (He.ga K "Reader") dx (rdF a1 a2))) (q : Q a2 H) : FldK K "_at" (.ref x) H Q := c_fldAt h (C_Reader T).cls (rd_N2 T) rd_get2 q
theorem rd_p2 (T : TX K mg) (h : H x = some (.ins (He.ga K "Reader") dx (rdF a1 a2))) (q : R (upd H x (.ins (He.ga K "Reader") dx (rdF a1 v)))) : SetFldK K "_at" (.ref x) v H R := c_setFAt h (C_Reader T).cls (rd_N2 T) (by show 2 < 1000; decide) (by rw [rd_put2]; exact q)
theorem rd_i2 (T : TX K mg) (h : H x = some (.ins (He.ga K "Reader") dx ([("_tokens", a1)] : List (Str × V)))) (q : R (upd H x (.ins (He.ga K "Reader") dx (rdF a1 v)))) : SetFldK K "_at" (.ref x) v H R := c_setFAt h (C_Reader T).cls (rd_N2 T) (by show 1 < 1000; decide) (by rw [rd_ini2]; exact q)
theorem rd_no {m : Str} {a1 a2 : V} (h : m ∉ (["_tokens", "_at"] : List Str)) : (rdF a1 a2).lookup m = none := by
  unfold rdF
  have n : ∀ z ∈ (["_tokens", "_at"] : List Str), (m == z) = false := fun z hz => by
    rw [beq_eq_false_iff_ne]
    exact fun e => h (e ▸ hz)
  simp only [List.lookup, n "_tokens" (by simp), n "_at" (by simp)]
theorem rd_r {m : Str} (h : H x = some (.ins (He.ga K "Reader") dx (rdF a1 a2))) (hm : m ∉ (["_tokens", "_at"] : List Str)) (q : R H) : RecvK K "Reader" m (.ref x) H R := c_recv h (rd_no hm) q
end
local macro_rules | `(tactic| walk_at "s1") => `(tactic| first | ((with_reducible apply rd_g1 (by assumption)); (· walk_at "lk")) | ((with_reducible apply rd_p1 (by assumption)); (· walk_at "lk")) | ((with_reducible apply rd_g2 (by assumption)); (· walk_at "lk")) | ((with_reducible apply rd_p2 (by assumption)); (· walk_at "lk")) | ((with_reducible apply rd_r); (· walk_at "lk"); (· decide +kernel)))
local macro_rules | `(tactic| walk_at "s1") => `(tactic| (with_reducible apply c_raiseE3))
set_option pp.maxSteps 1500
section
variable {P : Program} {w : World} {K : PySem.W.Frag} {mg : Str → Option Value} {base : Heap}
structure RdAt (K : PySem.W.Frag) (H : Hp) (a L : Addr) (us ts : List Tok) : Prop where
  ex : ∃ dx l xs, H a = some (.ins (He.ga K "Reader") dx (rdF (.ref l) (.int (us.length : Int)))) ∧ H l = some (.lst xs) ∧ TkAll K H xs (us ++ ts)
  fin : Fin ts
  lk : ∀ dx l i, H a = some (.ins (He.ga K "Reader") dx (rdF (.ref l) i)) → l = L
theorem lk_of {H : Hp} {a L C dx : Addr} {j : V} (h : H a = some (.ins C dx (rdF (.ref L) j))) : ∀ dx l i, H a = some (.ins (He.ga K "Reader") dx (rdF (.ref l) i)) → l = L := fun dx l i e => by
  rw [h] at e
  injection e with e
  injection e with _ _ e
  unfold rdF at e
  injection e with e _
  injection e with _ e
  injection e with e
  exact e.symm
theorem RdAt.kp0 {H H' : Hp} {a L : Addr} {us ts : List Tok} (h : RdAt K H a L us ts) (e : Kp [] H H') : RdAt K H' a L us ts := by
  obtain ⟨dx, l, xs, h1, h2, h3⟩ := h.ex
  obtain rfl := (h.lk _ _ _ h1).symm
  exact ⟨⟨dx, L, xs, e.at0 h1, e.at0 h2, h3.kt e.kt⟩, h.fin, lk_of (e.at0 h1)⟩
theorem RdAt.kp {ms : List Addr} {H H' : Hp} {a L : Addr} {us ts : List Tok} (h : RdAt K H a L us ts) (hm : ∀ b ∈ ms, H b = none) (e : Kp ms H H') : RdAt K H' a L us ts := by
  have e0 : Kp [] H H' := fun b o _ hb => e b o (fun hm' => by rw [hm b hm'] at hb; cases hb) hb
  exact h.kp0 e0
theorem RdAt.noT {H : Hp} {a L : Addr} {us ts : List Tok} (h : RdAt K H a L us ts) : NoT H a := by
  obtain ⟨dx, l, xs, h1, _⟩ := h.ex
  exact NoT.ins h1
theorem RdAt.tok {H : Hp} {a L : Addr} {us r : List Tok} {t : Tok} (h : RdAt K H a L us (t :: r)) : ∃ dx l xs p, H a = some (.ins (He.ga K "Reader") dx (rdF (.ref l) (.int (us.length : Int)))) ∧ H l = some (.lst xs) ∧ SqL K H l xs ∧ TkAll K H xs (us ++ t :: r) ∧
    atI xs (us.length : Int) = some (.ref p) ∧ SqT K H p [.str t.kind, .str t.text, .int t.line, .int t.col] ∧ okS t.kind = true ∧ okS t.text = true ∧ t.text.length ≤ 8000 := by
  obtain ⟨dx, l, xs, h1, h2, h3⟩ := h.ex
  obtain ⟨v, hv, p, rfl, hp⟩ := h3.get (k := us.length) (by rw [List.drop_left])
  exact ⟨dx, l, xs, p, h1, h2, SqL.of h2, h3, atI_nat hv, hp⟩
theorem rd_next {H : Hp} {a l dx C dx0 : Addr} {fs : List (Str × V)} {xs : List V} {us r : List Tok} {t : Tok} {i : Int} (h1 : H a = some (.ins C dx0 fs)) (h2 : H l = some (.lst xs)) (h3 : TkAll K H xs (us ++ t :: r)) (hf : Fin (t :: r)) (hk : t.kind ≠ "end") (hi : i = (us.length : Int) + 1) :
    RdAt K (upd H a (.ins (He.ga K "Reader") dx (rdF (.ref l) (.int i)))) a l (us ++ [t]) r ∧ Kp [a] H (upd H a (.ins (He.ga K "Reader") dx (rdF (.ref l) (.int i)))) ∧ Kt H (upd H a (.ins (He.ga K "Reader") dx (rdF (.ref l) (.int i)))) := by
  have kt : Kt H (upd H a (.ins (He.ga K "Reader") dx (rdF (.ref l) (.int i)))) := Kt.upd1 (NoT.ins h1)
  have ne : l ≠ a := fun e => by rw [e, h1] at h2; cases h2
  refine ⟨⟨⟨dx, l, xs, ?_, by rw [upd_ne ne]; exact h2, ?_⟩, hf.tail hk, lk_of upd_same⟩, Kp.mut (by simp), kt⟩
  · rw [upd_same, hi, List.length_append, List.length_singleton]
    rfl
  · rw [List.append_assoc]
    exact h3.kt kt
theorem rd_back {H : Hp} {a l dx C dx0 : Addr} {fs : List (Str × V)} {xs : List V} {us r : List Tok} {t : Tok} {i : Int} (h1 : H a = some (.ins C dx0 fs)) (h2 : H l = some (.lst xs)) (h3 : TkAll K H xs ((us ++ [t]) ++ r)) (hf : Fin r) (hi : i = (us.length : Int)) :
    RdAt K (upd H a (.ins (He.ga K "Reader") dx (rdF (.ref l) (.int i)))) a l us (t :: r) ∧ Kp [a] H (upd H a (.ins (He.ga K "Reader") dx (rdF (.ref l) (.int i)))) ∧ Kt H (upd H a (.ins (He.ga K "Reader") dx (rdF (.ref l) (.int i)))) := by
  have kt : Kt H (upd H a (.ins (He.ga K "Reader") dx (rdF (.ref l) (.int i)))) := Kt.upd1 (NoT.ins h1)
  have ne : l ≠ a := fun e => by rw [e, h1] at h2; cases h2
  refine ⟨⟨⟨dx, l, xs, by rw [upd_same, hi], by rw [upd_ne ne]; exact h2, ?_⟩, Fin.app (us := [t]) hf, lk_of upd_same⟩, Kp.mut (by simp), kt⟩
  rw [List.append_assoc] at h3
  exact h3.kt kt
def RetR {α : Type} (K : PySem.W.Frag) (Q : VK) (E : XK) (a L : Addr) (H : Hp) (rep : Hp → V → α → Prop) : RdF α → Prop
  | .ok (x, r) => ∀ v H' us', Kp [a] H H' → Kt H H' → RdAt K H' a L us' r → rep H' v x → Q v H'
  | .error f => FltE K E [a] H f
theorem RetR.kp {α : Type} {Q : VK} {E : XK} {a L : Addr} {H H1 : Hp} {rep : Hp → V → α → Prop} {e : RdF α} (h : RetR K Q E a L H rep e) (k : Kp [a] H H1) (t : Kt H H1) : RetR K Q E a L H1 rep e := by
  cases e with
  | error f => exact FltE.kp h k t
  | ok p => exact fun v H' us' k' t' h' r' => h v H' us' (k.trans k') (t.trans t') h' r'
theorem fin_cons {ts : List Tok} (h : Fin ts) : ∃ t r, ts = t :: r := by
  cases ts with
  | nil => exact absurd rfl h.ne
  | cons t r => exact ⟨t, r, rfl⟩
def spRdInit (K : PySem.W.Frag) : Sp := fun vs H Q E => ∃ (x dx : Addr) (z : Str), vs = [.ref x, .str z] ∧ H x = some (.ins (He.ga K "Reader") dx []) ∧ z.length ≤ 8000 ∧ okS z = true ∧
  (∀ ts, spl .nrm z.cps.toList 1 1 = .ok ts → ∀ H' L, Kp [x] H H' → RdAt K H' x L [] ts → Q .non H') ∧ (∀ f, spl .nrm z.cps.toList 1 1 = .error f → FltE K E [] H f)
theorem sc_Reader___init__ : FnScope ["self", "text"] ["self", "text"] (defScope s_Reader___init__) := ⟨rfl, rfl, rfl, by decide +kernel, rfl, by decide +kernel, by decide +kernel⟩
theorem bn_Reader___init__ : BindM "__init__" "Reader.__init__" s_Reader___init__ ["self", "text"] := fun _ _ _ _ _ _ us hl => match us, hl with | [_, _], _ => rfl
theorem b_Reader___init__ (T : TX K mg) : BodyMX P w K mg base "Reader" "__init__" "Reader.__init__" s_Reader___init__ ["self", "text"] 5 (spRdInit K) := by
  intro cdv A outer s H vs Q E h X hr tk
  obtain ⟨x, dx, z, rfl, hx, hz, hok, q, qe⟩ := h
  have D__split := D__split (P := P) (w := w) (base := base) T
  refine ⟨_, (pss_cons (ps_fldU (K := K) (pv 0) (pe_callX D__split hr tk (pa_cons (pv 1) pa_nil))) (pss_one (ps_fldU (K := K) (pv 0) pe_int))), ?_⟩
  walk_at "st"
  refine ⟨z, rfl, hz, hok, fun ts e H1 l xs k1 f1 h1 h2 => ?_, qe⟩
  have hx1 := k1.at0 hx
  walk_at "st"
  refine rd_i1 T hx1 ?_
  walk_at "st"
  refine rd_i2 T upd_same ?_
  have ne : l ≠ x := fun e => by rw [e, hx] at f1; cases f1
  rw [upd_upd]
  have kt : Kt H1 (upd H1 x (.ins (He.ga K "Reader") dx (rdF (.ref l) (.int 0)))) := Kt.upd1 (NoT.ins hx1)
  exact q ts e _ l (k1.mono.trans (Kp.mut (by simp))) ⟨⟨dx, l, xs, upd_same, by rw [upd_ne ne]; exact h1, h2.kt kt⟩, spl_fin e, lk_of upd_same⟩
theorem M_Reader___init__ (T : TX K mg) : MethAt P w K mg base (L2.CX P w) "Reader" "__init__" 6 ["self", "text"] (spRdInit K) :=
  meth_ofX T 33 50 sc_Reader___init__ bn_Reader___init__ (by walk_at "len") (b_Reader___init__ T)
def spRdKind (K : PySem.W.Frag) : Sp := fun vs H Q _ => ∃ (a L : Addr) (us r : List Tok) (t : Tok), vs = [.ref a] ∧ RdAt K H a L us (t :: r) ∧ Q (.str t.kind) H
theorem sc_Reader_kind : FnScope ["self"] ["self"] (defScope s_Reader_kind) := ⟨rfl, rfl, rfl, by decide +kernel, rfl, by decide +kernel, by decide +kernel⟩
theorem bn_Reader_kind : BindM "kind" "Reader.kind" s_Reader_kind ["self"] := fun _ _ _ _ _ _ us hl => match us, hl with | [_], _ => rfl
theorem b_Reader_kind (T : TX K mg) : BodyM P w K mg base "Reader" "kind" "Reader.kind" s_Reader_kind ["self"] 1 (spRdKind K) := by
  intro cdv A outer s H vs Q E h X hr
  obtain ⟨a, L, us, r, t, rfl, h, q⟩ := h
  refine ⟨_, (pss_one (ps_ret (pe_ix (ix_U (K := K)) (pe_ix (ix_U (K := K)) (pe_fldU (K := K) (pv 0)) (pe_fldU (K := K) (pv 0)) (fun _ _ => rfl)) pe_int (fun _ _ => rfl)))), ?_⟩
  obtain ⟨dx, l, xs, p, h1, h2, hl, h3, hat, hp, _⟩ := h.tok
  walk_at "st"
  refine c_ixL hl hat ?_
  walk_at "st"
  exact q
theorem M_Reader_kind (T : TX K mg) : MethAt P w K mg base CX0 "Reader" "kind" 2 ["self"] (spRdKind K) :=
  meth_of T 34 51 sc_Reader_kind bn_Reader_kind (by walk_at "len") (b_Reader_kind T)
def spRdSign (K : PySem.W.Frag) : Sp := fun vs H Q _ => ∃ (a L : Addr) (us r : List Tok) (t : Tok) (s : Str), vs = [.ref a, .str s] ∧ RdAt K H a L us (t :: r) ∧ okS s = true ∧ ∀ H', Kp [] H H' → Q (.bl (isSg s t)) H'
theorem sc_Reader_is_sign : FnScope ["self", "sign"] ["self", "sign"] (defScope s_Reader_is_sign) := ⟨rfl, rfl, rfl, by decide +kernel, rfl, by decide +kernel, by decide +kernel⟩
theorem bn_Reader_is_sign : BindM "is_sign" "Reader.is_sign" s_Reader_is_sign ["self", "sign"] := fun _ _ _ _ _ _ us hl => match us, hl with | [_, _], _ => rfl
theorem b_Reader_is_sign (T : TX K mg) : BodyM P w K mg base "Reader" "is_sign" "Reader.is_sign" s_Reader_is_sign ["self", "sign"] 1 (spRdSign K) := by
  intro cdv A outer s H vs Q E h X hr
  obtain ⟨a, L, us, r, t, s, rfl, h, hs, q⟩ := h
  refine ⟨_, (pss_one (ps_ret (pe_cmpR (op_eqU (K := K) hr.units) (pe_slice (sl_U (K := K)) (pe_ix (ix_U (K := K)) (pe_fldU (K := K) (pv 0)) (pe_fldU (K := K) (pv 0)) (fun _ _ => rfl)) po_none (po_some pe_int)) (pe_tup (pa_cons pe_str (pa_cons (pv 1) pa_nil))) (nomark _)))), ?_⟩
  obtain ⟨dx, l, xs, p, h1, h2, hl, h3, hat, hp, k1, k2, k3⟩ := h.tok
  walk_at "st"
  refine c_ixL hl hat ?_
  walk_at "st"
  refine c_slT hp fun p2 H2 e2 hp2 => ?_
  walk_at "st"
  walk_at "nw"
  intro p3 H3 N3
  have ec : cutL [V.str t.kind, .str t.text, .int t.line, .int t.col] none (some 2) = ([t.kind, t.text] : List Str).map V.str := by kernel_rfl
  rw [ec] at hp2
  refine c_eqTS (ys := [t.kind, t.text]) (zs := ["sign", s]) (SqT.kp N3.kp hp2) (SqT.of N3.at_) ?_ ?_ ?_
  · intro y hy
    simp only [List.mem_cons, List.not_mem_nil, or_false] at hy
    rcases hy with rfl | rfl
    · exact k1
    · exact k2
  · intro y hy
    simp only [List.mem_cons, List.not_mem_nil, or_false] at hy
    rcases hy with rfl | rfl
    · exact ok_kinds.2.1
    · exact hs
  · exact q H3 (e2.trans N3.kp)
theorem M_Reader_is_sign (T : TX K mg) : MethAt P w K mg base CX0 "Reader" "is_sign" 2 ["self", "sign"] (spRdSign K) :=
  meth_of T 36 53 sc_Reader_is_sign bn_Reader_is_sign (by walk_at "len") (b_Reader_is_sign T)
def spRdRefuse (K : PySem.W.Frag) : Sp := fun vs H _ E => ∃ (a L : Addr) (us r : List Tok) (t : Tok) (s : Str), vs = [.ref a, .str s] ∧ RdAt K H a L us (t :: r) ∧ FltE K E [a] H (fltAt t s)
theorem sc_Reader_refuse : FnScope ["self", "words", "_", "line", "column"] ["self", "words"] (defScope s_Reader_refuse) := ⟨rfl, rfl, rfl, by decide +kernel, rfl, by decide +kernel, by decide +kernel⟩
theorem bn_Reader_refuse : BindM "refuse" "Reader.refuse" s_Reader_refuse ["self", "words"] := fun _ _ _ _ _ _ us hl => match us, hl with | [_, _], _ => rfl
theorem b_Reader_refuse (T : TX K mg) : BodyMX P w K mg base "Reader" "refuse" "Reader.refuse" s_Reader_refuse ["self", "words", "_", "line", "column"] 3 (spRdRefuse K) := by
  intro cdv A outer s H vs Q E h X hr tk
  obtain ⟨a, L, us, r, t, s, rfl, h, q⟩ := h
  have E_TextFault := E_TextFault (P := P) (w := w) (base := base) T
  refine ⟨_, (pss_cons (ps_asg (pe_ix (ix_U (K := K)) (pe_fldU (K := K) (pv 0)) (pe_fldU (K := K) (pv 0)) (fun _ _ => rfl)) (pg_tupU (K := K) (n := 4) rfl (pgs_cons (pg_name (i := 2) sc_Reader_refuse.nd rfl (Or.inl rfl)) (pgs_cons (pg_name (i := 2) sc_Reader_refuse.nd rfl (Or.inl rfl)) (pgs_cons (pg_name (i := 3) sc_Reader_refuse.nd rfl (Or.inl rfl)) (pgs_cons (pg_name (i := 4) sc_Reader_refuse.nd rfl (Or.inl rfl)) pgs_nil)))))) (pss_one (ps_raiseE3 (K := K) E_TextFault hr tk (pa_cons (pv 3) (pa_cons (pv 4) (pa_cons (pv 1) pa_nil)))))), ?_⟩
  obtain ⟨dx, l, xs, p, h1, h2, hl, h3, hat, hp, k1, k2, k3⟩ := h.tok
  walk_at "st"
  refine c_ixL hl hat ?_
  walk_at "st"
  refine c_err3 fun d H1 N => ?_
  exact q _ d H1 Kp.refl Kt.refl N
theorem M_Reader_refuse (T : TX K mg) : MethAt P w K mg base (L2.CX P w) "Reader" "refuse" 4 ["self", "words"] (spRdRefuse K) :=
  meth_ofX T 35 52 sc_Reader_refuse bn_Reader_refuse (by walk_at "len") (b_Reader_refuse T)
def spRdBack (K : PySem.W.Frag) : Sp := fun vs H _ E => ∃ (a L : Addr) (us r : List Tok) (t : Tok) (s : Str), vs = [.ref a, .str s] ∧ RdAt K H a L (us ++ [t]) r ∧ FltE K E [a] H (fltAt t s)
theorem sc_Reader_back : FnScope ["self", "words"] ["self", "words"] (defScope s_Reader_back) := ⟨rfl, rfl, rfl, by decide +kernel, rfl, by decide +kernel, by decide +kernel⟩
theorem bn_Reader_back : BindM "back" "Reader.back" s_Reader_back ["self", "words"] := fun _ _ _ _ _ _ us hl => match us, hl with | [_, _], _ => rfl
theorem b_Reader_back (T : TX K mg) : BodyMX P w K mg base "Reader" "back" "Reader.back" s_Reader_back ["self", "words"] 4 (spRdBack K) := by
  intro cdv A outer s H vs Q E h X hr tk
  obtain ⟨a, L, us, r, t, s, rfl, h, q⟩ := h
  have C_Reader := C_Reader T; have M_Reader_refuse := M_Reader_refuse (P := P) (w := w) (base := base) T
  refine ⟨_, (pss_cons (ps_fldU (K := K) (pv 0) (pe_op op_subU (pe_fldU (K := K) (pv 0)) pe_int)) (pss_one (ps_expr (pe_methS1 M_Reader_refuse C_Reader hr (atW tk) (pv 0) (pa_cons (pv 1) pa_nil))))), ?_⟩
  obtain ⟨dx, l, xs, h1, h2, h3⟩ := h.ex
  walk_at "st"
  obtain rfl := (h.lk _ _ _ h1).symm
  obtain ⟨b1, b2, b3⟩ := rd_back (dx := dx) (i := ((us ++ [t]).length : Int) - 1) h1 h2 h3 h.fin (by rw [List.length_append, List.length_singleton]; omega)
  exact ⟨a, L, us, r, t, s, rfl, b1, q.kp b2 b3⟩
theorem M_Reader_back (T : TX K mg) : MethAt P w K mg base (L2.CX P w) "Reader" "back" 5 ["self", "words"] (spRdBack K) :=
  meth_ofX T 39 56 sc_Reader_back bn_Reader_back (by walk_at "len") (b_Reader_back T)
def spRdExp (K : PySem.W.Frag) : Sp := fun vs H Q E => ∃ (a L : Addr) (us ts : List Tok) (s : Str), vs = [.ref a, .str s] ∧ RdAt K H a L us ts ∧ okS s = true ∧ s.length ≤ 1000 ∧ RetR K Q E a L H (fun _ v _ => v = .non) (expF s ts)
theorem sc_Reader_expect : FnScope ["self", "sign"] ["self", "sign"] (defScope s_Reader_expect) := ⟨rfl, rfl, rfl, by decide +kernel, rfl, by decide +kernel, by decide +kernel⟩
theorem bn_Reader_expect : BindM "expect" "Reader.expect" s_Reader_expect ["self", "sign"] := fun _ _ _ _ _ _ us hl => match us, hl with | [_, _], _ => rfl
theorem b_Reader_expect (T : TX K mg) : BodyMX P w K mg base "Reader" "expect" "Reader.expect" s_Reader_expect ["self", "sign"] 4 (spRdExp K) := by
  intro cdv A outer s H vs Q E h X hr tk
  obtain ⟨a, L, us, ts, s, rfl, h, hs, hsl, q⟩ := h
  have C_Reader := C_Reader T; have M_Reader_is_sign := M_Reader_is_sign (P := P) (w := w) (base := base) T; have M_Reader_refuse := M_Reader_refuse (P := P) (w := w) (base := base) T
  refine ⟨_, (pss_cons (ps_if (pt_not (pt_tru (K := K) (pe_methS1 M_Reader_is_sign C_Reader hr at0 (pv 0) (pa_cons (pv 1) pa_nil)))) (pss_one (ps_expr (pe_methS1 M_Reader_refuse C_Reader hr (atW tk) (pv 0) (pa_cons (pe_op (op_addU (K := K)) pe_str (pv 1)) pa_nil)))) pss_nil) (pss_one (ps_fldU (K := K) (pv 0) (pe_op (op_addU (K := K)) (pe_fldU (K := K) (pv 0)) pe_int)))), ?_⟩
  obtain ⟨t, r, rfl⟩ := fin_cons h.fin
  obtain ⟨dx0, l0, xs0, p0, h10, _⟩ := h.tok
  walk_at "st"
  refine ⟨a, L, us, r, t, s, rfl, h, hs, fun H1 e1 => ?_⟩
  have h' := h.kp0 e1
  have q := q.kp e1.mono e1.kt
  obtain ⟨dx, l, xs, p, h1, h2, hl, h3, hat, hp, k1, k2, k3⟩ := h'.tok
  walk_at "st"
  refine c_iteNB (fun g => ?_) (fun g => ?_)
  · walk_at "st"
    refine c_addS (by rw [sizeLine_eq, show (PySem.Str.ofString "expected ").length = 9 from by decide +kernel]; omega) ?_
    walk_at "st"
    refine ⟨a, L, us, r, t, _, rfl, h', ?_⟩
    simp only [expF, g, Bool.false_eq_true, if_false] at q
    exact q
  · walk_at "st"
    simp only [expF, g, if_true] at q
    have hk : t.kind ≠ "end" := fun e => by
      unfold isSg at g
      rw [decide_eq_true_eq, List.cons.injEq, e] at g
      exact absurd g.1 (by decide +kernel)
    obtain rfl := (h'.lk _ _ _ h1).symm
    obtain ⟨b1, b2, b3⟩ := rd_next (dx := dx) (i := (us.length : Int) + 1) h1 h2 h3 h'.fin hk rfl
    exact q _ _ _ b2 b3 b1 rfl
theorem M_Reader_expect (T : TX K mg) : MethAt P w K mg base (L2.CX P w) "Reader" "expect" 5 ["self", "sign"] (spRdExp K) :=
  meth_ofX T 37 54 sc_Reader_expect bn_Reader_expect (by walk_at "len") (b_Reader_expect T)
def spRdTake (K : PySem.W.Frag) : Sp := fun vs H Q E => ∃ (a L : Addr) (us r : List Tok) (t : Tok) (k s : Str), vs = [.ref a, .str k, .str s] ∧ RdAt K H a L us (t :: r) ∧ k ≠ "end" ∧
  (t.kind = k → ∀ H', Kp [a] H H' → Kt H H' → RdAt K H' a L (us ++ [t]) r → okS t.text = true → t.text.length ≤ 8000 → Q (.str t.text) H') ∧ (t.kind ≠ k → FltE K E [a] H (fltAt t s))
theorem sc_Reader_take : FnScope ["self", "kind", "words"] ["self", "kind", "words"] (defScope s_Reader_take) := ⟨rfl, rfl, rfl, by decide +kernel, rfl, by decide +kernel, by decide +kernel⟩
theorem bn_Reader_take : BindM "take" "Reader.take" s_Reader_take ["self", "kind", "words"] := fun _ _ _ _ _ _ us hl => match us, hl with | [_, _, _], _ => rfl
theorem b_Reader_take (T : TX K mg) : BodyMX P w K mg base "Reader" "take" "Reader.take" s_Reader_take ["self", "kind", "words"] 4 (spRdTake K) := by
  intro cdv A outer s H vs Q E h X hr tk
  obtain ⟨a, L, us, r, t, k, s, rfl, h, hk, q, qe⟩ := h
  have C_Reader := C_Reader T; have M_Reader_kind := M_Reader_kind (P := P) (w := w) (base := base) T; have M_Reader_refuse := M_Reader_refuse (P := P) (w := w) (base := base) T
  refine ⟨_, (pss_cons (ps_if (pt_cmpR (op_neU (K := K) hr.units) (pe_methS0 M_Reader_kind C_Reader hr at0 (pv 0)) (pv 1) (nomark _)) (pss_one (ps_expr (pe_methS1 M_Reader_refuse C_Reader hr (atW tk) (pv 0) (pa_cons (pv 2) pa_nil)))) pss_nil) (pss_cons (ps_fldU (K := K) (pv 0) (pe_op (op_addU (K := K)) (pe_fldU (K := K) (pv 0)) pe_int)) (pss_one (ps_ret (pe_ix (ix_U (K := K)) (pe_ix (ix_U (K := K)) (pe_fldU (K := K) (pv 0)) (pe_op op_subU (pe_fldU (K := K) (pv 0)) pe_int) (fun _ _ => rfl)) pe_int (fun _ _ => rfl)))))), ?_⟩
  obtain ⟨dx, l, xs, p, h1, h2, hl, h3, hat, hp, k1, k2, k3⟩ := h.tok
  walk_at "st"
  refine ⟨a, L, us, r, t, rfl, h, ?_⟩
  walk_at "st"
  refine c_iteN (fun g => ?_) (fun g => ?_)
  · walk_at "st"
    exact ⟨a, L, us, r, t, s, rfl, h, qe g⟩
  · walk_at "st"
    obtain rfl := (h.lk _ _ _ h1).symm
    obtain ⟨b1, b2, b3⟩ := rd_next (dx := dx) (i := (us.length : Int) + 1) h1 h2 h3 h.fin (by rw [g]; exact hk) rfl
    have ne : L ≠ a := fun e => by rw [e, h1] at h2; cases h2
    refine c_ixL (SqL.of (by rw [upd_ne ne]; exact h2)) (by rw [show (us.length : Int) + 1 - 1 = us.length from by omega]; exact hat) ?_
    have hp' := SqT.kt b3 hp
    walk_at "st"
    exact q g _ b2 b3 b1 k2 k3
theorem M_Reader_take (T : TX K mg) : MethAt P w K mg base (L2.CX P w) "Reader" "take" 5 ["self", "kind", "words"] (spRdTake K) :=
  meth_ofX T 38 55 sc_Reader_take bn_Reader_take (by walk_at "len") (b_Reader_take T)
end
end K06



namespace K06
open PySem L2 Sa
local macro_rules | `(tactic| walk_at "s1") => `(tactic| first | (with_reducible apply c_dgetK))
local macro_rules | `(tactic| walk_at "s1") => `(tactic| (with_reducible apply c_raiseO))
local macro_rules | `(tactic| walk_at "s1") => `(tactic| first | (with_reducible apply c_dgetK))
local macro_rules | `(tactic| walk_at "s1") => `(tactic| (with_reducible apply c_raiseO))
local macro_rules | `(tactic| walk_at "s1") => `(tactic| first | (with_reducible apply c_un) | (with_reducible apply c_negI))
local macro_rules | `(tactic| walk_at "s1") => `(tactic| first | ((with_reducible apply rd_g1 (by assumption)); (· walk_at "lk")) | ((with_reducible apply rd_p1 (by assumption)); (· walk_at "lk")) | ((with_reducible apply rd_g2 (by assumption)); (· walk_at "lk")) | ((with_reducible apply rd_p2 (by assumption)); (· walk_at "lk")) | ((with_reducible apply rd_r); (· walk_at "lk"); (· decide +kernel)))
local macro_rules | `(tactic| walk_at "s1") => `(tactic| (with_reducible apply c_raiseE3))
set_option pp.maxSteps 1500
section
variable {P : Program} {w : World} {K : PySem.W.Frag} {mg : Str → Option Value} {base : Heap}
structure TxOk (x : Str) (n : Nat) : Prop where
  ok : okS x = true
  len : x.length ≤ n
def repS : Hp → V → Str → Prop := fun _ v x => v = .str x ∧ TxOk x 8000
theorem q_error {α : Type} {Q : VK} {E : XK} {a L : Addr} {H : Hp} {rep : Hp → V → α → Prop} {e : RdF α} {f : Flt} (q : RetR K Q E a L H rep e) (h : e = .error f) : FltE K E [a] H f := by subst h; exact q
theorem q_ok {α : Type} {Q : VK} {E : XK} {a L : Addr} {H H' : Hp} {us' : List Tok} {rep : Hp → V → α → Prop} {e : RdF α} {x : α} {r : List Tok} {v : V} (q : RetR K Q E a L H rep e) (h : e = .ok (x, r)) (k : Kp [a] H H') (t : Kt H H') (R : RdAt K H' a L us' r) (p : rep H' v x) : Q v H' := by
  subst h; exact q v H' us' k t R p
theorem take_ok {k w : Str} {p : Str → Bool} {t : Tok} {r : List Tok} (h1 : t.kind = k) (h2 : p t.text = true) : takeP k p w (t :: r) = .ok (t.text, r) := by simp only [takeP, h1, h2, if_true]
theorem take_bad {k w : Str} {p : Str → Bool} {t : Tok} {r : List Tok} (h : t.kind = k → p t.text = false) : takeP k p w (t :: r) = .error (fltAt t w) := by
  simp only [takeP]
  by_cases hk : t.kind = k
  · rw [if_pos hk, h hk, if_neg Bool.false_ne_true]
  · rw [if_neg hk]
theorem atQ (T : TX K mg) (H : Hp) : SqT K H (He.ga K "QUESTIONS") (questL.map V.str) := strsD_at (Dt.of (T.cst 0 rfl H) rfl)
theorem atDd (T : TX K mg) (H : Hp) : SqT K H (He.ga K "DEEDS") (deedL.map V.str) := strsD_at (Dt.of (T.cst 1 rfl H) rfl)
def spRdS (K : PySem.W.Frag) (f : List Tok → RdF Str) : Sp := fun vs H Q E => ∃ (a L : Addr) (us ts : List Tok), vs = [.ref a] ∧ RdAt K H a L us ts ∧ RetR K Q E a L H repS (f ts)
theorem sc_Reader_word : FnScope ["self", "word"] ["self"] (defScope s_Reader_word) := ⟨rfl, rfl, rfl, by decide +kernel, rfl, by decide +kernel, by decide +kernel⟩
theorem bn_Reader_word : BindM "word" "Reader.word" s_Reader_word ["self"] := fun _ _ _ _ _ _ us hl => match us, hl with | [_], _ => rfl
theorem b_Reader_word (T : TX K mg) : BodyMX P w K mg base "Reader" "word" "Reader.word" s_Reader_word ["self", "word"] 5 (spRdS K wordF) := by
  intro cdv A outer s H vs Q E h X hr tk
  obtain ⟨a, L, us, ts, rfl, h, q⟩ := h
  have C_Reader := C_Reader T; have M_Reader_back := M_Reader_back (P := P) (w := w) (base := base) T; have M_Reader_take := M_Reader_take (P := P) (w := w) (base := base) T
  refine ⟨_, (pss_cons (ps_set (i := 1) sc_Reader_word.nd rfl (Or.inl rfl) (pe_methS1 M_Reader_take C_Reader hr (atW tk) (pv 0) (pa_cons pe_str (pa_cons pe_str pa_nil)))) (pss_cons (ps_if (PW.pt (pw_and (pt_cmpR (op_notInU (K := K)) (pv 1) (pe_gCon (T.glo 58)) rfl) (pw_and1 (pt_cmpR (op_notInU (K := K)) (pv 1) (pe_gCon (T.glo 57)) rfl)))) (pss_one (ps_expr (pe_methS1 M_Reader_back C_Reader hr (atW tk) (pv 0) (pa_cons pe_str pa_nil)))) pss_nil) (pss_one (ps_ret (pv 1))))), ?_⟩
  obtain ⟨t, r, rfl⟩ := fin_cons h.fin
  obtain ⟨dx0, l0, xs0, p0, h10, _⟩ := h.tok
  walk_at "st"
  refine ⟨a, L, us, r, t, _, _, rfl, h, by decide +kernel, fun hk H1 k1 t1 h1 o1 l1 => ?_, fun hk => q_error q (take_bad fun e => absurd e hk)⟩
  obtain ⟨dx1, l2, xs1, h11, _⟩ := h1.ex
  have q := q.kp k1 t1
  walk_at "st"
  refine c_notInSs (.inr (atQ T H1)) ?_
  walk_at "st"
  have bad : t.text ∉ questL → t.text ∉ deedL → wordF (t :: r) = .error (fltAt t "expected an action") := fun g1 g2 => take_bad fun _ => by unfold wordB; simp [g1, g2]
  have good : wordB t.text = true → Q (.str t.text) H1 := fun g => q_ok q (take_ok hk g) Kp.refl Kt.refl h1 ⟨rfl, o1, l1⟩
  refine c_iteNB (fun g1 => ?_) (fun g1 => ?_)
  · rw [decide_eq_false_iff_not] at g1
    walk_at "st"
    refine c_notInSs (.inr (atDd T H1)) ?_
    walk_at "st"
    refine c_iteNB (fun g2 => ?_) (fun g2 => ?_)
    · rw [decide_eq_false_iff_not] at g2
      walk_at "st"
      exact ⟨a, L, us, r, t, _, rfl, h1, q_error q (bad g1 g2)⟩
    · walk_at "st"
      exact good (by unfold wordB; rw [g2, Bool.or_true])
  · walk_at "st"
    exact good (by unfold wordB; rw [g1, Bool.true_or])
theorem M_Reader_word (T : TX K mg) : MethAt P w K mg base (L2.CX P w) "Reader" "word" 6 ["self"] (spRdS K wordF) :=
  meth_ofX T 40 59 sc_Reader_word bn_Reader_word (by walk_at "len") (b_Reader_word T)
theorem sc_Reader_path : FnScope ["self", "path"] ["self"] (defScope s_Reader_path) := ⟨rfl, rfl, rfl, by decide +kernel, rfl, by decide +kernel, by decide +kernel⟩
theorem bn_Reader_path : BindM "path" "Reader.path" s_Reader_path ["self"] := fun _ _ _ _ _ _ us hl => match us, hl with | [_], _ => rfl
theorem b_Reader_path (T : TX K mg) : BodyMX P w K mg base "Reader" "path" "Reader.path" s_Reader_path ["self", "path"] 5 (spRdS K pathF) := by
  intro cdv A outer s H vs Q E h X hr tk
  obtain ⟨a, L, us, ts, rfl, h, q⟩ := h
  have C_Reader := C_Reader T; have D_is_path := D_is_path (P := P) (w := w) (base := base) T; have M_Reader_back := M_Reader_back (P := P) (w := w) (base := base) T; have M_Reader_take := M_Reader_take (P := P) (w := w) (base := base) T
  refine ⟨_, (pss_cons (ps_set (i := 1) sc_Reader_path.nd rfl (Or.inl rfl) (pe_methS1 M_Reader_take C_Reader hr (atW tk) (pv 0) (pa_cons pe_str (pa_cons pe_str pa_nil)))) (pss_cons (ps_if (pt_not (pt_tru (K := K) (pe_callA D_is_path hr pass0 (pa_cons (pv 1) pa_nil)))) (pss_one (ps_expr (pe_methS1 M_Reader_back C_Reader hr (atW tk) (pv 0) (pa_cons pe_str pa_nil)))) pss_nil) (pss_one (ps_ret (pv 1))))), ?_⟩
  obtain ⟨t, r, rfl⟩ := fin_cons h.fin
  obtain ⟨dx0, l0, xs0, p0, h10, _⟩ := h.tok
  walk_at "st"
  refine ⟨a, L, us, r, t, _, _, rfl, h, by decide +kernel, fun hk H1 k1 t1 h1 o1 l1 => ?_, fun hk => q_error q (take_bad fun e => absurd e hk)⟩
  have q := q.kp k1 t1
  walk_at "st"
  refine ⟨t.text, rfl, by omega, fun H2 e2 => ?_⟩
  have h2 := h1.kp0 e2
  have q := q.kp e2.mono e2.kt
  obtain ⟨dx1, l2, xs1, h11, _⟩ := h2.ex
  walk_at "st"
  refine c_iteNB (fun g => ?_) (fun g => ?_)
  · walk_at "st"
    exact ⟨a, L, us, r, t, _, rfl, h2, q_error q (take_bad fun _ => g)⟩
  · walk_at "st"
    exact q_ok q (take_ok hk g) Kp.refl Kt.refl h2 ⟨rfl, o1, l1⟩
theorem M_Reader_path (T : TX K mg) : MethAt P w K mg base (L2.CX P w) "Reader" "path" 6 ["self"] (spRdS K pathF) :=
  meth_ofX T 41 60 sc_Reader_path bn_Reader_path (by walk_at "len") (b_Reader_path T)
theorem sc_Reader_place : FnScope ["self", "place"] ["self"] (defScope s_Reader_place) := ⟨rfl, rfl, rfl, by decide +kernel, rfl, by decide +kernel, by decide +kernel⟩
theorem bn_Reader_place : BindM "place" "Reader.place" s_Reader_place ["self"] := fun _ _ _ _ _ _ us hl => match us, hl with | [_], _ => rfl
theorem b_Reader_place (T : TX K mg) : BodyMX P w K mg base "Reader" "place" "Reader.place" s_Reader_place ["self", "place"] 5 (spRdS K placeF) := by
  intro cdv A outer s H vs Q E h X hr tk
  obtain ⟨a, L, us, ts, rfl, h, q⟩ := h
  have C_Reader := C_Reader T; have D_is_path := D_is_path (P := P) (w := w) (base := base) T; have M_Reader_back := M_Reader_back (P := P) (w := w) (base := base) T; have M_Reader_take := M_Reader_take (P := P) (w := w) (base := base) T
  refine ⟨_, (pss_cons (ps_set (i := 1) sc_Reader_place.nd rfl (Or.inl rfl) (pe_methS1 M_Reader_take C_Reader hr (atW tk) (pv 0) (pa_cons pe_str (pa_cons pe_str pa_nil)))) (pss_cons (ps_if (PW.pt (pw_and (pt_cmpR (op_neU (K := K) hr.units) (pv 1) (pe_gStr (T.str 8)) (nomark _)) (pw_and1 (pt_not (pt_tru (K := K) (pe_callA D_is_path hr pass0 (pa_cons (pv 1) pa_nil))))))) (pss_one (ps_expr (pe_methS1 M_Reader_back C_Reader hr (atW tk) (pv 0) (pa_cons pe_str pa_nil)))) pss_nil) (pss_one (ps_ret (pe_ifExp (pt_cmpR (op_eqU (K := K) hr.units) (pv 1) (pe_gStr (T.str 8)) (nomark _)) pe_str (pv 1)))))), ?_⟩
  obtain ⟨t, r, rfl⟩ := fin_cons h.fin
  obtain ⟨dx0, l0, xs0, p0, h10, _⟩ := h.tok
  walk_at "st"
  have er : ∀ {f : Flt}, takeP "word" placeB "expected a place" (t :: r) = .error f → placeF (t :: r) = .error f := fun e => by unfold placeF; rw [e]; rfl
  have okp : t.kind = "word" → placeB t.text = true → placeF (t :: r) = .ok (toPlace t.text, r) := fun e1 e2 => by unfold placeF; rw [take_ok e1 e2]; rfl
  refine ⟨a, L, us, r, t, _, _, rfl, h, by decide +kernel, fun hk H1 k1 t1 h1 o1 l1 => ?_, fun hk => q_error q (er (take_bad fun e => absurd e hk))⟩
  have q := q.kp k1 t1
  walk_at "st"
  by_cases g : t.text = PySem.Str.ofString "."
  · have okq : Q (.str "") H1 := q_ok q ((okp hk (by unfold placeB; simp [g])).trans (by unfold toPlace; rw [if_pos g])) Kp.refl Kt.refl h1 ⟨rfl, by decide +kernel, Nat.zero_le _⟩
    refine c_iteN (fun g' => absurd g g') (fun _ => ?_)
    walk_at "st"
    refine c_ite (fun _ => ?_) (fun g' => absurd g g')
    walk_at "st"
    exact okq
  · refine c_iteN (fun _ => ?_) (fun g' => absurd g' g)
    walk_at "st"
    refine ⟨t.text, rfl, by omega, fun H2 e2 => ?_⟩
    have h2 := h1.kp0 e2
    have q := q.kp e2.mono e2.kt
    obtain ⟨dx1, l2, xs1, h11, _⟩ := h2.ex
    walk_at "st"
    refine c_iteNB (fun g2 => ?_) (fun g2 => ?_)
    · walk_at "st"
      exact ⟨a, L, us, r, t, _, rfl, h2, q_error q (er (take_bad fun _ => by unfold placeB; rw [g2]; simp [g]))⟩
    · walk_at "st"
      refine c_ite (fun g' => absurd g' g) (fun _ => ?_)
      walk_at "st"
      exact q_ok q ((okp hk (by unfold placeB; rw [g2, Bool.or_true])).trans (by unfold toPlace; rw [if_neg g])) Kp.refl Kt.refl h2 ⟨rfl, o1, l1⟩
theorem M_Reader_place (T : TX K mg) : MethAt P w K mg base (L2.CX P w) "Reader" "place" 6 ["self"] (spRdS K placeF) :=
  meth_ofX T 42 61 sc_Reader_place bn_Reader_place (by walk_at "len") (b_Reader_place T)
theorem sc_Reader_quoted_word : FnScope ["self", "word"] ["self"] (defScope s_Reader_quoted_word) := ⟨rfl, rfl, rfl, by decide +kernel, rfl, by decide +kernel, by decide +kernel⟩
theorem bn_Reader_quoted_word : BindM "quoted_word" "Reader.quoted_word" s_Reader_quoted_word ["self"] := fun _ _ _ _ _ _ us hl => match us, hl with | [_], _ => rfl
theorem b_Reader_quoted_word (T : TX K mg) : BodyMX P w K mg base "Reader" "quoted_word" "Reader.quoted_word" s_Reader_quoted_word ["self", "word"] 5 (spRdS K quoWF) := by
  intro cdv A outer s H vs Q E h X hr tk
  obtain ⟨a, L, us, ts, rfl, h, q⟩ := h
  have C_Reader := C_Reader T; have M_Reader_back := M_Reader_back (P := P) (w := w) (base := base) T; have M_Reader_take := M_Reader_take (P := P) (w := w) (base := base) T
  refine ⟨_, (pss_cons (ps_set (i := 1) sc_Reader_quoted_word.nd rfl (Or.inl rfl) (pe_methS1 M_Reader_take C_Reader hr (atW tk) (pv 0) (pa_cons pe_str (pa_cons pe_str pa_nil)))) (pss_cons (ps_if (pt_not (pt_chain op_leU op_leU pe_int (pe_callB (cr_len (K := K)) rfl (T.free 2) PySem.boot_len (pa_cons (pv 1) pa_nil)) (pe_gInt (T.int 62)))) (pss_one (ps_expr (pe_methS1 M_Reader_back C_Reader hr (atW tk) (pv 0) (pa_cons pe_str pa_nil)))) pss_nil) (pss_one (ps_ret (pv 1))))), ?_⟩
  obtain ⟨t, r, rfl⟩ := fin_cons h.fin
  obtain ⟨dx0, l0, xs0, p0, h10, _⟩ := h.tok
  walk_at "st"
  refine ⟨a, L, us, r, t, _, _, rfl, h, by decide +kernel, fun hk H1 k1 t1 h1 o1 l1 => ?_, fun hk => q_error q (take_bad fun e => absurd e hk)⟩
  obtain ⟨dx1, l2, xs1, h11, _⟩ := h1.ex
  have q := q.kp k1 t1
  have hs : t.text.length ≤ sizeLine := by rw [sizeLine_eq]; omega
  have good : 1 ≤ t.text.length → t.text.length ≤ 12 → Q (.str t.text) H1 := fun g1 g2 => q_ok q (take_ok hk (by unfold quoWB; simp [g1, g2])) Kp.refl Kt.refl h1 ⟨rfl, o1, l1⟩
  have bad : ¬ (1 ≤ t.text.length ∧ t.text.length ≤ 12) → FltE K E [a] H1 (fltAt t "expected a word") := fun g => q_error q (take_bad fun _ => by
    unfold quoWB
    rw [Bool.and_eq_false_iff, decide_eq_false_iff_not, decide_eq_false_iff_not]
    omega)
  walk_at "st"
  refine c_ite (fun g1 => ?_) (fun g1 => ?_)
  · walk_at "st"
    refine c_iteN (fun g2 => ?_) (fun g2 => ?_)
    · walk_at "st"
      exact ⟨a, L, us, r, t, _, rfl, h1, bad (by omega)⟩
    · walk_at "st"
      exact good (by omega) (by omega)
  · refine ⟨_, rfl, ?_⟩
    refine c_iteNB (fun _ => ?_) (fun g => by cases g)
    walk_at "st"
    exact ⟨a, L, us, r, t, _, rfl, h1, bad (by omega)⟩
theorem M_Reader_quoted_word (T : TX K mg) : MethAt P w K mg base (L2.CX P w) "Reader" "quoted_word" 6 ["self"] (spRdS K quoWF) :=
  meth_ofX T 43 63 sc_Reader_quoted_word bn_Reader_quoted_word (by walk_at "len") (b_Reader_quoted_word T)
theorem c_testOr {σ : St} {H : Hp} {tB : TT} {R : Bool → Hp → Prop} {c : Bool} (b : Bool) (h : ∀ R : Bool → Hp → Prop, (∀ H', Kp [] H H' → R b H') → tB σ H R) (q : ∀ H', Kp [] H H' → R (c || b) H') : if c = true then R true H else tB σ H R := by
  cases c with
  | true => rw [if_pos rfl]; exact q H Kp.refl
  | false => rw [if_neg Bool.false_ne_true]; exact h R q
theorem RdAt.kl {H : Hp} {a l L : Addr} {us ts : List Tok} {xs : List V} (R : RdAt K H a L us ts) (hl : H l = some (.lst xs)) (ne : l ≠ L) (o : HO) : RdAt K (upd H l o) a L us ts := by
  obtain ⟨dx, l', xs, h1, h2, h3⟩ := R.ex
  obtain rfl := (R.lk _ _ _ h1).symm
  have n1 : a ≠ l := fun e => by rw [← e, h1] at hl; cases hl
  have h1' : upd H l o a = some (.ins (He.ga K "Reader") dx (rdF (.ref L) (.int (us.length : Int)))) := by rw [upd_ne n1]; exact h1
  exact ⟨⟨dx, L, xs, h1', by rw [upd_ne (Ne.symm ne)]; exact h2, h3.kt (Kt.upd1 (NoT.lst hl))⟩, R.fin, lk_of h1'⟩
theorem RdAt.neL {H : Hp} {a l L : Addr} {us ts : List Tok} (R : RdAt K H a L us ts) (hl : H l = none) : l ≠ L := fun e => by
  obtain ⟨dx, l', xs, h1, h2, h3⟩ := R.ex
  obtain rfl := (R.lk _ _ _ h1).symm
  rw [← e, hl] at h2
  cases h2
def repL (K : PySem.W.Frag) : Hp → V → List Str → Prop := fun H v ls => ∃ p, v = .ref p ∧ SqT K H p (ls.map V.str) ∧ ls.length ≤ 12 ∧ ∀ y ∈ ls, TxOk y 20
def spRdLines (K : PySem.W.Frag) : Sp := fun vs H Q E => ∃ (a L : Addr) (us ts : List Tok) (n : Nat), vs = [.ref a, .int (n : Int)] ∧ RdAt K H a L us ts ∧ RetR K Q E a L H (repL K) (linesF n ts)
theorem sc_Reader_lines : FnScope ["self", "least", "found", "line"] ["self", "least"] (defScope s_Reader_lines) := ⟨rfl, rfl, rfl, by decide +kernel, rfl, by decide +kernel, by decide +kernel⟩
theorem bn_Reader_lines : BindM "lines" "Reader.lines" s_Reader_lines ["self", "least"] := fun _ _ _ _ _ _ us hl => match us, hl with | [_, _], _ => rfl
theorem b_Reader_lines (T : TX K mg) : BodyMX P w K mg base "Reader" "lines" "Reader.lines" s_Reader_lines ["self", "least", "found", "line"] 5 (spRdLines K) := by
  intro cdv A outer s H vs Q E h X hr tk
  obtain ⟨a, L, us, ts, n, rfl, h, q⟩ := h
  have C_Reader := C_Reader T; have M_Reader_back := M_Reader_back (P := P) (w := w) (base := base) T; have M_Reader_expect := M_Reader_expect (P := P) (w := w) (base := base) T; have M_Reader_is_sign := M_Reader_is_sign (P := P) (w := w) (base := base) T; have M_Reader_take := M_Reader_take (P := P) (w := w) (base := base) T
  refine ⟨_, (pss_cons (ps_expr (pe_methS1 M_Reader_expect C_Reader hr (atW tk) (pv 0) (pa_cons pe_str pa_nil))) (pss_cons (ps_set (i := 2) sc_Reader_lines.nd rfl (Or.inl rfl) (pe_lst pa_nil)) (Evl.pss_cut (ps_while (passes_of rfl) (PW.pt (pw_or (pt_cmpR op_ltU (pe_callB (cr_len (K := K)) rfl (T.free 2) PySem.boot_len (pa_cons (pv 2) pa_nil)) (pv 1) (nomark _)) (pw_or1 (pt_not (pt_tru (K := K) (pe_methS1 M_Reader_is_sign C_Reader hr at0 (pv 0) (pa_cons pe_str pa_nil))))))) (pss_cons (ps_set (i := 3) sc_Reader_lines.nd rfl (Or.inl rfl) (pe_methS1 M_Reader_take C_Reader hr (atW tk) (pv 0) (pa_cons pe_str (pa_cons pe_str pa_nil)))) (pss_cons (ps_if (pt_cmpR op_gtU (pe_callB (cr_len (K := K)) rfl (T.free 2) PySem.boot_len (pa_cons (pv 3) pa_nil)) (pe_gInt (T.int 65)) (nomark _)) (pss_one (ps_expr (pe_methS1 M_Reader_back C_Reader hr (atW tk) (pv 0) (pa_cons pe_str pa_nil)))) pss_nil) (pss_cons (ps_if (pt_cmpR (op_eqU (K := K) hr.units) (pe_callB (cr_len (K := K)) rfl (T.free 2) PySem.boot_len (pa_cons (pv 2) pa_nil)) (pe_gInt (T.int 64)) (nomark _)) (pss_one (ps_expr (pe_methS1 M_Reader_back C_Reader hr (atW tk) (pv 0) (pa_cons pe_str pa_nil)))) pss_nil) (pss_one (ps_expr (pe_appendU (K := K) (pv 2) (pv 3)))))))) (pss_cons (ps_expr (pe_methS1 M_Reader_expect C_Reader hr (atW tk) (pv 0) (pa_cons pe_str pa_nil))) (pss_one (ps_ret (pe_callTy (cr_tuple (K := K)) rfl (T.free 17) (by decide +kernel) (pa_cons (pv 2) pa_nil)))))))), ?_⟩
  obtain ⟨dx0, l0, xs0, h10, _⟩ := h.ex
  walk_at "st"
  refine ⟨a, L, us, ts, _, rfl, h, by decide +kernel, by decide +kernel, ?_⟩
  cases e : expF "[" ts with
  | error f => exact q_error q (by unfold linesF; rw [e]; rfl)
  | ok u =>
    obtain ⟨u, r⟩ := u
    intro v H1 us1 k1 t1 h1 _
    have q : RetR K Q E a L H1 (repL K) (linesL n [] r) := by
      have e2 : linesF n ts = linesL n [] r := by unfold linesF; rw [e]; rfl
      rw [← e2]
      exact q.kp k1 t1
    walk_at "st"
    walk_at "nw"
    intro l H2 N2
    have hla : ∀ {H' : Hp} {us' ts' : List Tok} {xs : List V}, RdAt K H' a L us' ts' → H' l = some (.lst xs) → l ≠ a := fun R hl e => by
      obtain ⟨dx, l', xs', g1, _⟩ := R.ex
      rw [e, g1] at hl
      cases hl
    walk_at "st"
    refine c_cut (fun σ' H' => ∃ us' t r' found o, RdAt K H' a L us' (t :: r') ∧ H' l = some (.lst (found.map V.str)) ∧ found.length ≤ 12 ∧ (∀ y ∈ found, TxOk y 20) ∧ Kp [a] H1 H' ∧ Kt H1 H' ∧ linesL n [] r = .ok (found, r') ∧ isSg "]" t = true ∧
      σ' = [some (.ref a), some (.int (n : Int)), some (.ref l), o]) ?_ ?_
    · refine c_while (fun m σ' H' => ∃ us' ts' found o, m = ts'.length ∧ RdAt K H' a L us' ts' ∧ H' l = some (.lst (found.map V.str)) ∧ found.length ≤ 12 ∧ (∀ y ∈ found, TxOk y 20) ∧ Kp [a] H1 H' ∧ Kt H1 H' ∧ linesL n found ts' = linesL n [] r ∧
        σ' = [some (.ref a), some (.int (n : Int)), some (.ref l), o]) r.length ⟨us1, r, [], none, rfl, h1.kp0 N2.kp, N2.at_, Nat.zero_le _, (fun _ h => by cases h), N2.kp, N2.kp.kt, rfl, rfl⟩ ?_
      rintro m _ H3 ⟨us', ts', found, o, rfl, R3, hl3, hf3, ho3, k3, t3, e3, rfl⟩
      obtain ⟨t, r', rfl⟩ := fin_cons R3.fin
      obtain ⟨dx3, l3, xs3, h13, _⟩ := R3.ex
      walk_at "st"
      rw [List.length_map]
      refine c_testOr (!isSg "]" t) (fun R q => ?_) (fun H4 e4 => ?_)
      · walk_at "st"
        refine ⟨a, L, us', r', t, _, rfl, R3, by decide +kernel, fun H4 e4 => ?_⟩
        walk_at "st"
        exact q H4 e4
      · have R4 := R3.kp0 e4
        have hl4 := e4.at0 hl3
        have k4 := k3.trans e4.mono
        have t4 := t3.trans e4.kt
        have q := q.kp k4 t4
        rw [← e3] at q
        have nc : (decide ((found.length : Int) < (n : Int)) || !isSg "]" t) = true ↔ (found.length < n ∨ isSg "]" t = false) := by
          rw [Bool.or_eq_true, decide_eq_true_eq, Bool.not_eq_true']
          constructor
          · rintro (h | h)
            · exact .inl (by omega)
            · exact .inr h
          · rintro (h | h)
            · exact .inl (by omega)
            · exact .inr h
        by_cases hc : found.length < n ∨ isSg "]" t = false
        · show if _ = true then _ else _
          refine c_iteT (nc.mpr hc) (c_turn ?_)
          obtain ⟨dx4, l4, xs4, h14, _⟩ := R4.ex
          walk_at "st"
          refine ⟨a, L, us', r', t, _, _, rfl, R4, by decide +kernel, fun hk H5 k5 t5 R5 o5 l5 => ?_, fun hk => q_error q (by rw [linesL, if_pos hc, if_neg hk])⟩
          have hl5 := k5.at1 (hla R4 hl4) hl4
          have q := q.kp k5 t5
          have hs : t.text.length ≤ sizeLine := by rw [sizeLine_eq]; omega
          obtain ⟨dx5, l6, xs5, h15, _⟩ := R5.ex
          walk_at "st"
          refine c_ite (fun g1 => ?_) (fun g1 => ?_)
          · walk_at "st"
            exact ⟨a, L, us', r', t, _, rfl, R5, q_error q (by rw [linesL, if_pos hc, if_pos hk, if_pos (by omega)])⟩
          walk_at "st"
          rw [List.length_map]
          refine c_ite (fun g2 => ?_) (fun g2 => ?_)
          · walk_at "st"
            exact ⟨a, L, us', r', t, _, rfl, R5, q_error q (by rw [linesL, if_pos hc, if_pos hk, if_neg (by omega), if_pos (by omega)])⟩
          walk_at "st"
          have kt : Kt H5 (upd H5 l (.lst (found.map V.str ++ [.str t.text]))) := Kt.upd1 (NoT.lst hl5)
          have R6 : RdAt K (upd H5 l (.lst (found.map V.str ++ [.str t.text]))) a L (us' ++ [t]) r' := R5.kl hl5 (h1.neL N2.fr) _
          refine ⟨r'.length, by simp, us' ++ [t], r', found ++ [t.text], _, rfl, R6, ?_, by rw [List.length_append, List.length_singleton]; omega, ?_, ?_, (t4.trans t5).trans kt, ?_, rfl⟩
          · rw [upd_same, List.map_append]; rfl
          · intro y hy
            rcases List.mem_append.mp hy with hy | hy
            · exact ho3 y hy
            · rw [List.mem_singleton] at hy
              subst hy
              exact ⟨o5, by omega⟩
          · exact (k4.trans k5).fresh_mut N2.fr
          · rw [← e3]
            conv => rhs; rw [linesL, if_pos hc, if_pos hk, if_neg (by omega), if_neg (by omega)]
        · show if _ = true then _ else _
          refine c_iteF (by rw [Bool.eq_false_iff]; exact fun h => hc (nc.mp h)) ?_
          have hs : isSg "]" t = true := by
            cases hh : isSg "]" t with
            | true => rfl
            | false => exact absurd (.inr hh) hc
          exact ⟨us', t, r', found, o, R4, hl4, hf3, ho3, k4, t4, by rw [← e3, linesL, if_neg hc], hs, rfl⟩
    · rintro _ H3 ⟨us', t, r', found, o, R3, hl3, hf3, ho3, k3, t3, e3, hs, rfl⟩
      obtain ⟨dx3, l3, xs3, h13, _⟩ := R3.ex
      have q := q.kp k3 t3
      walk_at "st"
      refine ⟨a, L, us', t :: r', _, rfl, R3, by decide +kernel, by decide +kernel, ?_⟩
      rw [expF, if_pos hs]
      intro v H4 us4 k4 t4 R4 _
      have hl4 := k4.at1 (hla R3 hl3) hl3
      walk_at "st"
      refine c_tupleL (SqL.of hl4) fun p H5 N5 => ?_
      exact q_ok q e3 (k4.trans N5.kp) (t4.trans N5.kp.kt) (R4.kp0 N5.kp) ⟨p, rfl, SqT.of N5.at_, hf3, ho3⟩
theorem M_Reader_lines (T : TX K mg) : MethAt P w K mg base (L2.CX P w) "Reader" "lines" 6 ["self", "least"] (spRdLines K) :=
  meth_ofX T 44 66 sc_Reader_lines bn_Reader_lines (by walk_at "len") (b_Reader_lines T)
end
end K06



namespace K06
open PySem L2 Sa
local macro_rules | `(tactic| walk_at "s1") => `(tactic| first | (with_reducible apply c_dgetK))
local macro_rules | `(tactic| walk_at "s1") => `(tactic| (with_reducible apply c_raiseO))
local macro_rules | `(tactic| walk_at "s1") => `(tactic| first | (with_reducible apply c_dgetK))
local macro_rules | `(tactic| walk_at "s1") => `(tactic| (with_reducible apply c_raiseO))
local macro_rules | `(tactic| walk_at "s1") => `(tactic| first | (with_reducible apply c_un) | (with_reducible apply c_negI))
local macro_rules | `(tactic| walk_at "s1") => `(tactic| first | ((with_reducible apply rd_g1 (by assumption)); (· walk_at "lk")) | ((with_reducible apply rd_p1 (by assumption)); (· walk_at "lk")) | ((with_reducible apply rd_g2 (by assumption)); (· walk_at "lk")) | ((with_reducible apply rd_p2 (by assumption)); (· walk_at "lk")) | ((with_reducible apply rd_r); (· walk_at "lk"); (· decide +kernel)))
local macro_rules | `(tactic| walk_at "s1") => `(tactic| (with_reducible apply c_raiseE3))
set_option pp.maxSteps 1500
section
variable {P : Program} {w : World} {K : PySem.W.Frag} {mg : Str → Option Value} {base : Heap}
theorem actAt_kt {H H' : Hp} {a : Addr} (e : Kt H H') : ∀ {x : Action}, ActAt K H a x → ActAt K H' a x
  | .read _, h => SqT.kt e h
  | .kind _, h => SqT.kt e h
  | .list _, h => SqT.kt e h
  | .find _ _, h => SqT.kt e h
  | .count _, h => SqT.kt e h
  | .write _ _, ⟨l, h1, h2⟩ => ⟨l, SqT.kt e h1, SqT.kt e h2⟩
  | .remove _, h => SqT.kt e h
  | .move _ _, h => SqT.kt e h
  | .splice _ _ _, ⟨l, m, h1, h2, h3⟩ => ⟨l, m, SqT.kt e h1, SqT.kt e h2, SqT.kt e h3⟩
structure LsTx (ls : List Str) : Prop where
  len : ls.length ≤ 12
  tx : ∀ y ∈ ls, TxOk y 20
def Action.tx : Action → Prop
  | .read p => TxOk p 8000
  | .kind p => TxOk p 8000
  | .list p => TxOk p 8000
  | .count p => TxOk p 8000
  | .remove p => TxOk p 8000
  | .find z u => TxOk z 8000 ∧ TxOk u 8000
  | .move p t => TxOk p 8000 ∧ TxOk t 8000
  | .write p ls => TxOk p 8000 ∧ LsTx ls
  | .splice p old new => TxOk p 8000 ∧ LsTx old ∧ LsTx new
def repA (K : PySem.W.Frag) : Hp → V → Action → Prop := fun H v x => ∃ p, v = .ref p ∧ ActAt K H p x ∧ x.tx
theorem take_inv {k w : Str} {p : Str → Bool} {ts r : List Tok} {u : Str} (h : takeP k p w ts = .ok (u, r)) : p u = true := by
  cases ts with
  | nil => cases h
  | cons t r' =>
    simp only [takeP] at h
    split at h
    · split at h
      · injection h with h; injection h with h _; subst h; assumption
      · cases h
    · cases h
theorem go_err {α β : Type} {e : RdF α} {f : α → List Tok → RdF β} {x : Flt} (h : e = .error x) : e.go f = .error x := by subst h; rfl
theorem go_app {α β : Type} {e : RdF α} {f : α → List Tok → RdF β} {x : α} {r : List Tok} (h : e = .ok (x, r)) : e.go f = f x r := by subst h; rfl
theorem words9 {z : Str} (h : wordB z = true) : z = "read" ∨ z = "kind" ∨ z = "list" ∨ z = "find" ∨ z = "count" ∨ z = "write" ∨ z = "remove" ∨ z = "move" ∨ z = "splice" := by
  unfold wordB questL deedL at h
  simp only [Bool.or_eq_true, decide_eq_true_eq, List.mem_cons, List.not_mem_nil, or_false] at h
  rcases h with (h | h | h | h | h) | (h | h | h | h)
  all_goals simp [h]
theorem rest_read {r : List Tok} : restF "read" r = (pathF r).go fun p r => .ok (.read p, r) := by kernel_rfl
theorem rest_remove {r : List Tok} : restF "remove" r = (pathF r).go fun p r => .ok (.remove p, r) := by kernel_rfl
theorem rest_kind {r : List Tok} : restF "kind" r = (placeF r).go fun p r => .ok (.kind p, r) := by kernel_rfl
theorem rest_list {r : List Tok} : restF "list" r = (placeF r).go fun p r => .ok (.list p, r) := by kernel_rfl
theorem rest_count {r : List Tok} : restF "count" r = (placeF r).go fun p r => .ok (.count p, r) := by kernel_rfl
theorem rest_find {r : List Tok} : restF "find" r = (placeF r).go fun z r => (quoWF r).go fun u r => .ok (.find z u, r) := by kernel_rfl
theorem rest_write {r : List Tok} : restF "write" r = (pathF r).go fun p r => (linesF 0 r).go fun ls r => .ok (.write p ls, r) := by kernel_rfl
theorem rest_move {r : List Tok} : restF "move" r = (pathF r).go fun p r => (pathF r).go fun q r => .ok (.move p q, r) := by kernel_rfl
theorem rest_splice {r : List Tok} : restF "splice" r = (pathF r).go fun p r => (linesF 1 r).go fun old r => (linesF 0 r).go fun new r => .ok (.splice p old new, r) := by kernel_rfl
def spRdAct (K : PySem.W.Frag) : Sp := fun vs H Q E => ∃ (a L : Addr) (us ts : List Tok), vs = [.ref a] ∧ RdAt K H a L us ts ∧ RetR K Q E a L H (repA K) (actRF ts)
theorem sc_Reader_action : FnScope ["self", "word", "place", "action", "old"] ["self"] (defScope s_Reader_action) := ⟨rfl, rfl, rfl, by decide +kernel, rfl, by decide +kernel, by decide +kernel⟩
theorem bn_Reader_action : BindM "action" "Reader.action" s_Reader_action ["self"] := fun _ _ _ _ _ _ us hl => match us, hl with | [_], _ => rfl
theorem b_Reader_action (T : TX K mg) : BodyMX P w K mg base "Reader" "action" "Reader.action" s_Reader_action ["self", "word", "place", "action", "old"] 6 (spRdAct K) := by
  intro cdv A outer s H vs Q E h X hr tk
  obtain ⟨a, L, us, ts, rfl, h, q⟩ := h
  have C_Reader := C_Reader T; have M_Reader_expect := M_Reader_expect (P := P) (w := w) (base := base) T; have M_Reader_lines := M_Reader_lines (P := P) (w := w) (base := base) T; have M_Reader_path := M_Reader_path (P := P) (w := w) (base := base) T; have M_Reader_place := M_Reader_place (P := P) (w := w) (base := base) T; have M_Reader_quoted_word := M_Reader_quoted_word (P := P) (w := w) (base := base) T; have M_Reader_word := M_Reader_word (P := P) (w := w) (base := base) T
  refine ⟨_, (pss_cons (ps_expr (pe_methS1 M_Reader_expect C_Reader hr (atW tk) (pv 0) (pa_cons pe_str pa_nil))) (pss_cons (ps_set (i := 1) sc_Reader_action.nd rfl (Or.inl rfl) (pe_methS0 M_Reader_word C_Reader hr (atW tk) (pv 0))) (Evl.pss_cut (ps_if (pt_cmpR (op_eqU (K := K) hr.units) (pv 1) pe_str (nomark _)) (pss_cons (ps_set (i := 2) sc_Reader_action.nd rfl (Or.inl rfl) (pe_methS0 M_Reader_place C_Reader hr (atW tk) (pv 0))) (pss_one (ps_set (i := 3) sc_Reader_action.nd rfl (Or.inl rfl) (pe_tup (pa_cons (pv 1) (pa_cons (pv 2) (pa_cons (pe_methS0 M_Reader_quoted_word C_Reader hr (atW tk) (pv 0)) pa_nil))))))) (pss_one (ps_if (PW.pt (pw_or (pt_cmpR (op_eqU (K := K) hr.units) (pv 1) pe_str (nomark _)) (pw_or (pt_cmpR (op_eqU (K := K) hr.units) (pv 1) pe_str (nomark _)) (pw_or1 (pt_cmpR (op_eqU (K := K) hr.units) (pv 1) pe_str (nomark _)))))) (pss_one (ps_set (i := 3) sc_Reader_action.nd rfl (Or.inl rfl) (pe_tup (pa_cons (pv 1) (pa_cons (pe_methS0 M_Reader_place C_Reader hr (atW tk) (pv 0)) pa_nil))))) (pss_one (ps_set (i := 3) sc_Reader_action.nd rfl (Or.inl rfl) (pe_tup (pa_cons (pv 1) (pa_cons (pe_methS0 M_Reader_path C_Reader hr (atW tk) (pv 0)) pa_nil)))))))) (Evl.pss_cut (ps_if (pt_cmpR (op_eqU (K := K) hr.units) (pv 1) pe_str (nomark _)) (pss_one (ps_set (i := 3) sc_Reader_action.nd rfl (Or.inl rfl) (pe_op (op_addU (K := K)) (pv 3) (pe_tup (pa_cons (pe_methS1 M_Reader_lines C_Reader hr (atW tk) (pv 0) (pa_cons pe_int pa_nil)) pa_nil))))) (pss_one (ps_if (pt_cmpR (op_eqU (K := K) hr.units) (pv 1) pe_str (nomark _)) (pss_one (ps_set (i := 3) sc_Reader_action.nd rfl (Or.inl rfl) (pe_op (op_addU (K := K)) (pv 3) (pe_tup (pa_cons (pe_methS0 M_Reader_path C_Reader hr (atW tk) (pv 0)) pa_nil))))) (pss_one (ps_if (pt_cmpR (op_eqU (K := K) hr.units) (pv 1) pe_str (nomark _)) (pss_cons (ps_set (i := 4) sc_Reader_action.nd rfl (Or.inl rfl) (pe_methS1 M_Reader_lines C_Reader hr (atW tk) (pv 0) (pa_cons pe_int pa_nil))) (pss_one (ps_set (i := 3) sc_Reader_action.nd rfl (Or.inl rfl) (pe_op (op_addU (K := K)) (pv 3) (pe_tup (pa_cons (pv 4) (pa_cons (pe_methS1 M_Reader_lines C_Reader hr (atW tk) (pv 0) (pa_cons pe_int pa_nil)) pa_nil))))))) pss_nil))))) (pss_cons (ps_expr (pe_methS1 M_Reader_expect C_Reader hr (atW tk) (pv 0) (pa_cons pe_str pa_nil))) (pss_one (ps_ret (pv 3)))))))), ?_⟩
  obtain ⟨dx0, l0, xs0, h10, _⟩ := h.ex
  walk_at "st"
  refine ⟨a, L, us, ts, _, rfl, h, by decide +kernel, by decide +kernel, ?_⟩
  cases e1 : expF "(" ts with
  | error f => exact q_error q (go_err e1)
  | ok u1 =>
  obtain ⟨u1, r1⟩ := u1
  intro v1 H1 us1 k1 t1 R1 _
  have q := q.kp k1 t1
  unfold actRF at q
  rw [go_app e1] at q
  obtain ⟨dx1, l1, xs1, h11, _⟩ := R1.ex
  walk_at "st"
  refine ⟨a, L, us1, r1, rfl, R1, ?_⟩
  cases e2 : wordF r1 with
  | error f => exact q_error q (go_err e2)
  | ok u2 =>
  obtain ⟨wd, r2⟩ := u2
  rintro _ H2 us2 k2 t2 R2 ⟨rfl, -⟩
  have q := q.kp k2 t2
  rw [go_app e2] at q
  have hw := words9 (take_inv e2)
  obtain ⟨dx2, l2, xs2, h12, _⟩ := R2.ex
  clear e1 e2
  refine c_cut (fun σ' H' => ∃ us3 r3 p o1 o2, RdAt K H' a L us3 r3 ∧ Kp [a] H2 H' ∧ Kt H2 H' ∧ ((∃ x, ActAt K H' p x ∧ x.tx ∧ restF wd r2 = .ok (x, r3) ∧ wd ∉ ([PySem.Str.ofString "write", "move", "splice"] : List Str)) ∨
      (∃ z, SqT K H' p [.str wd, .str z] ∧ TxOk z 8000 ∧ restF wd r2 = restP wd z r3 ∧ wd ∈ ([PySem.Str.ofString "write", "move", "splice"] : List Str))) ∧ σ' = [some (.ref a), some (.str wd), o1, some (.ref p), o2]) ?_ ?_
  · rcases hw with rfl | rfl | rfl | rfl | rfl | rfl | rfl | rfl | rfl
    · walk_at "dc"
      refine ⟨a, L, us2, r2, rfl, R2, ?_⟩
      cases e3 : pathF r2 with
      | error f => exact q_error q (go_err (by rw [rest_read]; exact go_err e3))
      | ok u3 =>
        obtain ⟨z, r3⟩ := u3
        rintro _ H3 us3 k3 t3 R3 ⟨rfl, hz⟩
        walk_at "st"
        walk_at "nw"
        intro p H4 N4
        walk_at "st"
        exact ⟨us3, r3, p, _, _, R3.kp0 N4.kp, k3.trans N4.kp, t3.trans N4.kp.kt, .inl ⟨.read z, SqT.of N4.at_, hz, by rw [rest_read]; exact go_app e3, by decide +kernel⟩, rfl⟩
    · walk_at "dc"
      refine ⟨a, L, us2, r2, rfl, R2, ?_⟩
      cases e3 : placeF r2 with
      | error f => exact q_error q (go_err (by rw [rest_kind]; exact go_err e3))
      | ok u3 =>
        obtain ⟨z, r3⟩ := u3
        rintro _ H3 us3 k3 t3 R3 ⟨rfl, hz⟩
        walk_at "st"
        walk_at "nw"
        intro p H4 N4
        walk_at "st"
        exact ⟨us3, r3, p, _, _, R3.kp0 N4.kp, k3.trans N4.kp, t3.trans N4.kp.kt, .inl ⟨.kind z, SqT.of N4.at_, hz, by rw [rest_kind]; exact go_app e3, by decide +kernel⟩, rfl⟩
    · walk_at "dc"
      refine ⟨a, L, us2, r2, rfl, R2, ?_⟩
      cases e3 : placeF r2 with
      | error f => exact q_error q (go_err (by rw [rest_list]; exact go_err e3))
      | ok u3 =>
        obtain ⟨z, r3⟩ := u3
        rintro _ H3 us3 k3 t3 R3 ⟨rfl, hz⟩
        walk_at "st"
        walk_at "nw"
        intro p H4 N4
        walk_at "st"
        exact ⟨us3, r3, p, _, _, R3.kp0 N4.kp, k3.trans N4.kp, t3.trans N4.kp.kt, .inl ⟨.list z, SqT.of N4.at_, hz, by rw [rest_list]; exact go_app e3, by decide +kernel⟩, rfl⟩
    · walk_at "dc"
      refine ⟨a, L, us2, r2, rfl, R2, ?_⟩
      cases e3 : placeF r2 with
      | error f => exact q_error q (go_err (by rw [rest_find]; exact go_err e3))
      | ok u3 =>
        obtain ⟨z, r3⟩ := u3
        rintro _ H3 us3 k3 t3 R3 ⟨rfl, hz⟩
        have q := q.kp k3 t3
        obtain ⟨dx3, l3, xs3, h13, _⟩ := R3.ex
        walk_at "st"
        refine ⟨a, L, us3, r3, rfl, R3, ?_⟩
        cases e4 : quoWF r3 with
        | error f => exact q_error q (go_err (by rw [rest_find, go_app e3]; exact go_err e4))
        | ok u4 =>
          obtain ⟨u, r4⟩ := u4
          rintro _ H4 us4 k4 t4 R4 ⟨rfl, hu⟩
          walk_at "st"
          walk_at "nw"
          intro p H5 N5
          walk_at "st"
          exact ⟨us4, r4, p, _, _, R4.kp0 N5.kp, (k3.trans k4).trans N5.kp, (t3.trans t4).trans N5.kp.kt, .inl ⟨.find z u, SqT.of N5.at_, ⟨hz, hu⟩, by rw [rest_find, go_app e3]; exact go_app e4, by decide +kernel⟩, rfl⟩
    · walk_at "dc"
      refine ⟨a, L, us2, r2, rfl, R2, ?_⟩
      cases e3 : placeF r2 with
      | error f => exact q_error q (go_err (by rw [rest_count]; exact go_err e3))
      | ok u3 =>
        obtain ⟨z, r3⟩ := u3
        rintro _ H3 us3 k3 t3 R3 ⟨rfl, hz⟩
        walk_at "st"
        walk_at "nw"
        intro p H4 N4
        walk_at "st"
        exact ⟨us3, r3, p, _, _, R3.kp0 N4.kp, k3.trans N4.kp, t3.trans N4.kp.kt, .inl ⟨.count z, SqT.of N4.at_, hz, by rw [rest_count]; exact go_app e3, by decide +kernel⟩, rfl⟩
    · walk_at "dc"
      refine ⟨a, L, us2, r2, rfl, R2, ?_⟩
      cases e3 : pathF r2 with
      | error f => exact q_error q (go_err (by rw [rest_write]; exact go_err e3))
      | ok u3 =>
        obtain ⟨z, r3⟩ := u3
        rintro _ H3 us3 k3 t3 R3 ⟨rfl, hz⟩
        walk_at "st"
        walk_at "nw"
        intro p H4 N4
        walk_at "st"
        exact ⟨us3, r3, p, _, _, R3.kp0 N4.kp, k3.trans N4.kp, t3.trans N4.kp.kt, .inr ⟨z, SqT.of N4.at_, hz, by rw [rest_write, go_app e3]; kernel_rfl, by decide +kernel⟩, rfl⟩
    · walk_at "dc"
      refine ⟨a, L, us2, r2, rfl, R2, ?_⟩
      cases e3 : pathF r2 with
      | error f => exact q_error q (go_err (by rw [rest_remove]; exact go_err e3))
      | ok u3 =>
        obtain ⟨z, r3⟩ := u3
        rintro _ H3 us3 k3 t3 R3 ⟨rfl, hz⟩
        walk_at "st"
        walk_at "nw"
        intro p H4 N4
        walk_at "st"
        exact ⟨us3, r3, p, _, _, R3.kp0 N4.kp, k3.trans N4.kp, t3.trans N4.kp.kt, .inl ⟨.remove z, SqT.of N4.at_, hz, by rw [rest_remove]; exact go_app e3, by decide +kernel⟩, rfl⟩
    · walk_at "dc"
      refine ⟨a, L, us2, r2, rfl, R2, ?_⟩
      cases e3 : pathF r2 with
      | error f => exact q_error q (go_err (by rw [rest_move]; exact go_err e3))
      | ok u3 =>
        obtain ⟨z, r3⟩ := u3
        rintro _ H3 us3 k3 t3 R3 ⟨rfl, hz⟩
        walk_at "st"
        walk_at "nw"
        intro p H4 N4
        walk_at "st"
        exact ⟨us3, r3, p, _, _, R3.kp0 N4.kp, k3.trans N4.kp, t3.trans N4.kp.kt, .inr ⟨z, SqT.of N4.at_, hz, by rw [rest_move, go_app e3]; kernel_rfl, by decide +kernel⟩, rfl⟩
    · walk_at "dc"
      refine ⟨a, L, us2, r2, rfl, R2, ?_⟩
      cases e3 : pathF r2 with
      | error f => exact q_error q (go_err (by rw [rest_splice]; exact go_err e3))
      | ok u3 =>
        obtain ⟨z, r3⟩ := u3
        rintro _ H3 us3 k3 t3 R3 ⟨rfl, hz⟩
        walk_at "st"
        walk_at "nw"
        intro p H4 N4
        walk_at "st"
        exact ⟨us3, r3, p, _, _, R3.kp0 N4.kp, k3.trans N4.kp, t3.trans N4.kp.kt, .inr ⟨z, SqT.of N4.at_, hz, by rw [rest_splice, go_app e3]; kernel_rfl, by decide +kernel⟩, rfl⟩
  rintro _ H3 ⟨us3, r3, p, o1, o2, R3, k3, t3, hA, rfl⟩
  have q := q.kp k3 t3
  refine c_cut (fun σ' H' => ∃ us4 r4 p x o1 o2, RdAt K H' a L us4 r4 ∧ ActAt K H' p x ∧ x.tx ∧ restF wd r2 = .ok (x, r4) ∧ Kp [a] H3 H' ∧ Kt H3 H' ∧ σ' = [some (.ref a), some (.str wd), o1, some (.ref p), o2]) ?_ ?_
  · rcases hA with ⟨x, hx, htx, e3, hn⟩ | ⟨z, hz, hzt, e3, hm⟩
    · simp only [List.mem_cons, List.not_mem_nil, or_false, not_or] at hn
      walk_at "st"
      refine c_ite (fun g => absurd g hn.1) (fun _ => ?_)
      walk_at "st"
      refine c_ite (fun g => absurd g hn.2.1) (fun _ => ?_)
      walk_at "st"
      refine c_ite (fun g => absurd g hn.2.2) (fun _ => ?_)
      walk_at "st"
      exact ⟨us3, r3, p, x, o1, o2, R3, hx, htx, e3, Kp.refl, Kt.refl, rfl⟩
    · simp only [List.mem_cons, List.not_mem_nil, or_false] at hm
      obtain ⟨dx3, l3, xs3, h13, _⟩ := R3.ex
      rcases hm with rfl | rfl | rfl
      · have e3 : restF "write" r2 = (linesF 0 r3).go fun ls r => .ok (.write z ls, r) := e3
        walk_at "dc"
        refine ⟨a, L, us3, r3, 0, rfl, R3, ?_⟩
        cases e4 : linesF 0 r3 with
        | error f => exact q_error q (go_err (by rw [e3]; exact go_err e4))
        | ok u4 =>
          obtain ⟨ls, r4⟩ := u4
          rintro _ H4 us4 k4 t4 R4 ⟨pl, rfl, hls, hl1, hl2⟩
          walk_at "st"
          walk_at "nw"
          intro p5 H5 N5
          walk_at "st"
          refine c_addT (SqT.kp N5.kp (SqT.kt t4 hz)) (SqT.of N5.at_) (by rw [sizeLine_eq]; simp only [List.length_cons, List.length_nil]; omega) fun p6 H6 e6 hp6 => ?_
          walk_at "st"
          exact ⟨us4, r4, p6, .write z ls, _, _, (R4.kp0 N5.kp).kp0 e6, ⟨pl, hp6, SqT.kp e6 (SqT.kp N5.kp hls)⟩, ⟨hzt, hl1, hl2⟩, by rw [e3]; exact go_app e4, (k4.trans N5.kp).trans e6.mono, (t4.trans N5.kp.kt).trans e6.kt, rfl⟩
      · have e3 : restF "move" r2 = (pathF r3).go fun q r => .ok (.move z q, r) := e3
        walk_at "dc"
        refine ⟨a, L, us3, r3, rfl, R3, ?_⟩
        cases e4 : pathF r3 with
        | error f => exact q_error q (go_err (by rw [e3]; exact go_err e4))
        | ok u4 =>
          obtain ⟨y, r4⟩ := u4
          rintro _ H4 us4 k4 t4 R4 ⟨rfl, hy⟩
          walk_at "st"
          walk_at "nw"
          intro p5 H5 N5
          walk_at "st"
          refine c_addT (SqT.kp N5.kp (SqT.kt t4 hz)) (SqT.of N5.at_) (by rw [sizeLine_eq]; simp only [List.length_cons, List.length_nil]; omega) fun p6 H6 e6 hp6 => ?_
          walk_at "st"
          exact ⟨us4, r4, p6, .move z y, _, _, (R4.kp0 N5.kp).kp0 e6, hp6, ⟨hzt, hy⟩, by rw [e3]; exact go_app e4, (k4.trans N5.kp).trans e6.mono, (t4.trans N5.kp.kt).trans e6.kt, rfl⟩
      · have e3 : restF "splice" r2 = (linesF 1 r3).go fun old r => (linesF 0 r).go fun new r => .ok (.splice z old new, r) := e3
        walk_at "dc"
        refine ⟨a, L, us3, r3, 1, rfl, R3, ?_⟩
        cases e4 : linesF 1 r3 with
        | error f => exact q_error q (go_err (by rw [e3]; exact go_err e4))
        | ok u4 =>
          obtain ⟨old, r4⟩ := u4
          rintro _ H4 us4 k4 t4 R4 ⟨po, rfl, ho, ho1, ho2⟩
          have q := q.kp k4 t4
          obtain ⟨dx4, l4, xs4, h14, _⟩ := R4.ex
          walk_at "st"
          refine ⟨a, L, us4, r4, 0, rfl, R4, ?_⟩
          cases e5 : linesF 0 r4 with
          | error f => exact q_error q (go_err (by rw [e3, go_app e4]; exact go_err e5))
          | ok u5 =>
            obtain ⟨new, r5⟩ := u5
            rintro _ H5 us5 k5 t5 R5 ⟨pn, rfl, hn, hn1, hn2⟩
            walk_at "st"
            walk_at "nw"
            intro p6 H6 N6
            walk_at "st"
            refine c_addT (SqT.kp N6.kp (SqT.kt t5 (SqT.kt t4 hz))) (SqT.of N6.at_) (by rw [sizeLine_eq]; simp only [List.length_cons, List.length_nil]; omega) fun p7 H7 e7 hp7 => ?_
            walk_at "st"
            exact ⟨us5, r5, p7, .splice z old new, _, _, (R5.kp0 N6.kp).kp0 e7, ⟨po, pn, hp7, SqT.kp e7 (SqT.kp N6.kp (SqT.kt t5 ho)), SqT.kp e7 (SqT.kp N6.kp hn)⟩, ⟨hzt, ⟨ho1, ho2⟩, ⟨hn1, hn2⟩⟩, by rw [e3, go_app e4]; exact go_app e5,
              ((k4.trans k5).trans N6.kp).trans e7.mono, ((t4.trans t5).trans N6.kp.kt).trans e7.kt, rfl⟩
  · rintro _ H4 ⟨us4, r4, p4, x, o1, o2, R4, hA, hx, e4, k4, t4, rfl⟩
    have q := q.kp k4 t4
    rw [go_app e4] at q
    obtain ⟨dx3, l3, xs3, h13, _⟩ := R4.ex
    walk_at "st"
    refine ⟨a, L, us4, r4, _, rfl, R4, by decide +kernel, by decide +kernel, ?_⟩
    cases e5 : expF ")" r4 with
    | error f => exact q_error q (go_err e5)
    | ok u5 =>
      obtain ⟨u5, r5⟩ := u5
      rintro v5 H5 us5 k5 t5 R5 -
      rw [go_app e5] at q
      walk_at "st"
      exact q _ H5 us5 k5 t5 R5 ⟨p4, rfl, actAt_kt t5 hA, hx⟩
theorem M_Reader_action (T : TX K mg) : MethAt P w K mg base (L2.CX P w) "Reader" "action" 7 ["self"] (spRdAct K) :=
  meth_ofX T 45 67 sc_Reader_action bn_Reader_action (by walk_at "len") (b_Reader_action T)
end
end K06



namespace K06
open PySem L2 Sa
local macro_rules | `(tactic| walk_at "s1") => `(tactic| first | (with_reducible apply c_dgetK))
local macro_rules | `(tactic| walk_at "s1") => `(tactic| (with_reducible apply c_raiseO))
local macro_rules | `(tactic| walk_at "s1") => `(tactic| first | (with_reducible apply c_dgetK))
local macro_rules | `(tactic| walk_at "s1") => `(tactic| (with_reducible apply c_raiseO))
local macro_rules | `(tactic| walk_at "s1") => `(tactic| first | (with_reducible apply c_un) | (with_reducible apply c_negI))
local macro_rules | `(tactic| walk_at "s1") => `(tactic| first | ((with_reducible apply rd_g1 (by assumption)); (· walk_at "lk")) | ((with_reducible apply rd_p1 (by assumption)); (· walk_at "lk")) | ((with_reducible apply rd_g2 (by assumption)); (· walk_at "lk")) | ((with_reducible apply rd_p2 (by assumption)); (· walk_at "lk")) | ((with_reducible apply rd_r); (· walk_at "lk"); (· decide +kernel)))
set_option pp.maxSteps 1500
theorem fresh_two {x : Nat} {l c : Int} : (fresh x l c).1.length ≤ 1 := by
  unfold fresh
  split
  · exact Nat.zero_le _
  split
  · exact Nat.zero_le _
  split
  · exact Nat.le_refl _
  split <;> exact Nat.zero_le _
theorem step_two {m m' : Md} {x : Nat} {l c : Int} {es : List Tok} (h : stepM m x l c = some (es, m')) : es.length ≤ 2 := by
  have f := fresh_two (x := x) (l := l) (c := c)
  cases m with
  | nrm =>
    have h : some (fresh x l c) = some (es, m') := h
    injection h with h
    rw [h] at f
    exact Nat.le_succ_of_le f
  | wd w l0 c0 =>
    simp only [stepM] at h
    split at h
    · injection h with h; injection h with h _; subst h; rw [List.length_cons]; omega
    · injection h with h; injection h with h _; subst h; exact Nat.zero_le _
  | quo q l0 c0 =>
    simp only [stepM] at h
    split at h
    · injection h with h; injection h with h _; subst h; exact Nat.le_succ _
    · split at h
      · cases h
      · injection h with h; injection h with h _; subst h; exact Nat.zero_le _
theorem spl_many : ∀ {r : List Nat} {m : Md} {l c : Int} {ts : List Tok}, spl m r l c = .ok ts → ts.length ≤ 2 * r.length + 2
  | [], m, l, c, ts, h => by
    have h : lastM m l c = .ok ts := h
    cases m with
    | nrm => injection h with h; subst h; exact Nat.le_succ _
    | wd w l0 c0 => injection h with h; subst h; exact Nat.le_refl _
    | quo q l0 c0 => cases h
  | x :: r, m, l, c, ts, h => by
    cases e : stepM m x l c with
    | none => rw [spl_none e] at h; cases h
    | some p =>
      obtain ⟨es, m'⟩ := p
      rw [spl_step e] at h
      cases e2 : spl m' r (nxL x l) (nxC x c) with
      | error f => rw [e2] at h; cases h
      | ok us =>
        rw [e2] at h
        injection h with h
        have i1 := spl_many e2
        have i2 := step_two e
        rw [← h, List.length_append, List.length_cons]
        omega
section
variable {P : Program} {w : World} {K : PySem.W.Frag} {mg : Str → Option Value} {base : Heap}
theorem FltE.kp0a {E : XK} {H H1 : Hp} {a : Addr} {f : Flt} (h : FltE K E [] H f) (k : Kp [] H H1) (n : H a = none) : FltE K E [a] H1 f := fun H2 d H3 k2 t2 N => h H2 d H3 (Kp.drop_fresh (k.mono.trans k2) n) (k.kt.trans t2) N
theorem c_newRd {H : Hp} {z : Str} {Q : VK} {E : XK} (hz : z.length ≤ 8000) (hok : okS z = true) (q : ∀ ts, spl .nrm z.cps.toList 1 1 = .ok ts → ∀ x L H', Kp [] H H' → H x = none → RdAt K H' x L [] ts → Q (.ref x) H')
    (qe : ∀ f, spl .nrm z.cps.toList 1 1 = .error f → FltE K E [] H f) : NewK K "Reader" (spRdInit K) [.str z] H Q E := by
  intro x dx h1 h2 h3
  have k1 : Kp [] H (upd H dx (.own x)) := Kp.new h2
  have hx : upd H dx (.own x) x = none := by rw [upd_ne (Ne.symm h3)]; exact h1
  have k2 : Kp [] H (upd (upd H dx (.own x)) x (.ins (He.ga K "Reader") dx [])) := k1.trans (Kp.new hx)
  exact ⟨x, dx, z, rfl, upd_same, hz, hok, fun ts e H' L k R => ⟨rfl, q ts e x L H' (Kp.drop_fresh (k2.mono.trans k) h1) h1 R⟩, fun f e => (qe f e).kp0 k2⟩
def spRead (K : PySem.W.Frag) : Sp := fun vs H Q E => ∃ z : Str, vs = [.str z] ∧ z.length ≤ 1000000 ∧ okS z = true ∧ (8000 < z.length → RaisesE K H E "text") ∧
  (z.length ≤ 8000 → (∀ f, readTx z = .error f → FltE K E [] H f) ∧ (∀ acts, readTx z = .ok acts → (∀ x ∈ acts, x.tx) → ∀ H' p xs, Kp [] H H' → SqT K H' p xs → DtAll K H' xs (acts.map Action.d) → Q (.ref p) H'))
theorem sc_read_actions : FnScope ["text", "reader", "actions"] ["text"] (defScope s_read_actions) := ⟨rfl, rfl, rfl, by decide +kernel, rfl, by decide +kernel, by decide +kernel⟩
theorem bn_read_actions : BindN "read_actions" s_read_actions ["text"] := fun _ _ _ _ _ _ us hl => match us, hl with | [_], _ => rfl
theorem b_read_actions (T : TX K mg) : BodyX P w K mg base "read_actions" s_read_actions ["text", "reader", "actions"] 7 (spRead K) := by
  intro cdv A outer s H vs Q E h X hr tk
  obtain ⟨z, rfl, hz, hok, qo, q⟩ := h
  have C_Reader := C_Reader T; have E_OutOfRange := E_OutOfRange (P := P) (w := w) (base := base) T; have M_Reader___init__ := M_Reader___init__ (P := P) (w := w) (base := base) T; have M_Reader_action := M_Reader_action (P := P) (w := w) (base := base) T; have M_Reader_kind := M_Reader_kind (P := P) (w := w) (base := base) T; have Mk_Reader := Mk_Reader T
  refine ⟨_, (pss_cons (ps_if (pt_cmpR op_gtU (pe_callB (cr_len (K := K)) rfl (T.free 2) PySem.boot_len (pa_cons (pv 0) pa_nil)) (pe_gInt (T.int 19)) (nomark _)) (pss_one (ps_raiseE (K := K) E_OutOfRange hr tk (pa_cons pe_str pa_nil))) pss_nil) (pss_cons (ps_set (i := 1) sc_read_actions.nd rfl (Or.inl rfl) (pe_newS M_Reader___init__ Mk_Reader C_Reader hr (atW tk) (pa_cons (pv 0) pa_nil))) (pss_cons (ps_set (i := 2) sc_read_actions.nd rfl (Or.inl rfl) (pe_lst pa_nil)) (pss_cons (ps_while (passes_of rfl) (pt_cmpR (op_neU (K := K) hr.units) (pe_methS0 M_Reader_kind C_Reader hr at0 (pv 1)) pe_str (nomark _)) (pss_one (ps_expr (pe_appendU (K := K) (pv 2) (pe_methS0 M_Reader_action C_Reader hr (atW tk) (pv 1)))))) (pss_one (ps_ret (pe_callTy (cr_tuple (K := K)) rfl (T.free 17) (by decide +kernel) (pa_cons (pv 2) pa_nil)))))))), ?_⟩
  have hs : z.length ≤ sizeLine := by rw [sizeLine_eq]; omega
  walk_at "st"
  refine c_ite (fun g => ?_) (fun g => ?_)
  · walk_at "st"
    refine c_err fun d H1 N => ?_
    exact qo (by omega) d H1 N.kp N.at_
  obtain ⟨qe, q⟩ := q (by omega)
  walk_at "st"
  refine c_newRd (by omega) hok (fun ts e a L H1 k1 f1 R1 => ?_) (fun f e => qe f (by unfold readTx; rw [e]))
  have em : readTx z = readN ts.length ts := by unfold readTx; rw [e]
  rw [em] at qe q
  have tl := spl_many e
  have zl : z.length = z.cps.toList.length := rfl
  walk_at "st"
  walk_at "nw"
  intro l H2 N2
  walk_at "st"
  refine c_while (fun m σ' H' => ∃ us ts' xs acts, m = ts'.length ∧ RdAt K H' a L us ts' ∧ H' l = some (.lst xs) ∧ DtAll K H' xs (acts.map Action.d) ∧ (∀ x ∈ acts, x.tx) ∧ acts.length + ts'.length ≤ ts.length ∧ Kp [] H H' ∧
    (∃ n, ts'.length ≤ n ∧ readN ts.length ts = (readN n ts').map (acts ++ ·)) ∧ σ' = [some (.str z), some (.ref a), some (.ref l)]) ts.length ⟨[], ts, [], [], rfl, R1.kp0 N2.kp, N2.at_, .nil, (fun _ h => by cases h), by simp, k1.trans N2.kp, ⟨_, Nat.le_refl _, by cases readN ts.length ts <;> rfl⟩, rfl⟩ ?_
  rintro m _ H3 ⟨us, ts', xs, acts, rfl, R3, hl3, hd3, htx, hn, k3, ⟨n, n1, n2⟩, rfl⟩
  obtain ⟨t, r, rfl⟩ := fin_cons R3.fin
  obtain ⟨dx3, l3, xs3, h13, _⟩ := R3.ex
  have hla : l ≠ a := fun e => by rw [e, h13] at hl3; cases hl3
  obtain ⟨n, rfl⟩ : ∃ n', n = n' + 1 := ⟨n - 1, by rw [List.length_cons] at n1; omega⟩
  have fr : H l = none := by
    cases hh : H l with
    | none => rfl
    | some o =>
      have := k1.at0 hh
      rw [N2.fr] at this
      cases this
  walk_at "st"
  refine ⟨a, L, us, r, t, rfl, R3, ?_⟩
  walk_at "st"
  refine c_iteN (fun g => ?_) (fun g => ?_)
  · refine c_turn ?_
    have hl4' := hl3
    walk_at "st"
    refine ⟨a, L, us, t :: r, rfl, R3, ?_⟩
    cases e4 : actRF (t :: r) with
    | error f =>
      refine FltE.kp0a (qe f ?_) k3 f1
      rw [n2, readN, if_neg g, e4]
      rfl
    | ok u4 =>
      obtain ⟨x, r'⟩ := u4
      rintro _ H4 us4 k4 t4 R4 ⟨p, rfl, hA, hx⟩
      have hl4 := k4.at1 hla hl3
      have xl : xs.length < sizeLine := by rw [dta_len hd3, List.length_map, sizeLine_eq]; rw [List.length_cons] at hn; omega
      walk_at "st"
      have kt : Kt H4 (upd H4 l (.lst (xs ++ [.ref p]))) := Kt.upd1 (NoT.lst hl4)
      have al := act_len e4
      have k04 : Kp [] H H4 := (k3.mono.trans k4).drop_fresh f1
      refine ⟨r'.length, al, us4, r', xs ++ [.ref p], acts ++ [x], rfl, R4.kl hl4 (R1.neL N2.fr) _, upd_same, ?_, ?_, by rw [List.length_append, List.length_singleton]; omega, k04.fresh_mut fr, ⟨n, by omega, ?_⟩, rfl⟩
      · rw [List.map_append]
        exact dta_snoc (DtAll.kt kt (DtAll.kt t4 hd3)) (Dt.kt kt hA.dt)
      · intro y hy
        rcases List.mem_append.mp hy with hy | hy
        · exact htx y hy
        · rw [List.mem_singleton] at hy
          rw [hy]; exact hx
      · rw [n2, readN, if_neg g, e4]
        show ((readN n r').map (x :: ·)).map (acts ++ ·) = _
        cases readN n r' with
        | error f => rfl
        | ok ys => show Except.ok (acts ++ x :: ys) = Except.ok ((acts ++ [x]) ++ ys); rw [List.append_assoc]; rfl
  · walk_at "st"
    refine c_tupleL (SqL.of hl3) fun p H4 N4 => ?_
    refine q acts ?_ htx H4 p xs (k3.trans N4.kp) (SqT.of N4.at_) (hd3.kp N4.kp)
    rw [n2, readN, if_pos g]
    show Except.ok (acts ++ []) = _
    rw [List.append_nil]
theorem D_read_actions (T : TX K mg) : DefAt P w K mg base (L2.CX P w) "read_actions" 8 ["text"] (spRead K) :=
  def_ofX T 8 21 sc_read_actions bn_read_actions (by walk_at "len") (b_read_actions T)
end
end K06



namespace K06
open PySem L2 Sa
local macro_rules | `(tactic| walk_at "s1") => `(tactic| first | (with_reducible apply c_dgetK))
local macro_rules | `(tactic| walk_at "s1") => `(tactic| (with_reducible apply c_raiseO))
local macro_rules | `(tactic| walk_at "s1") => `(tactic| first | (with_reducible apply c_dgetK))
local macro_rules | `(tactic| walk_at "s1") => `(tactic| (with_reducible apply c_raiseO))
local macro_rules | `(tactic| walk_at "s1") => `(tactic| first | (with_reducible apply c_un) | (with_reducible apply c_negI))
set_option pp.maxSteps 1500
def quoS (y : Str) : Str := PySem.Str.ofString "\"" ++ y ++ PySem.Str.ofString "\""
def itemS (ls : List Str) : Str := PySem.Str.ofString "[" ++ Txt.join (PySem.Str.ofString " ") (ls.map quoS) ++ PySem.Str.ofString "]"
def placeS (z : Str) : Str := if z = PySem.Str.ofString "" then PySem.Str.ofString "." else z
def Action.parts : Action → List Str
  | .read p => ["read", placeS p]
  | .kind p => ["kind", placeS p]
  | .list p => ["list", placeS p]
  | .find z u => ["find", placeS z, quoS u]
  | .count p => ["count", placeS p]
  | .write p ls => ["write", placeS p, itemS ls]
  | .remove p => ["remove", placeS p]
  | .move p t => ["move", placeS p, t]
  | .splice p o n => ["splice", placeS p, itemS o, itemS n]
def wrA (x : Action) : Str := PySem.Str.ofString "(" ++ Txt.join (PySem.Str.ofString " ") x.parts ++ PySem.Str.ofString ")\n"
theorem app_len (a b : Str) : (a ++ b).length = a.length + b.length := by
  show (a ++ b).cps.toList.length = a.cps.toList.length + b.cps.toList.length
  rw [cps_app, List.length_append]
theorem quoS_len (y : Str) : (quoS y).length = y.length + 2 := by
  unfold quoS
  rw [app_len, app_len, show (PySem.Str.ofString "\"").length = 1 from by decide +kernel]
  omega
theorem join_most {m : Nat} {s : Str} {ys : List Str} (h : ∀ y ∈ ys, y.length ≤ m) : (Txt.join s ys).length ≤ ys.length * m + ys.length * s.length := by
  rw [tjoin, ← join_len]
  have := sum_le h
  have : (ys.length - 1) * s.length ≤ ys.length * s.length := Nat.mul_le_mul_right _ (by omega)
  omega
theorem itemS_len {ls : List Str} (h : LsTx ls) : (itemS ls).length ≤ 300 := by
  unfold itemS
  have j := join_most (s := PySem.Str.ofString " ") (m := 22) (ys := ls.map quoS) fun y hy => by
    obtain ⟨z, hz, rfl⟩ := List.mem_map.mp hy
    rw [quoS_len]
    have := (h.tx z hz).len
    omega
  rw [List.length_map] at j
  have e1 : (PySem.Str.ofString " ").length = 1 := by decide +kernel
  have e2 : (PySem.Str.ofString "[").length = 1 := by decide +kernel
  have e3 : (PySem.Str.ofString "]").length = 1 := by decide +kernel
  rw [app_len, app_len, e2, e3]
  rw [e1] at j
  have := h.len
  omega
theorem placeS_len (z : Str) : (placeS z).length ≤ z.length + 1 := by
  unfold placeS
  split
  · have : (PySem.Str.ofString ".").length = 1 := by decide +kernel
    omega
  · omega
theorem words_len : ∀ z ∈ ([PySem.Str.ofString "read", "kind", "list", "find", "count", "write", "remove", "move", "splice"] : List Str), z.length ≤ 8002 := by decide +kernel
theorem parts_len {x : Action} (h : x.tx) : x.parts.length ≤ 4 ∧ ∀ y ∈ x.parts, y.length ≤ 8002 := by
  have wl := words_len
  simp only [List.mem_cons, List.not_mem_nil, or_false, forall_eq_or_imp, forall_eq] at wl
  obtain ⟨w1, w2, w3, w4, w5, w6, w7, w8, w9⟩ := wl
  have one : ∀ {p w : Str}, TxOk p 8000 → w.length ≤ 8002 → ∀ y ∈ [w, placeS p], y.length ≤ 8002 := fun {p w} hp hw y hy => by
    simp only [List.mem_cons, List.not_mem_nil, or_false] at hy
    rcases hy with rfl | rfl
    · exact hw
    · have := placeS_len p; have := hp.len; omega
  cases x with
  | read p => exact ⟨Nat.le_of_ble_eq_true rfl, one h w1⟩
  | kind p => exact ⟨Nat.le_of_ble_eq_true rfl, one h w2⟩
  | list p => exact ⟨Nat.le_of_ble_eq_true rfl, one h w3⟩
  | count p => exact ⟨Nat.le_of_ble_eq_true rfl, one h w5⟩
  | remove p => exact ⟨Nat.le_of_ble_eq_true rfl, one h w7⟩
  | find z u =>
    refine ⟨Nat.le_of_ble_eq_true rfl, fun y hy => ?_⟩
    have hy : y ∈ [PySem.Str.ofString "find", placeS z] ++ [quoS u] := hy
    rcases List.mem_append.mp hy with hy | hy
    · exact one h.1 w4 y hy
    · rw [List.mem_singleton] at hy; rw [hy, quoS_len]; have := h.2.len; omega
  | move z u =>
    refine ⟨Nat.le_of_ble_eq_true rfl, fun y hy => ?_⟩
    have hy : y ∈ [PySem.Str.ofString "move", placeS z] ++ [u] := hy
    rcases List.mem_append.mp hy with hy | hy
    · exact one h.1 w8 y hy
    · rw [List.mem_singleton] at hy; rw [hy]; have := h.2.len; omega
  | write z ls =>
    refine ⟨Nat.le_of_ble_eq_true rfl, fun y hy => ?_⟩
    have hy : y ∈ [PySem.Str.ofString "write", placeS z] ++ [itemS ls] := hy
    rcases List.mem_append.mp hy with hy | hy
    · exact one h.1 w6 y hy
    · rw [List.mem_singleton] at hy; rw [hy]; have := itemS_len h.2; omega
  | splice z o n =>
    refine ⟨Nat.le_of_ble_eq_true rfl, fun y hy => ?_⟩
    have hy : y ∈ [PySem.Str.ofString "splice", placeS z] ++ [itemS o, itemS n] := hy
    rcases List.mem_append.mp hy with hy | hy
    · exact one h.1 w9 y hy
    · simp only [List.mem_cons, List.not_mem_nil, or_false] at hy
      rcases hy with rfl | rfl
      · have := itemS_len h.2.1; omega
      · have := itemS_len h.2.2; omega
theorem c_extL {l b : Addr} {xs zs : List V} {H : Hp} {Q : VK} (h1 : H l = some (.lst xs)) (h2 : H b = some (.lst zs)) (hz : xs.length + zs.length ≤ sizeLine) (q : Q .non (upd H l (.lst (xs ++ zs)))) : rExtend (.ref l) [.ref b] H Q := ⟨l, b, xs, zs, rfl, rfl, h1, h2, hz, q⟩
theorem c_ifV {c : Prop} [Decidable c] {σ : St} {H : Hp} {Q : VK} {te : TE} {s : Str} (y : Str) (h : ∀ R : VK, R (.str y) H → te σ H R) (q : Q (.str (if c then s else y)) H) : if decide c = true then tC (.str s) σ H Q else te σ H Q := by
  by_cases hc : c
  · rw [if_pos (decide_eq_true hc)]
    rw [if_pos hc] at q
    exact q
  · rw [if_neg (by rw [decide_eq_true_eq]; exact hc)]
    rw [if_neg hc] at q
    exact h Q q
section
variable {P : Program} {w : World} {K : PySem.W.Frag} {mg : Str → Option Value} {base : Heap}
def spWrItem (K : PySem.W.Frag) : Sp := fun vs H Q _ => ∃ (a : Addr) (ls : List Str), vs = [.ref a] ∧ SqT K H a (ls.map V.str) ∧ LsTx ls ∧ ∀ H', Kp [] H H' → Q (.str (itemS ls)) H'
theorem sc__write_item : FnScope ["item", "line"] ["item"] (defScope s__write_item) := ⟨rfl, rfl, rfl, by decide +kernel, rfl, by decide +kernel, by decide +kernel⟩
theorem bn__write_item : BindN "_write_item" s__write_item ["item"] := fun _ _ _ _ _ _ us hl => match us, hl with | [_], _ => rfl
theorem b__write_item (T : TX K mg) : Body P w K mg base "_write_item" s__write_item ["item", "line"] 1 (spWrItem K) := by
  intro cdv A outer s H vs Q E h X hr
  obtain ⟨a, ls, rfl, ha, hl, q⟩ := h
  refine ⟨_, (pss_one (ps_ret (pe_op (op_addU (K := K)) (pe_op (op_addU (K := K)) pe_str (pe_joinU (K := K) pe_str (pe_lc (own := [("line", 1)]) rfl sc__write_item.nd (pi_tupU (K := K) (pv 0)) (blkOk_by (N := ["item", "line"]) (sc := defScope s__write_item) (by decide +kernel)) (fun _ _ _ _ _ => (pg_name (i := 1) sc__write_item.nd rfl (Or.inl rfl))) (fun _ _ _ _ _ => pts_nil) (fun _ _ _ _ _ => (pe_op (op_addU (K := K)) (pe_op (op_addU (K := K)) pe_str (pv 1)) pe_str))))) pe_str))), ?_⟩
  have lu := hl.len
  walk_at "st"
  refine lcT_map (fun y => .str (quoS y)) (fun _ => true) ha (by omega) (fun y H' R S hy e k1 k2 => ?_) (fun Dl H' hD e hacc => ?_)
  · have yl := (hl.tx y hy).len
    walk_at "st"
    refine ⟨rfl, ?_⟩
    walk_at "st"
    refine c_addS (by rw [sizeLine_eq, show (PySem.Str.ofString "\"").length = 1 from by decide +kernel]; omega) ?_
    walk_at "st"
    refine c_addS (by rw [sizeLine_eq, app_len, show (PySem.Str.ofString "\"").length = 1 from by decide +kernel]; omega) ?_
    exact k1 rfl _ Kp.refl
  · rw [List.filter_eq_self.mpr (fun _ _ => rfl)] at hacc
    walk_at "st"
    have jm := join_most (s := PySem.Str.ofString " ") (m := 22) (ys := ls.map quoS) fun y hy => by
      obtain ⟨z, hz, rfl⟩ := List.mem_map.mp hy
      rw [quoS_len]
      have := (hl.tx z hz).len
      omega
    have il := itemS_len hl
    unfold itemS at il
    rw [app_len, app_len] at il
    refine c_join (ys := ls.map quoS) (SqL.of (by rw [List.map_map]; exact hacc)) ?_ ?_
    · have := sum_le (m := 22) (ns := ls.map quoS) fun y hy => by
        obtain ⟨z, hz, rfl⟩ := List.mem_map.mp hy
        rw [quoS_len]
        have := (hl.tx z hz).len
        omega
      rw [List.length_map] at this ⊢
      have e1 : (PySem.Str.ofString " ").length = 1 := by decide +kernel
      rw [e1]
      omega
    walk_at "st"
    refine c_addS (by rw [sizeLine_eq]; omega) ?_
    walk_at "st"
    refine c_addS (by rw [sizeLine_eq, app_len]; omega) ?_
    exact q H' e
theorem D__write_item (T : TX K mg) : DefAt P w K mg base CX0 "_write_item" 2 ["item"] (spWrItem K) :=
  def_of T 2 7 sc__write_item bn__write_item (by walk_at "len") (b__write_item T)
def spWrAct (K : PySem.W.Frag) : Sp := fun vs H Q _ => ∃ (a : Addr) (x : Action), vs = [.ref a] ∧ ActAt K H a x ∧ x.tx ∧ ∀ H', Kp [] H H' → Q (.str (wrA x)) H'
theorem sc__write_action : FnScope ["action", "word", "parts", "item"] ["action"] (defScope s__write_action) := ⟨rfl, rfl, rfl, by decide +kernel, rfl, by decide +kernel, by decide +kernel⟩
theorem bn__write_action : BindN "_write_action" s__write_action ["action"] := fun _ _ _ _ _ _ us hl => match us, hl with | [_], _ => rfl
theorem b__write_action (T : TX K mg) : Body P w K mg base "_write_action" s__write_action ["action", "word", "parts", "item"] 2 (spWrAct K) := by
  intro cdv A outer s H vs Q E h X hr
  obtain ⟨a, x, rfl, ha, hx, q⟩ := h
  have D__write_item := D__write_item (P := P) (w := w) (base := base) T
  refine ⟨_, (pss_cons (ps_set (i := 1) sc__write_action.nd rfl (Or.inl rfl) (pe_ix (ix_U (K := K)) (pv 0) pe_int (fun _ _ => rfl))) (pss_cons (ps_set (i := 2) sc__write_action.nd rfl (Or.inl rfl) (pe_lst (pa_cons (pv 1) (pa_cons (pe_ifExp (pt_cmpR (op_eqU (K := K) hr.units) (pe_ix (ix_U (K := K)) (pv 0) pe_int (fun _ _ => rfl)) pe_str (nomark _)) (pe_gStr (T.str 8)) (pe_ix (ix_U (K := K)) (pv 0) pe_int (fun _ _ => rfl))) pa_nil)))) (pss_cons (ps_if (pt_cmpR (op_eqU (K := K) hr.units) (pv 1) pe_str (nomark _)) (pss_one (ps_expr (pe_appendU (K := K) (pv 2) (pe_op (op_addU (K := K)) (pe_op (op_addU (K := K)) pe_str (pe_ix (ix_U (K := K)) (pv 0) pe_int (fun _ _ => rfl))) pe_str)))) (pss_one (ps_if (pt_cmpR (op_eqU (K := K) hr.units) (pv 1) pe_str (nomark _)) (pss_one (ps_expr (pe_appendU (K := K) (pv 2) (pe_ix (ix_U (K := K)) (pv 0) pe_int (fun _ _ => rfl))))) (pss_one (ps_expr (pe_extendU (K := K) (pv 2) (pe_lc (own := [("item", 3)]) rfl sc__write_action.nd (pi_tupU (K := K) (pe_slice (sl_U (K := K)) (pv 0) (po_some pe_int) po_none)) (blkOk_by (N := ["action", "word", "parts", "item"]) (sc := defScope s__write_action) (by decide +kernel)) (fun _ _ _ _ _ => (pg_name (i := 3) sc__write_action.nd rfl (Or.inl rfl))) (fun _ _ _ _ _ => pts_nil) (fun _ _ _ _ _ => (pe_callA D__write_item hr pass0 (pa_cons (pv 3) pa_nil)))))))))) (pss_one (ps_ret (pe_op (op_addU (K := K)) (pe_op (op_addU (K := K)) pe_str (pe_joinU (K := K) pe_str (pv 2))) pe_str)))))), ?_⟩
  obtain ⟨pl, pm⟩ := parts_len hx
  have fin : ∀ {H1 : Hp} {l : Addr} {Q1 : VK}, Kp [] H H1 → H1 l = some (.lst (x.parts.map V.str)) → (∀ z : Str, z.length ≤ 40000 → wrA x = PySem.Str.ofString "(" ++ z ++ PySem.Str.ofString ")\n" → Q1 (.str z) H1) → rJoin K (.str (PySem.Str.ofString " ")) [.ref l] H1 Q1 := fun {H1 l Q1} e1 hl h => by
    have e1 : (PySem.Str.ofString " ").length = 1 := by decide +kernel
    refine c_join (ys := x.parts) (SqL.of hl) ?_ (h _ ?_ rfl)
    · have := sum_le (m := 8002) pm
      have : x.parts.length * 8002 ≤ 4 * 8002 := Nat.mul_le_mul_right _ pl
      rw [e1]
      omega
    · have j := join_most (s := PySem.Str.ofString " ") (m := 8002) pm
      have : x.parts.length * 8002 ≤ 4 * 8002 := Nat.mul_le_mul_right _ pl
      rw [e1] at j
      omega
  cases x with
  | read p =>
    walk_at "st"
    refine c_ifV p (fun R r => ?_) ?_
    · walk_at "st"
      exact r
    walk_at "st"
    walk_at "nw"
    intro l H1 N1
    have h1 := N1.at_
    have ha := SqT.kp N1.kp ha
    walk_at "dc"
    refine c_slT ha fun pe H2 e2 he => ?_
    have he : SqT K H2 pe ((([]) : List (Addr × List Str)).map fun z => V.ref z.1) := he
    have h2 := e2.at0 h1
    walk_at "st"
    refine lcT_map (u := fun z : Addr × List Str => V.ref z.1) (fun z => .str (itemS z.2)) (fun _ => true) he (by simp) (fun z H' R S hz e k1 k2 => ?_) (fun Dl H3 hD e hacc => ?_)
    · exact absurd hz (by simp)
    rw [List.filter_eq_self.mpr (fun _ _ => rfl)] at hacc
    have h3 := e.at0 h2
    have ne : Dl ≠ l := fun z => by rw [z, h2] at hD; cases hD
    walk_at "st"
    refine c_extL h3 hacc (by rw [sizeLine_eq]; exact Nat.le_of_ble_eq_true rfl) ?_
    have h4 : upd H3 l (.lst ([.str "read", .str (placeS p)] ++ [])) l = some (.lst ([.str "read", .str (placeS p)] ++ [])) := upd_same
    have k4 : Kp [] H (upd H3 l (.lst ([.str "read", .str (placeS p)] ++ []))) := (((N1.kp (ms := [])).trans e2).trans e).fresh_mut N1.fr
    walk_at "st"
    refine fin k4 h4 fun z hz ez => ?_
    walk_at "st"
    refine c_addS (by rw [sizeLine_eq, show (PySem.Str.ofString "(").length = 1 from by decide +kernel]; omega) ?_
    walk_at "st"
    refine c_addS (by rw [sizeLine_eq, app_len, show (PySem.Str.ofString "(").length = 1 from by decide +kernel, show (PySem.Str.ofString ")\n").length = 2 from by decide +kernel]; omega) ?_
    rw [← ez]
    exact q _ k4
  | kind p =>
    walk_at "st"
    refine c_ifV p (fun R r => ?_) ?_
    · walk_at "st"
      exact r
    walk_at "st"
    walk_at "nw"
    intro l H1 N1
    have h1 := N1.at_
    have ha := SqT.kp N1.kp ha
    walk_at "dc"
    refine c_slT ha fun pe H2 e2 he => ?_
    have he : SqT K H2 pe ((([]) : List (Addr × List Str)).map fun z => V.ref z.1) := he
    have h2 := e2.at0 h1
    walk_at "st"
    refine lcT_map (u := fun z : Addr × List Str => V.ref z.1) (fun z => .str (itemS z.2)) (fun _ => true) he (by simp) (fun z H' R S hz e k1 k2 => ?_) (fun Dl H3 hD e hacc => ?_)
    · exact absurd hz (by simp)
    rw [List.filter_eq_self.mpr (fun _ _ => rfl)] at hacc
    have h3 := e.at0 h2
    have ne : Dl ≠ l := fun z => by rw [z, h2] at hD; cases hD
    walk_at "st"
    refine c_extL h3 hacc (by rw [sizeLine_eq]; exact Nat.le_of_ble_eq_true rfl) ?_
    have h4 : upd H3 l (.lst ([.str "kind", .str (placeS p)] ++ [])) l = some (.lst ([.str "kind", .str (placeS p)] ++ [])) := upd_same
    have k4 : Kp [] H (upd H3 l (.lst ([.str "kind", .str (placeS p)] ++ []))) := (((N1.kp (ms := [])).trans e2).trans e).fresh_mut N1.fr
    walk_at "st"
    refine fin k4 h4 fun z hz ez => ?_
    walk_at "st"
    refine c_addS (by rw [sizeLine_eq, show (PySem.Str.ofString "(").length = 1 from by decide +kernel]; omega) ?_
    walk_at "st"
    refine c_addS (by rw [sizeLine_eq, app_len, show (PySem.Str.ofString "(").length = 1 from by decide +kernel, show (PySem.Str.ofString ")\n").length = 2 from by decide +kernel]; omega) ?_
    rw [← ez]
    exact q _ k4
  | list p =>
    walk_at "st"
    refine c_ifV p (fun R r => ?_) ?_
    · walk_at "st"
      exact r
    walk_at "st"
    walk_at "nw"
    intro l H1 N1
    have h1 := N1.at_
    have ha := SqT.kp N1.kp ha
    walk_at "dc"
    refine c_slT ha fun pe H2 e2 he => ?_
    have he : SqT K H2 pe ((([]) : List (Addr × List Str)).map fun z => V.ref z.1) := he
    have h2 := e2.at0 h1
    walk_at "st"
    refine lcT_map (u := fun z : Addr × List Str => V.ref z.1) (fun z => .str (itemS z.2)) (fun _ => true) he (by simp) (fun z H' R S hz e k1 k2 => ?_) (fun Dl H3 hD e hacc => ?_)
    · exact absurd hz (by simp)
    rw [List.filter_eq_self.mpr (fun _ _ => rfl)] at hacc
    have h3 := e.at0 h2
    have ne : Dl ≠ l := fun z => by rw [z, h2] at hD; cases hD
    walk_at "st"
    refine c_extL h3 hacc (by rw [sizeLine_eq]; exact Nat.le_of_ble_eq_true rfl) ?_
    have h4 : upd H3 l (.lst ([.str "list", .str (placeS p)] ++ [])) l = some (.lst ([.str "list", .str (placeS p)] ++ [])) := upd_same
    have k4 : Kp [] H (upd H3 l (.lst ([.str "list", .str (placeS p)] ++ []))) := (((N1.kp (ms := [])).trans e2).trans e).fresh_mut N1.fr
    walk_at "st"
    refine fin k4 h4 fun z hz ez => ?_
    walk_at "st"
    refine c_addS (by rw [sizeLine_eq, show (PySem.Str.ofString "(").length = 1 from by decide +kernel]; omega) ?_
    walk_at "st"
    refine c_addS (by rw [sizeLine_eq, app_len, show (PySem.Str.ofString "(").length = 1 from by decide +kernel, show (PySem.Str.ofString ")\n").length = 2 from by decide +kernel]; omega) ?_
    rw [← ez]
    exact q _ k4
  | find p u =>
    walk_at "st"
    refine c_ifV p (fun R r => ?_) ?_
    · walk_at "st"
      exact r
    walk_at "st"
    walk_at "nw"
    intro l H1 N1
    have h1 := N1.at_
    have ha := SqT.kp N1.kp ha
    walk_at "dc"
    have ul := hx.2.len
    refine c_addS (by rw [sizeLine_eq, show (PySem.Str.ofString "\"").length = 1 from by decide +kernel]; omega) ?_
    walk_at "st"
    refine c_addS (by rw [sizeLine_eq, app_len, show (PySem.Str.ofString "\"").length = 1 from by decide +kernel]; omega) ?_
    walk_at "st"
    have h4 : upd H1 l (.lst ([.str "find", .str (placeS p)] ++ [.str (quoS u)])) l = some (.lst ([.str "find", .str (placeS p)] ++ [.str (quoS u)])) := upd_same
    have k4 : Kp [] H (upd H1 l (.lst ([.str "find", .str (placeS p)] ++ [.str (quoS u)]))) := (N1.kp (ms := [])).fresh_mut N1.fr
    walk_at "st"
    refine fin k4 h4 fun z hz ez => ?_
    walk_at "st"
    refine c_addS (by rw [sizeLine_eq, show (PySem.Str.ofString "(").length = 1 from by decide +kernel]; omega) ?_
    walk_at "st"
    refine c_addS (by rw [sizeLine_eq, app_len, show (PySem.Str.ofString "(").length = 1 from by decide +kernel, show (PySem.Str.ofString ")\n").length = 2 from by decide +kernel]; omega) ?_
    rw [← ez]
    exact q _ k4
  | count p =>
    walk_at "st"
    refine c_ifV p (fun R r => ?_) ?_
    · walk_at "st"
      exact r
    walk_at "st"
    walk_at "nw"
    intro l H1 N1
    have h1 := N1.at_
    have ha := SqT.kp N1.kp ha
    walk_at "dc"
    refine c_slT ha fun pe H2 e2 he => ?_
    have he : SqT K H2 pe ((([]) : List (Addr × List Str)).map fun z => V.ref z.1) := he
    have h2 := e2.at0 h1
    walk_at "st"
    refine lcT_map (u := fun z : Addr × List Str => V.ref z.1) (fun z => .str (itemS z.2)) (fun _ => true) he (by simp) (fun z H' R S hz e k1 k2 => ?_) (fun Dl H3 hD e hacc => ?_)
    · exact absurd hz (by simp)
    rw [List.filter_eq_self.mpr (fun _ _ => rfl)] at hacc
    have h3 := e.at0 h2
    have ne : Dl ≠ l := fun z => by rw [z, h2] at hD; cases hD
    walk_at "st"
    refine c_extL h3 hacc (by rw [sizeLine_eq]; exact Nat.le_of_ble_eq_true rfl) ?_
    have h4 : upd H3 l (.lst ([.str "count", .str (placeS p)] ++ [])) l = some (.lst ([.str "count", .str (placeS p)] ++ [])) := upd_same
    have k4 : Kp [] H (upd H3 l (.lst ([.str "count", .str (placeS p)] ++ []))) := (((N1.kp (ms := [])).trans e2).trans e).fresh_mut N1.fr
    walk_at "st"
    refine fin k4 h4 fun z hz ez => ?_
    walk_at "st"
    refine c_addS (by rw [sizeLine_eq, show (PySem.Str.ofString "(").length = 1 from by decide +kernel]; omega) ?_
    walk_at "st"
    refine c_addS (by rw [sizeLine_eq, app_len, show (PySem.Str.ofString "(").length = 1 from by decide +kernel, show (PySem.Str.ofString ")\n").length = 2 from by decide +kernel]; omega) ?_
    rw [← ez]
    exact q _ k4
  | write p ls =>
    obtain ⟨la, ha, hla⟩ := ha
    walk_at "st"
    refine c_ifV p (fun R r => ?_) ?_
    · walk_at "st"
      exact r
    walk_at "st"
    walk_at "nw"
    intro l H1 N1
    have h1 := N1.at_
    have ha := SqT.kp N1.kp ha
    walk_at "dc"
    refine c_slT ha fun pe H2 e2 he => ?_
    have he : SqT K H2 pe ((([(la, ls)]) : List (Addr × List Str)).map fun z => V.ref z.1) := he
    have h2 := e2.at0 h1
    walk_at "st"
    refine lcT_map (u := fun z : Addr × List Str => V.ref z.1) (fun z => .str (itemS z.2)) (fun _ => true) he (by simp) (fun z H' R S hz e k1 k2 => ?_) (fun Dl H3 hD e hacc => ?_)
    · walk_at "st"
      refine ⟨rfl, ?_⟩
      walk_at "st"
      refine ⟨z.1, z.2, rfl, ?_, ?_, fun H4 e4 => k1 rfl _ e4⟩
      · simp only [List.mem_cons, List.not_mem_nil, or_false] at hz
        subst hz; exact SqT.kp e (SqT.kp e2 (SqT.kp N1.kp hla))
      · simp only [List.mem_cons, List.not_mem_nil, or_false] at hz
        subst hz; exact hx.2
    rw [List.filter_eq_self.mpr (fun _ _ => rfl)] at hacc
    have h3 := e.at0 h2
    have ne : Dl ≠ l := fun z => by rw [z, h2] at hD; cases hD
    walk_at "st"
    refine c_extL h3 hacc (by rw [sizeLine_eq]; exact Nat.le_of_ble_eq_true rfl) ?_
    have h4 : upd H3 l (.lst ([.str "write", .str (placeS p)] ++ [.str (itemS ls)])) l = some (.lst ([.str "write", .str (placeS p)] ++ [.str (itemS ls)])) := upd_same
    have k4 : Kp [] H (upd H3 l (.lst ([.str "write", .str (placeS p)] ++ [.str (itemS ls)]))) := (((N1.kp (ms := [])).trans e2).trans e).fresh_mut N1.fr
    walk_at "st"
    refine fin k4 h4 fun z hz ez => ?_
    walk_at "st"
    refine c_addS (by rw [sizeLine_eq, show (PySem.Str.ofString "(").length = 1 from by decide +kernel]; omega) ?_
    walk_at "st"
    refine c_addS (by rw [sizeLine_eq, app_len, show (PySem.Str.ofString "(").length = 1 from by decide +kernel, show (PySem.Str.ofString ")\n").length = 2 from by decide +kernel]; omega) ?_
    rw [← ez]
    exact q _ k4
  | remove p =>
    walk_at "st"
    refine c_ifV p (fun R r => ?_) ?_
    · walk_at "st"
      exact r
    walk_at "st"
    walk_at "nw"
    intro l H1 N1
    have h1 := N1.at_
    have ha := SqT.kp N1.kp ha
    walk_at "dc"
    refine c_slT ha fun pe H2 e2 he => ?_
    have he : SqT K H2 pe ((([]) : List (Addr × List Str)).map fun z => V.ref z.1) := he
    have h2 := e2.at0 h1
    walk_at "st"
    refine lcT_map (u := fun z : Addr × List Str => V.ref z.1) (fun z => .str (itemS z.2)) (fun _ => true) he (by simp) (fun z H' R S hz e k1 k2 => ?_) (fun Dl H3 hD e hacc => ?_)
    · exact absurd hz (by simp)
    rw [List.filter_eq_self.mpr (fun _ _ => rfl)] at hacc
    have h3 := e.at0 h2
    have ne : Dl ≠ l := fun z => by rw [z, h2] at hD; cases hD
    walk_at "st"
    refine c_extL h3 hacc (by rw [sizeLine_eq]; exact Nat.le_of_ble_eq_true rfl) ?_
    have h4 : upd H3 l (.lst ([.str "remove", .str (placeS p)] ++ [])) l = some (.lst ([.str "remove", .str (placeS p)] ++ [])) := upd_same
    have k4 : Kp [] H (upd H3 l (.lst ([.str "remove", .str (placeS p)] ++ []))) := (((N1.kp (ms := [])).trans e2).trans e).fresh_mut N1.fr
    walk_at "st"
    refine fin k4 h4 fun z hz ez => ?_
    walk_at "st"
    refine c_addS (by rw [sizeLine_eq, show (PySem.Str.ofString "(").length = 1 from by decide +kernel]; omega) ?_
    walk_at "st"
    refine c_addS (by rw [sizeLine_eq, app_len, show (PySem.Str.ofString "(").length = 1 from by decide +kernel, show (PySem.Str.ofString ")\n").length = 2 from by decide +kernel]; omega) ?_
    rw [← ez]
    exact q _ k4
  | move p u =>
    walk_at "st"
    refine c_ifV p (fun R r => ?_) ?_
    · walk_at "st"
      exact r
    walk_at "st"
    walk_at "nw"
    intro l H1 N1
    have h1 := N1.at_
    have ha := SqT.kp N1.kp ha
    walk_at "dc"
    have h4 : upd H1 l (.lst ([.str "move", .str (placeS p)] ++ [.str u])) l = some (.lst ([.str "move", .str (placeS p)] ++ [.str u])) := upd_same
    have k4 : Kp [] H (upd H1 l (.lst ([.str "move", .str (placeS p)] ++ [.str u]))) := (N1.kp (ms := [])).fresh_mut N1.fr
    walk_at "st"
    refine fin k4 h4 fun z hz ez => ?_
    walk_at "st"
    refine c_addS (by rw [sizeLine_eq, show (PySem.Str.ofString "(").length = 1 from by decide +kernel]; omega) ?_
    walk_at "st"
    refine c_addS (by rw [sizeLine_eq, app_len, show (PySem.Str.ofString "(").length = 1 from by decide +kernel, show (PySem.Str.ofString ")\n").length = 2 from by decide +kernel]; omega) ?_
    rw [← ez]
    exact q _ k4
  | splice p o n =>
    obtain ⟨la, lb, ha, hla, hlb⟩ := ha
    walk_at "st"
    refine c_ifV p (fun R r => ?_) ?_
    · walk_at "st"
      exact r
    walk_at "st"
    walk_at "nw"
    intro l H1 N1
    have h1 := N1.at_
    have ha := SqT.kp N1.kp ha
    walk_at "dc"
    refine c_slT ha fun pe H2 e2 he => ?_
    have he : SqT K H2 pe ((([(la, o), (lb, n)]) : List (Addr × List Str)).map fun z => V.ref z.1) := he
    have h2 := e2.at0 h1
    walk_at "st"
    refine lcT_map (u := fun z : Addr × List Str => V.ref z.1) (fun z => .str (itemS z.2)) (fun _ => true) he (by simp) (fun z H' R S hz e k1 k2 => ?_) (fun Dl H3 hD e hacc => ?_)
    · walk_at "st"
      refine ⟨rfl, ?_⟩
      walk_at "st"
      refine ⟨z.1, z.2, rfl, ?_, ?_, fun H4 e4 => k1 rfl _ e4⟩
      · simp only [List.mem_cons, List.not_mem_nil, or_false] at hz
        rcases hz with rfl | rfl
        · exact SqT.kp e (SqT.kp e2 (SqT.kp N1.kp hla))
        · exact SqT.kp e (SqT.kp e2 (SqT.kp N1.kp hlb))
      · simp only [List.mem_cons, List.not_mem_nil, or_false] at hz
        rcases hz with rfl | rfl
        · exact hx.2.1
        · exact hx.2.2
    rw [List.filter_eq_self.mpr (fun _ _ => rfl)] at hacc
    have h3 := e.at0 h2
    have ne : Dl ≠ l := fun z => by rw [z, h2] at hD; cases hD
    walk_at "st"
    refine c_extL h3 hacc (by rw [sizeLine_eq]; exact Nat.le_of_ble_eq_true rfl) ?_
    have h4 : upd H3 l (.lst ([.str "splice", .str (placeS p)] ++ [.str (itemS o), .str (itemS n)])) l = some (.lst ([.str "splice", .str (placeS p)] ++ [.str (itemS o), .str (itemS n)])) := upd_same
    have k4 : Kp [] H (upd H3 l (.lst ([.str "splice", .str (placeS p)] ++ [.str (itemS o), .str (itemS n)]))) := (((N1.kp (ms := [])).trans e2).trans e).fresh_mut N1.fr
    walk_at "st"
    refine fin k4 h4 fun z hz ez => ?_
    walk_at "st"
    refine c_addS (by rw [sizeLine_eq, show (PySem.Str.ofString "(").length = 1 from by decide +kernel]; omega) ?_
    walk_at "st"
    refine c_addS (by rw [sizeLine_eq, app_len, show (PySem.Str.ofString "(").length = 1 from by decide +kernel, show (PySem.Str.ofString ")\n").length = 2 from by decide +kernel]; omega) ?_
    rw [← ez]
    exact q _ k4
theorem D__write_action (T : TX K mg) : DefAt P w K mg base CX0 "_write_action" 3 ["action"] (spWrAct K) :=
  def_of T 3 9 sc__write_action bn__write_action (by walk_at "len") (b__write_action T)
end
end K06



namespace K06
open PySem L2 Sa
local macro_rules | `(tactic| walk_at "s1") => `(tactic| first | (with_reducible apply c_dgetK))
local macro_rules | `(tactic| walk_at "s1") => `(tactic| (with_reducible apply c_raiseO))
local macro_rules | `(tactic| walk_at "s1") => `(tactic| first | (with_reducible apply c_dgetK))
local macro_rules | `(tactic| walk_at "s1") => `(tactic| (with_reducible apply c_raiseO))
local macro_rules | `(tactic| walk_at "s1") => `(tactic| first | (with_reducible apply c_un) | (with_reducible apply c_negI))
set_option pp.maxSteps 1500
section
variable {P : Program} {w : World} {K : PySem.W.Frag} {mg : Str → Option Value} {base : Heap}
def wrAs (acts : List Action) : Str := Txt.join (PySem.Str.ofString "") (acts.map wrA)
theorem zip_dt {H : Hp} : ∀ {xs : List V} {acts : List Action}, DtAll K H xs (acts.map Action.d) → ∀ p ∈ xs.zip acts, Dt K H p.1 p.2.d
  | [], [], _ => fun p hp => by cases hp
  | [], x :: r, h => by have := dta_len h; simp at this
  | v :: xs, [], h => by have := dta_len h; simp at this
  | v :: xs, x :: r, h => fun p hp => by
    obtain ⟨v', vs, e1, h1, h2⟩ := dta_cons h
    injection e1 with e1 e2
    subst e1; subst e2
    rcases List.mem_cons.mp hp with rfl | hp
    · exact h1
    · exact zip_dt h2 p hp
def spWrActs (K : PySem.W.Frag) : Sp := fun vs H Q _ => ∃ (a : Addr) (xs : List V) (acts : List Action), vs = [.ref a] ∧ SqT K H a xs ∧ DtAll K H xs (acts.map Action.d) ∧ (∀ x ∈ acts, x.tx) ∧ ((acts.map wrA).map (·.length)).sum ≤ 1000000 ∧ acts.length ≤ 10000 ∧
  ∀ H', Kp [] H H' → Q (.str (wrAs acts)) H'
theorem sc_write_actions : FnScope ["actions", "action"] ["actions"] (defScope s_write_actions) := ⟨rfl, rfl, rfl, by decide +kernel, rfl, by decide +kernel, by decide +kernel⟩
theorem bn_write_actions : BindN "write_actions" s_write_actions ["actions"] := fun _ _ _ _ _ _ us hl => match us, hl with | [_], _ => rfl
theorem b_write_actions (T : TX K mg) : Body P w K mg base "write_actions" s_write_actions ["actions", "action"] 3 (spWrActs K) := by
  intro cdv A outer s H vs Q E h X hr
  obtain ⟨a, xs, acts, rfl, ha, hd, htx, hs, hn, q⟩ := h
  have D__write_action := D__write_action (P := P) (w := w) (base := base) T
  refine ⟨_, (pss_one (ps_ret (pe_joinU (K := K) pe_str (pe_lc (own := [("action", 1)]) rfl sc_write_actions.nd (pi_tupU (K := K) (pv 0)) (blkOk_by (N := ["actions", "action"]) (sc := defScope s_write_actions) (by decide +kernel)) (fun _ _ _ _ _ => (pg_name (i := 1) sc_write_actions.nd rfl (Or.inl rfl))) (fun _ _ _ _ _ => pts_nil) (fun _ _ _ _ _ => (pe_callA D__write_action hr pass0 (pa_cons (pv 1) pa_nil))))))), ?_⟩
  have xl : xs.length = acts.length := by rw [dta_len hd, List.length_map]
  have em : (xs.zip acts).map Prod.fst = xs := List.map_fst_zip (by omega)
  have em2 : (xs.zip acts).map Prod.snd = acts := List.map_snd_zip (by omega)
  have ha' : SqT K H a ((xs.zip acts).map fun z => z.1) := by rw [show ((xs.zip acts).map fun z => z.1) = xs from em]; exact ha
  walk_at "st"
  refine lcT_map (u := fun z : V × Action => z.1) (fun z => .str (wrA z.2)) (fun _ => true) ha' (by rw [List.length_zip]; omega) (fun z H' R S hz e k1 k2 => ?_) (fun Dl H3 hD e hacc => ?_)
  · obtain ⟨b, eb, hb⟩ := ActAt.of (zip_dt hd z hz)
    walk_at "st"
    refine ⟨rfl, ?_⟩
    rw [eb]
    walk_at "st"
    exact ⟨b, z.2, rfl, hb.kp e, htx _ (by rw [← em2]; exact List.mem_map_of_mem hz), fun H4 e4 => k1 rfl _ e4⟩
  · rw [List.filter_eq_self.mpr (fun _ _ => rfl)] at hacc
    have e3 : ((xs.zip acts).map fun z => V.str (wrA z.2)) = (acts.map wrA).map V.str := by
      rw [show ((xs.zip acts).map fun z => V.str (wrA z.2)) = (((xs.zip acts).map Prod.snd).map wrA).map V.str from by rw [List.map_map, List.map_map]; rfl, em2]
    rw [e3] at hacc
    walk_at "st"
    refine c_join (ys := acts.map wrA) (SqL.of hacc) ?_ ?_
    · have e1 : (PySem.Str.ofString "").length = 0 := by decide +kernel
      rw [e1]
      omega
    walk_at "st"
    exact q H3 e
theorem D_write_actions (T : TX K mg) : DefAt P w K mg base CX0 "write_actions" 4 ["actions"] (spWrActs K) :=
  def_of T 4 10 sc_write_actions bn_write_actions (by walk_at "len") (b_write_actions T)
end
end K06



namespace K06
open PySem L2 Sa
abbrev KT := Str × Str
def Tok.k (t : Tok) : KT := (t.kind, t.text)
inductive Mo where
  | nrm | wd (w : List Nat) | quo (q : List Nat)
def Md.no : Md → Mo
  | .nrm => .nrm
  | .wd w _ _ => .wd w
  | .quo q _ _ => .quo q
def wordK (w : List Nat) : KT := (PySem.Str.ofString "word", txt w)
def quoK (q : List Nat) : KT := (PySem.Str.ofString "quoted", txt q)
def signK (x : Nat) : KT := (PySem.Str.ofString "sign", txt [x])
def endK : KT := (PySem.Str.ofString "end", PySem.Str.ofString "")
def freshK (x : Nat) : List KT × Mo :=
  if x = 10 then ([], .nrm) else if x = 34 then ([], .quo []) else if x ∈ signsL then ([signK x], .nrm) else if x = 32 then ([], .nrm) else ([], .wd [x])
def stepK (m : Mo) (x : Nat) : Option (List KT × Mo) := match m with
  | .nrm => some (freshK x)
  | .wd w => if x ∈ endsL then some (wordK w :: (freshK x).1, (freshK x).2) else some ([], .wd (w ++ [x]))
  | .quo q => if x = 34 then some ([quoK q], .nrm) else if x = 10 then none else some ([], .quo (q ++ [x]))
def lastK : Mo → Option (List KT)
  | .nrm => some [endK]
  | .wd w => some [wordK w, endK]
  | .quo _ => none
def lx : Mo → List Nat → Option (List KT)
  | m, [] => lastK m
  | m, x :: r => match stepK m x with
    | none => none
    | some (es, m') => (lx m' r).map (es ++ ·)
theorem lx_step {m m' : Mo} {x : Nat} {r : List Nat} {es : List KT} (e : stepK m x = some (es, m')) : lx m (x :: r) = (lx m' r).map (es ++ ·) := by rw [lx, e]
theorem lx_none {m : Mo} {x : Nat} {r : List Nat} (e : stepK m x = none) : lx m (x :: r) = none := by rw [lx, e]
theorem mapk_nil (e : Option (List KT)) : e.map (([] : List KT) ++ ·) = e := by cases e <;> rfl
theorem mapk_app (e : Option (List KT)) (a b : List KT) : (e.map (b ++ ·)).map (a ++ ·) = e.map ((a ++ b) ++ ·) := by
  cases e with
  | none => rfl
  | some ts => show some (a ++ (b ++ ts)) = some ((a ++ b) ++ ts); rw [List.append_assoc]
theorem fresh_k (x : Nat) (l c : Int) : ((fresh x l c).1.map Tok.k, (fresh x l c).2.no) = freshK x := by
  unfold fresh freshK
  split
  · rfl
  split
  · rfl
  split
  · rfl
  split <;> rfl
theorem step_k (m : Md) (x : Nat) (l c : Int) : (stepM m x l c).map (fun p => (p.1.map Tok.k, p.2.no)) = stepK m.no x := by
  cases m with
  | nrm => exact congrArg some (fresh_k x l c)
  | wd w l0 c0 =>
    have f := fresh_k x l c
    simp only [stepM, stepK, Md.no]
    split
    · show some (wordK w :: (fresh x l c).1.map Tok.k, (fresh x l c).2.no) = _
      rw [← f]
    · rfl
  | quo q l0 c0 =>
    simp only [stepM, stepK, Md.no]
    split
    · rfl
    split <;> rfl
theorem spl_lx : ∀ {r : List Nat} {m : Md} {l c : Int} {ks : List KT}, lx m.no r = some ks → ∃ ts, spl m r l c = .ok ts ∧ ts.map Tok.k = ks
  | [], m, l, c, ks, h => by
    have h : lastK m.no = some ks := h
    cases m with
    | nrm => injection h with h; exact ⟨_, rfl, h⟩
    | wd w l0 c0 => injection h with h; exact ⟨_, rfl, h⟩
    | quo q l0 c0 => cases h
  | x :: r, m, l, c, ks, h => by
    have s := step_k m x l c
    cases e : stepM m x l c with
    | none => rw [e] at s; rw [lx_none s.symm] at h; cases h
    | some p =>
      obtain ⟨es, m'⟩ := p
      rw [e] at s
      rw [lx_step s.symm] at h
      cases e2 : lx m'.no r with
      | none => rw [e2] at h; cases h
      | some us =>
        rw [e2] at h
        injection h with h
        obtain ⟨ts, h1, h2⟩ := spl_lx (l := nxL x l) (c := nxC x c) e2
        refine ⟨es ++ ts, by rw [spl_step e, h1]; rfl, ?_⟩
        rw [List.map_append, h2]
        exact h
theorem lx_nl {r : List Nat} : lx .nrm (10 :: r) = lx .nrm r := by rw [lx_step (m' := .nrm) (es := []) rfl, mapk_nil]
theorem lx_sp {r : List Nat} : lx .nrm (32 :: r) = lx .nrm r := by 
  have e : stepK .nrm 32 = some ([], .nrm) := by
    show some (freshK 32) = _
    unfold freshK
    rw [if_neg (by decide), if_neg (by decide), if_neg (by decide +kernel), if_pos rfl]
  rw [lx_step e, mapk_nil]
theorem lx_sg {x : Nat} {r : List Nat} (h : x ∈ signsL) : lx .nrm (x :: r) = (lx .nrm r).map ([signK x] ++ ·) := by
  obtain ⟨h1, h2, h3⟩ := signs_ne h
  refine lx_step ?_
  show some (freshK x) = _
  unfold freshK
  rw [if_neg h1, if_neg h2, if_pos h]
theorem lx_q0 {r : List Nat} : lx .nrm (34 :: r) = lx (.quo []) r := by rw [lx_step (m' := .quo []) (es := []) rfl, mapk_nil]
theorem lx_w0 {x : Nat} {r : List Nat} (h : x ∉ endsL) : lx .nrm (x :: r) = lx (.wd [x]) r := by
  have h' := h
  rw [ends_iff] at h'
  simp only [not_or] at h'
  obtain ⟨h1, h2, h3, h4⟩ := h'
  have e : stepK .nrm x = some ([], .wd [x]) := by
    show some (freshK x) = _
    unfold freshK
    rw [if_neg h2, if_neg h3, if_neg h4, if_neg h1]
  rw [lx_step e, mapk_nil]
theorem lx_w1 {w : List Nat} {x : Nat} {r : List Nat} (h : x ∉ endsL) : lx (.wd w) (x :: r) = lx (.wd (w ++ [x])) r := by
  have e : stepK (.wd w) x = some ([], .wd (w ++ [x])) := by
    show (if x ∈ endsL then _ else _) = _
    rw [if_neg h]
  rw [lx_step e, mapk_nil]
theorem lx_w2 {w : List Nat} {x : Nat} {r : List Nat} (h : x ∈ endsL) : lx (.wd w) (x :: r) = (lx .nrm (x :: r)).map ([wordK w] ++ ·) := by
  have e : stepK (.wd w) x = some (wordK w :: (freshK x).1, (freshK x).2) := by
    show (if x ∈ endsL then _ else _) = _
    rw [if_pos h]
  rw [lx_step e, lx_step (m := .nrm) (m' := (freshK x).2) (es := (freshK x).1) rfl, mapk_app]
  rfl
theorem lx_q1 {q : List Nat} {x : Nat} {r : List Nat} (h1 : x ≠ 34) (h2 : x ≠ 10) : lx (.quo q) (x :: r) = lx (.quo (q ++ [x])) r := by
  have e : stepK (.quo q) x = some ([], .quo (q ++ [x])) := by
    show (if x = 34 then _ else if x = 10 then _ else _) = _
    rw [if_neg h1, if_neg h2]
  rw [lx_step e, mapk_nil]
theorem lx_q2 {q : List Nat} {r : List Nat} : lx (.quo q) (34 :: r) = (lx .nrm r).map ([quoK q] ++ ·) := lx_step rfl
theorem lx_q3 {q : List Nat} {r : List Nat} : lx (.quo q) (10 :: r) = none := lx_none rfl
theorem lx_word : ∀ {w2 w : List Nat} {x : Nat} {r : List Nat}, (∀ y ∈ w2, y ∉ endsL) → x ∈ endsL → lx (.wd w) (w2 ++ x :: r) = (lx .nrm (x :: r)).map ([wordK (w ++ w2)] ++ ·)
  | [], w, x, r, _, hx => by rw [List.nil_append, List.append_nil]; exact lx_w2 hx
  | y :: w2, w, x, r, h, hx => by
    rw [List.cons_append, lx_w1 (h y (List.mem_cons_self ..)), lx_word (fun z hz => h z (List.mem_cons_of_mem _ hz)) hx, List.append_assoc]
    rfl
theorem lx_quo : ∀ {q2 q r : List Nat}, (∀ y ∈ q2, y ≠ 34 ∧ y ≠ 10) → lx (.quo q) (q2 ++ 34 :: r) = (lx .nrm r).map ([quoK (q ++ q2)] ++ ·)
  | [], q, r, _ => by rw [List.nil_append, List.append_nil]; exact lx_q2
  | y :: q2, q, r, h => by
    obtain ⟨h1, h2⟩ := h y (List.mem_cons_self ..)
    rw [List.cons_append, lx_q1 h1 h2, lx_quo (fun z hz => h z (List.mem_cons_of_mem _ hz)), List.append_assoc]
    rfl
def Bl (b : List Nat) : Prop := ∀ x ∈ b, x = 32 ∨ x = 10
theorem lx_bl : ∀ {b r : List Nat}, Bl b → lx .nrm (b ++ r) = lx .nrm r
  | [], _, _ => rfl
  | x :: b, r, h => by
    have hb : Bl b := fun y hy => h y (List.mem_cons_of_mem _ hy)
    rcases h x (List.mem_cons_self ..) with rfl | rfl
    · rw [List.cons_append, lx_sp, lx_bl hb]
    · rw [List.cons_append, lx_nl, lx_bl hb]
inductive Ls : Bool → List Nat → List Nat → Prop
  | nil {q : Bool} : Ls q [] []
  | word {x : Nat} {r s : List Nat} : x ∉ endsL → Ls false r s → Ls false (x :: r) (x :: s)
  | blank {x : Nat} {b r s : List Nat} : (x = 32 ∨ x = 10) → Bl b → Ls false r s → Ls false (x :: r) (b ++ x :: s)
  | sign {x : Nat} {a b r s : List Nat} : x ∈ signsL → Bl a → Bl b → Ls false r s → Ls false (x :: r) (a ++ x :: (b ++ s))
  | opens {b r s : List Nat} : Bl b → Ls true r s → Ls false (34 :: r) (b ++ 34 :: s)
  | inside {x : Nat} {r s : List Nat} : x ≠ 34 → Ls true r s → Ls true (x :: r) (x :: s)
  | closes {b r s : List Nat} : Bl b → Ls false r s → Ls true (34 :: r) (34 :: (b ++ s))
def Mo.q : Mo → Bool
  | .quo _ => true
  | _ => false
theorem wd_bl {w b r : List Nat} {x : Nat} (hb : Bl b) (hx : x ∈ endsL) : lx (.wd w) (b ++ x :: r) = (lx .nrm (x :: r)).map ([wordK w] ++ ·) := by
  cases b with
  | nil => exact lx_w2 hx
  | cons y b =>
    have hy : y ∈ endsL := ends_iff.mpr (by
      rcases hb y (List.mem_cons_self ..) with h | h
      · exact .inl h
      · exact .inr (.inl h))
    rw [List.cons_append, lx_w2 hy, ← List.cons_append, lx_bl hb]
theorem ls_lx : ∀ {cs ds : List Nat} {q : Bool}, Ls q cs ds → ∀ {m : Mo} {ks : List KT}, m.q = q → lx m cs = some ks → lx m ds = some ks := by
  intro cs ds q h
  induction h with
  | nil => exact fun _ h => h
  | @word x r s hx _ ih =>
    intro m ks hm h
    cases m with
    | nrm => rw [lx_w0 hx] at h ⊢; exact ih rfl h
    | wd w => rw [lx_w1 hx] at h ⊢; exact ih rfl h
    | quo _ => cases hm
  | @blank x b r s hx hb _ ih =>
    intro m ks hm h
    have hn : ∀ r, lx .nrm (x :: r) = lx .nrm r := fun r => by
      rcases hx with rfl | rfl
      · exact lx_sp
      · exact lx_nl
    have he : x ∈ endsL := ends_iff.mpr (by
      rcases hx with h | h
      · exact .inl h
      · exact .inr (.inl h))
    cases m with
    | nrm => rw [hn] at h; rw [lx_bl hb, hn]; exact ih rfl h
    | wd w =>
      rw [lx_w2 he, hn] at h
      rw [wd_bl hb he, hn]
      cases e : lx .nrm r with
      | none => rw [e] at h; cases h
      | some us => rw [e] at h; rw [ih (m := .nrm) rfl e]; exact h
    | quo _ => cases hm
  | @sign x a b r s hx ha hb _ ih =>
    intro m ks hm h
    have he : x ∈ endsL := ends_iff.mpr (.inr (.inr (.inr hx)))
    have key : ∀ {us : List KT}, lx .nrm r = some us → lx .nrm (b ++ s) = some us := fun e => by rw [lx_bl hb]; exact ih (m := .nrm) rfl e
    cases e : lx .nrm r with
    | none =>
      cases m with
      | nrm => rw [lx_sg hx, e] at h; cases h
      | wd w => rw [lx_w2 he, lx_sg hx, e] at h; cases h
      | quo _ => cases hm
    | some us =>
      cases m with
      | nrm => rw [lx_sg hx, e] at h; rw [lx_bl ha, lx_sg hx, key e]; exact h
      | wd w => rw [lx_w2 he, lx_sg hx, e] at h; rw [wd_bl ha he, lx_sg hx, key e]; exact h
      | quo _ => cases hm
  | @opens b r s hb _ ih =>
    intro m ks hm h
    have he : 34 ∈ endsL := ends_iff.mpr (.inr (.inr (.inl rfl)))
    cases m with
    | nrm => rw [lx_q0] at h; rw [lx_bl hb, lx_q0]; exact ih rfl h
    | wd w =>
      rw [lx_w2 he, lx_q0] at h
      rw [wd_bl hb he, lx_q0]
      cases e : lx (.quo []) r with
      | none => rw [e] at h; cases h
      | some us => rw [e] at h; rw [ih (m := .quo []) rfl e]; exact h
    | quo _ => cases hm
  | @inside x r s hx _ ih =>
    intro m ks hm h
    cases m with
    | quo q =>
      by_cases h2 : x = 10
      · subst h2; rw [lx_q3] at h; cases h
      · rw [lx_q1 hx h2] at h ⊢; exact ih rfl h
    | nrm => cases hm
    | wd _ => cases hm
  | @closes b r s hb _ ih =>
    intro m ks hm h
    cases m with
    | quo q =>
      rw [lx_q2] at h ⊢
      rw [lx_bl hb]
      cases e : lx .nrm r with
      | none => rw [e] at h; cases h
      | some us => rw [e] at h; rw [ih (m := .nrm) rfl e]; exact h
    | nrm => cases hm
    | wd _ => cases hm
end K06



namespace K06
open PySem L2 Sa
def lineK (y : Str) : KT := (PySem.Str.ofString "quoted", y)
def wdK (y : Str) : KT := (PySem.Str.ofString "word", y)
def sgK (y : Str) : KT := (PySem.Str.ofString "sign", y)
def linesK (ls : List Str) : List KT := sgK "[" :: (ls.map lineK ++ [sgK "]"])
def Action.restK : Action → List KT
  | .read p => [wdK "read", wdK (placeS p)]
  | .kind p => [wdK "kind", wdK (placeS p)]
  | .list p => [wdK "list", wdK (placeS p)]
  | .find z u => [wdK "find", wdK (placeS z), lineK u]
  | .count p => [wdK "count", wdK (placeS p)]
  | .write p ls => [wdK "write", wdK (placeS p)] ++ linesK ls
  | .remove p => [wdK "remove", wdK (placeS p)]
  | .move p t => [wdK "move", wdK (placeS p), wdK t]
  | .splice p o n => [wdK "splice", wdK (placeS p)] ++ linesK o ++ linesK n
def toksK (x : Action) : List KT := sgK "(" :: (x.restK ++ [sgK ")"])
theorem k_cons {ts : List Tok} {k : KT} {ks : List KT} (h : ts.map Tok.k = k :: ks) : ∃ t r, ts = t :: r ∧ t.k = k ∧ r.map Tok.k = ks := by
  cases ts with
  | nil => cases h
  | cons t r => rw [List.map_cons] at h; injection h with h1 h2; exact ⟨t, r, rfl, h1, h2⟩
theorem exp_k {ts : List Tok} {s : Str} {ks : List KT} (h : ts.map Tok.k = sgK s :: ks) : ∃ r, expF s ts = .ok ((), r) ∧ r.map Tok.k = ks := by
  obtain ⟨t, r, rfl, h1, h2⟩ := k_cons h
  have h1 : (t.kind, t.text) = (PySem.Str.ofString "sign", s) := h1
  injection h1 with h3 h4
  refine ⟨r, ?_, h2⟩
  rw [expF, if_pos]
  unfold isSg
  rw [h3, h4, decide_eq_true_eq]
theorem take_k {ts : List Tok} {k w u : Str} {p : Str → Bool} {ks : List KT} (h : ts.map Tok.k = (k, u) :: ks) (hp : p u = true) : ∃ r, takeP k p w ts = .ok (u, r) ∧ r.map Tok.k = ks := by
  obtain ⟨t, r, rfl, h1, h2⟩ := k_cons h
  have h1 : (t.kind, t.text) = (k, u) := h1
  injection h1 with h3 h4
  refine ⟨r, ?_, h2⟩
  rw [← h4]
  exact take_ok h3 (by rw [h4]; exact hp)
theorem sg_line (y : Str) (s : Str) {t : Tok} (h : t.k = lineK y) : isSg s t = false := by
  have h : (t.kind, t.text) = (PySem.Str.ofString "quoted", y) := h
  injection h with h1 h2
  unfold isSg
  rw [h1, decide_eq_false_iff_not]
  intro e
  injection e with e _
  exact absurd e (by decide +kernel)
theorem linesL_k {n : Nat} {ks : List KT} : ∀ {ls found : List Str} {ts : List Tok}, ts.map Tok.k = ls.map lineK ++ sgK "]" :: ks → (∀ y ∈ ls, y.length ≤ 20) → found.length + ls.length ≤ 12 → n ≤ found.length + ls.length →
    ∃ r, linesL n found ts = .ok (found ++ ls, r) ∧ r.map Tok.k = ks
  | [], found, ts, h, _, _, hn => by
    obtain ⟨t, r, rfl, h1, h2⟩ := k_cons h
    have h1 : (t.kind, t.text) = (PySem.Str.ofString "sign", PySem.Str.ofString "]") := h1
    injection h1 with h3 h4
    have hs : isSg "]" t = true := by unfold isSg; rw [h3, h4, decide_eq_true_eq]
    refine ⟨r, ?_, h2⟩
    rw [linesL, if_neg, List.append_nil]
    rintro (h | h)
    · simp only [List.length_nil] at hn; omega
    · rw [hs] at h; cases h
  | y :: ls, found, ts, h, hy, hm, hn => by
    obtain ⟨t, r, rfl, h1, h2⟩ := k_cons h
    have hs := sg_line y "]" h1
    have h1 : (t.kind, t.text) = (PySem.Str.ofString "quoted", y) := h1
    injection h1 with h3 h4
    have yl := hy y (List.mem_cons_self ..)
    rw [List.length_cons] at hm hn
    obtain ⟨r', h5, h6⟩ := linesL_k (n := n) (ks := ks) (ls := ls) (found := found ++ [y]) (ts := r) h2 (fun z hz => hy z (List.mem_cons_of_mem _ hz)) (by rw [List.length_append, List.length_singleton]; omega) (by rw [List.length_append, List.length_singleton]; omega)
    refine ⟨r', ?_, h6⟩
    rw [linesL, if_pos (.inr hs), if_pos h3, h4, if_neg (by omega), if_neg (by omega), h5, List.append_assoc]
    rfl
theorem lines_k {n : Nat} {ls : List Str} {ts : List Tok} {ks : List KT} (h : ts.map Tok.k = linesK ls ++ ks) (hl : isLinesS ls = true) (hn : n ≤ ls.length) : ∃ r, linesF n ts = .ok (ls, r) ∧ r.map Tok.k = ks := by
  have h : ts.map Tok.k = sgK "[" :: (ls.map lineK ++ [sgK "]"]) ++ ks := h
  rw [List.cons_append, List.append_assoc] at h
  obtain ⟨r, h1, h2⟩ := exp_k h
  obtain ⟨l1, l2⟩ := lines_len hl
  obtain ⟨r', h3, h4⟩ := linesL_k (n := n) (ks := ks) (ls := ls) (found := []) h2 (fun y hy => (l2 y hy).1) (by simpa using l1) (by simpa using hn)
  exact ⟨r', by unfold linesF; rw [go_app h1, h3]; rfl, h4⟩
theorem path_nd {p : Str} (h : isPathS p = true) : p ≠ PySem.Str.ofString "." ∧ p ≠ PySem.Str.ofString "" := by
  constructor
  · rintro rfl
    exact absurd h (by decide +kernel)
  · rintro rfl
    exact absurd h (by decide +kernel)
theorem placeS_path {p : Str} (h : isPathS p = true) : placeS p = p := by unfold placeS; rw [if_neg (path_nd h).2]
theorem place_back {z : Str} (h : isPlaceS z = true) : placeB (placeS z) = true ∧ toPlace (placeS z) = z := by
  unfold isPlaceS at h
  rw [Bool.or_eq_true, decide_eq_true_eq] at h
  rcases h with rfl | h
  · exact ⟨by decide +kernel, by decide +kernel⟩
  · rw [placeS_path h]
    unfold placeB toPlace
    rw [h, Bool.or_true, if_neg (path_nd h).1]
    exact ⟨rfl, rfl⟩
theorem place_k {ts : List Tok} {z : Str} {ks : List KT} (h : ts.map Tok.k = wdK (placeS z) :: ks) (hz : isPlaceS z = true) : ∃ r, placeF ts = .ok (z, r) ∧ r.map Tok.k = ks := by
  obtain ⟨h1, h2⟩ := place_back hz
  obtain ⟨r, h3, h4⟩ := take_k (p := placeB) (w := "expected a place") h h1
  exact ⟨r, by unfold placeF; rw [go_app h3, h2], h4⟩
theorem path_k {ts : List Tok} {p : Str} {ks : List KT} (h : ts.map Tok.k = wdK p :: ks) (hp : isPathS p = true) : ∃ r, pathF ts = .ok (p, r) ∧ r.map Tok.k = ks := take_k h hp
theorem quoW_k {ts : List Tok} {u : Str} {ks : List KT} (h : ts.map Tok.k = lineK u :: ks) (hu : isWordS u = true) : ∃ r, quoWF ts = .ok (u, r) ∧ r.map Tok.k = ks := by
  refine take_k h ?_
  unfold isWordS at hu
  simp only [Bool.and_eq_true] at hu
  unfold quoWB
  rw [hu.1.1, hu.1.2]
  rfl
theorem act_k {x : Action} {ts : List Tok} {ks : List KT} (h : ts.map Tok.k = toksK x ++ ks) (hb : x.bad = none) : ∃ r, actRF ts = .ok (x, r) ∧ r.map Tok.k = ks := by
  have h : ts.map Tok.k = sgK "(" :: (x.restK ++ [sgK ")"]) ++ ks := h
  rw [List.cons_append, List.append_assoc] at h
  obtain ⟨r1, e1, h1⟩ := exp_k h
  suffices ∃ wd r2 r3, wordF r1 = .ok (wd, r2) ∧ restF wd r2 = .ok (x, r3) ∧ r3.map Tok.k = [sgK ")"] ++ ks by
    obtain ⟨wd, r2, r3, e2, e3, h3⟩ := this
    obtain ⟨r4, e4, h4⟩ := exp_k h3
    exact ⟨r4, by unfold actRF; rw [go_app e1, go_app e2, go_app e3, go_app e4], h4⟩
  have wd : ∀ {w : Str} {ks : List KT}, r1.map Tok.k = wdK w :: ks → wordB w = true → ∃ r, wordF r1 = .ok (w, r) ∧ r.map Tok.k = ks := fun h hw => take_k h hw
  cases x with
  | read p =>
    simp only [Action.bad] at hb
    split at hb
    · rename_i hp
      obtain ⟨r2, e2, h2⟩ := wd h1 (by decide +kernel)
      rw [placeS_path hp] at h2
      obtain ⟨r3, e3, h3⟩ := path_k h2 hp
      exact ⟨_, r2, r3, e2, by rw [rest_read, go_app e3], h3⟩
    · cases hb
  | remove p =>
    simp only [Action.bad] at hb
    split at hb
    · rename_i hp
      obtain ⟨r2, e2, h2⟩ := wd h1 (by decide +kernel)
      rw [placeS_path hp] at h2
      obtain ⟨r3, e3, h3⟩ := path_k h2 hp
      exact ⟨_, r2, r3, e2, by rw [rest_remove, go_app e3], h3⟩
    · cases hb
  | kind p =>
    simp only [Action.bad] at hb
    split at hb
    · rename_i hp
      obtain ⟨r2, e2, h2⟩ := wd h1 (by decide +kernel)
      obtain ⟨r3, e3, h3⟩ := place_k h2 hp
      exact ⟨_, r2, r3, e2, by rw [rest_kind, go_app e3], h3⟩
    · cases hb
  | list p =>
    simp only [Action.bad] at hb
    split at hb
    · rename_i hp
      obtain ⟨r2, e2, h2⟩ := wd h1 (by decide +kernel)
      obtain ⟨r3, e3, h3⟩ := place_k h2 hp
      exact ⟨_, r2, r3, e2, by rw [rest_list, go_app e3], h3⟩
    · cases hb
  | count p =>
    simp only [Action.bad] at hb
    split at hb
    · rename_i hp
      obtain ⟨r2, e2, h2⟩ := wd h1 (by decide +kernel)
      obtain ⟨r3, e3, h3⟩ := place_k h2 hp
      exact ⟨_, r2, r3, e2, by rw [rest_count, go_app e3], h3⟩
    · cases hb
  | find p u =>
    simp only [Action.bad] at hb
    split at hb
    · rename_i hp
      split at hb
      · rename_i hu
        obtain ⟨r2, e2, h2⟩ := wd h1 (by decide +kernel)
        obtain ⟨r3, e3, h3⟩ := place_k h2 hp
        obtain ⟨r4, e4, h4⟩ := quoW_k h3 hu
        exact ⟨_, r2, r4, e2, by rw [rest_find, go_app e3, go_app e4], h4⟩
      · cases hb
    · cases hb
  | move p u =>
    simp only [Action.bad] at hb
    split at hb
    · rename_i hp
      split at hb
      · rename_i hu
        obtain ⟨r2, e2, h2⟩ := wd h1 (by decide +kernel)
        rw [placeS_path hp] at h2
        obtain ⟨r3, e3, h3⟩ := path_k h2 hp
        obtain ⟨r4, e4, h4⟩ := path_k h3 hu
        exact ⟨_, r2, r4, e2, by rw [rest_move, go_app e3, go_app e4], h4⟩
      · cases hb
    · cases hb
  | write p ls =>
    simp only [Action.bad] at hb
    split at hb
    · rename_i hp
      split at hb
      · rename_i hl
        have h1 : r1.map Tok.k = wdK "write" :: wdK (placeS p) :: (linesK ls ++ ([sgK ")"] ++ ks)) := by rw [h1]; show _ ++ _ = _; simp [Action.restK]
        obtain ⟨r2, e2, h2⟩ := wd h1 (by decide +kernel)
        rw [placeS_path hp] at h2
        obtain ⟨r3, e3, h3⟩ := path_k h2 hp
        obtain ⟨r4, e4, h4⟩ := lines_k (n := 0) h3 hl (Nat.zero_le _)
        exact ⟨_, r2, r4, e2, by rw [rest_write, go_app e3, go_app e4], h4⟩
      · cases hb
    · cases hb
  | splice p o n =>
    simp only [Action.bad] at hb
    split at hb
    · rename_i hp
      split at hb
      · rename_i ho
        split at hb
        · rename_i hn
          rw [Bool.and_eq_true, decide_eq_true_eq] at ho
          have h1 : r1.map Tok.k = wdK "splice" :: wdK (placeS p) :: (linesK o ++ (linesK n ++ ([sgK ")"] ++ ks))) := by rw [h1]; show _ ++ _ = _; simp [Action.restK]
          obtain ⟨r2, e2, h2⟩ := wd h1 (by decide +kernel)
          rw [placeS_path hp] at h2
          obtain ⟨r3, e3, h3⟩ := path_k h2 hp
          obtain ⟨r4, e4, h4⟩ := lines_k (n := 1) h3 ho.1 ho.2
          obtain ⟨r5, e5, h5⟩ := lines_k (n := 0) h4 hn (Nat.zero_le _)
          exact ⟨_, r2, r5, e2, by rw [rest_splice, go_app e3, go_app e4, go_app e5], h5⟩
        · cases hb
      · cases hb
    · cases hb
theorem read_k : ∀ {n : Nat} {acts : List Action} {ts : List Tok}, ts.map Tok.k = acts.flatMap toksK ++ [endK] → (∀ x ∈ acts, x.bad = none) → ts.length ≤ n → readN n ts = .ok acts
  | n, acts, [], h, _, _ => by
    have := congrArg List.length h
    rw [List.length_append] at this
    simp at this
  | 0, acts, t :: r, _, _, hn => by simp at hn
  | n + 1, [], t :: r, h, _, _ => by
    rw [List.map_cons] at h
    injection h with h _
    have h : (t.kind, t.text) = (PySem.Str.ofString "end", PySem.Str.ofString "") := h
    injection h with h _
    rw [readN, if_pos h]
  | n + 1, x :: acts, t :: r, h, hb, hn => by
    have hk : t.kind ≠ "end" := by
      rw [List.map_cons, List.flatMap_cons] at h
      injection h with h _
      have h : (t.kind, t.text) = (PySem.Str.ofString "sign", PySem.Str.ofString "(") := h
      injection h with h _
      rw [h]
      decide +kernel
    rw [List.flatMap_cons, List.append_assoc] at h
    obtain ⟨r', e1, h1⟩ := act_k h (hb x (List.mem_cons_self ..))
    have l1 := act_len e1
    rw [readN, if_neg hk, e1]
    show (readN n r').map (x :: ·) = _
    rw [read_k h1 (fun y hy => hb y (List.mem_cons_of_mem _ hy)) (by omega)]
    rfl
theorem read_lx {z : Str} {acts : List Action} (h : lx .nrm z.cps.toList = some (acts.flatMap toksK ++ [endK])) (hb : ∀ x ∈ acts, x.bad = none) : readTx z = .ok acts := by
  obtain ⟨ts, h1, h2⟩ := spl_lx (m := .nrm) (l := 1) (c := 1) h
  unfold readTx
  rw [h1]
  exact read_k h2 hb (Nat.le_refl _)
end K06



namespace K06
open PySem L2 Sa
def joinN : List (List Nat) → List Nat
  | [] => []
  | [a] => a
  | a :: b :: r => a ++ 32 :: joinN (b :: r)
theorem join_n : ∀ ys : List Str, (Txt.join (PySem.Str.ofString " ") ys).cps.toList = joinN (ys.map fun y => y.cps.toList)
  | [] => by rw [tjoin]; rfl
  | [a] => by rw [tjoin]; rfl
  | a :: b :: r => by
    have ih := join_n (b :: r)
    rw [tjoin] at ih ⊢
    show (a ++ PySem.Str.ofString " " ++ Str.join (PySem.Str.ofString " ") (b :: r)).cps.toList = _
    rw [cps_app, cps_app, ih, show (PySem.Str.ofString " ").cps.toList = [32] from by decide +kernel]
    show (a.cps.toList ++ [32]) ++ joinN _ = a.cps.toList ++ 32 :: joinN _
    rw [List.append_assoc]
    rfl
def Pt (s : List Nat) (ks : List KT) : Prop := ∀ e r, e ∈ endsL → lx .nrm (s ++ e :: r) = (lx .nrm (e :: r)).map (ks ++ ·)
theorem pt_word {w : List Nat} (h0 : w ≠ []) (h : ∀ y ∈ w, y ∉ endsL) : Pt w [wordK w] := fun e r he => by
  cases w with
  | nil => exact absurd rfl h0
  | cons x w =>
    rw [List.cons_append, lx_w0 (h x (List.mem_cons_self ..)), lx_word (fun y hy => h y (List.mem_cons_of_mem _ hy)) he]
    rfl
theorem pt_quo {q : List Nat} (h : ∀ y ∈ q, y ≠ 34 ∧ y ≠ 10) : Pt ([34] ++ q ++ [34]) [quoK q] := fun e r he => by
  rw [List.append_assoc, List.append_assoc]
  show lx .nrm (34 :: (q ++ ([34] ++ e :: r))) = _
  rw [lx_q0]
  exact lx_quo h
theorem pt_join : ∀ {ps : List (List Nat × List KT)}, ps ≠ [] → (∀ p ∈ ps, Pt p.1 p.2) → Pt (joinN (ps.map Prod.fst)) (ps.flatMap Prod.snd)
  | [], h, _ => absurd rfl h
  | [p], _, h => fun e r he => by
    have := h p (List.mem_cons_self ..) e r he
    simp only [List.map_cons, List.map_nil, joinN, List.flatMap_cons, List.flatMap_nil, List.append_nil]
    exact this
  | p :: p2 :: ps, _, h => fun e r he => by
    have h1 := h p (List.mem_cons_self ..)
    have h2 := pt_join (ps := p2 :: ps) (by simp) (fun z hz => h z (List.mem_cons_of_mem _ hz)) e r he
    show lx .nrm ((p.1 ++ 32 :: joinN ((p2 :: ps).map Prod.fst)) ++ e :: r) = (lx .nrm (e :: r)).map ((p.2 ++ (p2 :: ps).flatMap Prod.snd) ++ ·)
    rw [List.append_assoc, List.cons_append, h1 32 _ (ends_iff.mpr (.inl rfl)), lx_sp, h2, mapk_app]
theorem pt_brack {s : List Nat} {ks : List KT} {x y : Nat} (hx : x ∈ signsL) (hy : y ∈ signsL) (h : Pt s ks) : Pt ([x] ++ s ++ [y]) (signK x :: (ks ++ [signK y])) := fun e r he => by
  rw [List.append_assoc, List.append_assoc]
  show lx .nrm (x :: (s ++ y :: (e :: r))) = _
  rw [lx_sg hx, h y _ (ends_iff.mpr (.inr (.inr (.inr hy)))), lx_sg hy, mapk_app, mapk_app]
  rfl
theorem pt_none {x y : Nat} (hx : x ∈ signsL) (hy : y ∈ signsL) : Pt [x, y] [signK x, signK y] := fun e r he => by
  show lx .nrm (x :: y :: (e :: r)) = _
  rw [lx_sg hx, lx_sg hy, mapk_app]
  rfl
theorem wordK_eq (p : Str) : wordK p.cps.toList = wdK p := by unfold wordK wdK; rw [← txt_of]
theorem quoK_eq (p : Str) : quoK p.cps.toList = lineK p := by unfold quoK lineK; rw [← txt_of]
theorem sg4 : signK 40 = sgK "(" ∧ signK 41 = sgK ")" ∧ signK 91 = sgK "[" ∧ signK 93 = sgK "]" := by decide +kernel
theorem in4 : 40 ∈ signsL ∧ 41 ∈ signsL ∧ 91 ∈ signsL ∧ 93 ∈ signsL := by decide +kernel
theorem str1 : (PySem.Str.ofString "\"").cps.toList = [34] ∧ (PySem.Str.ofString "[").cps.toList = [91] ∧ (PySem.Str.ofString "]").cps.toList = [93] ∧ (PySem.Str.ofString "(").cps.toList = [40] ∧ (PySem.Str.ofString ")\n").cps.toList = [41, 10] := by decide +kernel
theorem plain_quo {z : Str} (h : isPlainS z = true) : ∀ y ∈ z.cps.toList, y ≠ 34 ∧ y ≠ 10 := fun y hy => by
  unfold isPlainS at h
  rw [List.all_eq_true] at h
  have := h y hy
  unfold plainC at this
  simp only [Bool.and_eq_true, decide_eq_true_eq, Bool.not_eq_true', decide_eq_false_iff_not] at this
  omega
theorem pt_quoS {z : Str} (h : isPlainS z = true) : Pt (quoS z).cps.toList [lineK z] := by
  unfold quoS
  rw [cps_app, cps_app, str1.1, ← quoK_eq]
  exact pt_quo (plain_quo h)
theorem line_plain {z : Str} (h : isLineS z = true) : isPlainS z = true := by unfold isLineS at h; rw [Bool.and_eq_true] at h; exact h.2
theorem word_plain {z : Str} (h : isWordS z = true) : isPlainS z = true := by unfold isWordS at h; rw [Bool.and_eq_true] at h; exact h.2
theorem lines_each {ls : List Str} (h : isLinesS ls = true) : ∀ y ∈ ls, isLineS y = true := by
  unfold isLinesS at h
  rw [Bool.and_eq_true, List.all_eq_true] at h
  exact h.2
theorem pt_item {ls : List Str} (h : isLinesS ls = true) : Pt (itemS ls).cps.toList (linesK ls) := by
  have hl := lines_each h
  unfold itemS
  rw [cps_app, cps_app, str1.2.1, str1.2.2.1, join_n]
  cases ls with
  | nil =>
    have := pt_none in4.2.2.1 in4.2.2.2
    rw [sg4.2.2.1, sg4.2.2.2] at this
    exact this
  | cons y r =>
    have := pt_brack in4.2.2.1 in4.2.2.2 (pt_join (ps := (y :: r).map fun z => ((quoS z).cps.toList, [lineK z])) (by simp) (fun p hp => by
      obtain ⟨z, hz, rfl⟩ := List.mem_map.mp hp
      exact pt_quoS (line_plain (hl z hz))))
    rw [sg4.2.2.1, sg4.2.2.2] at this
    have e1 : ((y :: r).map fun z => ((quoS z).cps.toList, [lineK z])).map Prod.fst = ((y :: r).map quoS).map fun y => y.cps.toList := by rw [List.map_map, List.map_map]; rfl
    have e2 : ((y :: r).map fun z => ((quoS z).cps.toList, [lineK z])).flatMap Prod.snd = (y :: r).map lineK := by
      generalize y :: r = zs
      induction zs with
      | nil => rfl
      | cons z zs ih => rw [List.map_cons, List.flatMap_cons, ih]; rfl
    rw [e1, e2] at this
    exact this
theorem path_word {p : Str} (h : isPathS p = true) : p.cps.toList ≠ [] ∧ ∀ y ∈ p.cps.toList, y ∉ endsL := by
  constructor
  · intro e
    refine (path_nd h).2 (str_ext ?_)
    rw [e]
    decide +kernel
  · intro y hy
    have j := StrLaws.join_split p (PySem.Str.ofString "/")
    rw [← j] at hy
    rcases mem_join hy with hc | ⟨z, hz, hc⟩
    · rw [slash1, List.mem_singleton] at hc
      subst hc
      decide +kernel
    · have hn := (path_parts h).2 z hz
      unfold isNameS at hn
      simp only [Bool.and_eq_true, List.all_eq_true, decide_eq_true_eq] at hn
      exact (by decide +kernel : ∀ c ∈ (PySem.Str.ofString "abcdefghijklmnopqrstuvwxyz0123456789").cps.toList, c ∉ endsL) y (hn.2 y hc)
theorem pt_path {p : Str} (h : isPathS p = true) : Pt p.cps.toList [wdK p] := by
  rw [← wordK_eq]
  exact pt_word (path_word h).1 (path_word h).2
theorem pt_place {z : Str} (h : isPlaceS z = true) : Pt (placeS z).cps.toList [wdK (placeS z)] := by
  unfold isPlaceS at h
  rw [Bool.or_eq_true, decide_eq_true_eq] at h
  rcases h with rfl | h
  · rw [← wordK_eq]
    exact pt_word (by decide +kernel) (by decide +kernel)
  · rw [placeS_path h]
    exact pt_path h
theorem words_pt : ∀ z ∈ ([PySem.Str.ofString "read", "kind", "list", "find", "count", "write", "remove", "move", "splice"] : List Str), z.cps.toList ≠ [] ∧ ∀ y ∈ z.cps.toList, y ∉ endsL := by decide +kernel
theorem pt_wd {z : Str} (h : z ∈ ([PySem.Str.ofString "read", "kind", "list", "find", "count", "write", "remove", "move", "splice"] : List Str)) : Pt z.cps.toList [wdK z] := by
  rw [← wordK_eq]
  exact pt_word (words_pt z h).1 (words_pt z h).2
def Action.pts : Action → List (Str × List KT)
  | .read p => [("read", [wdK "read"]), (placeS p, [wdK (placeS p)])]
  | .kind p => [("kind", [wdK "kind"]), (placeS p, [wdK (placeS p)])]
  | .list p => [("list", [wdK "list"]), (placeS p, [wdK (placeS p)])]
  | .find z u => [("find", [wdK "find"]), (placeS z, [wdK (placeS z)]), (quoS u, [lineK u])]
  | .count p => [("count", [wdK "count"]), (placeS p, [wdK (placeS p)])]
  | .write p ls => [("write", [wdK "write"]), (placeS p, [wdK (placeS p)]), (itemS ls, linesK ls)]
  | .remove p => [("remove", [wdK "remove"]), (placeS p, [wdK (placeS p)])]
  | .move p t => [("move", [wdK "move"]), (placeS p, [wdK (placeS p)]), (t, [wdK t])]
  | .splice p o n => [("splice", [wdK "splice"]), (placeS p, [wdK (placeS p)]), (itemS o, linesK o), (itemS n, linesK n)]
theorem pts_parts (x : Action) : x.pts.map Prod.fst = x.parts := by cases x <;> rfl
theorem pts_toks (x : Action) : x.pts.flatMap Prod.snd = x.restK := by
  cases x <;> simp [Action.pts, Action.restK]
theorem place_of_path {p : Str} (h : isPathS p = true) : isPlaceS p = true := by unfold isPlaceS; rw [h, Bool.or_true]
theorem pts_pt {x : Action} (hb : x.bad = none) : ∀ p ∈ x.pts, Pt p.1.cps.toList p.2 := by
  have two : ∀ {w p : Str}, w ∈ ([PySem.Str.ofString "read", "kind", "list", "find", "count", "write", "remove", "move", "splice"] : List Str) → isPlaceS p = true → ∀ {l : List (Str × List KT)}, (∀ q ∈ l, Pt q.1.cps.toList q.2) →
      ∀ q ∈ (w, [wdK w]) :: (placeS p, [wdK (placeS p)]) :: l, Pt q.1.cps.toList q.2 := fun hw hp l hl q hq => by
    rcases List.mem_cons.mp hq with rfl | hq
    · exact pt_wd hw
    rcases List.mem_cons.mp hq with rfl | hq
    · exact pt_place hp
    · exact hl q hq
  cases x with
  | read p =>
    simp only [Action.bad] at hb
    split at hb
    · exact two (by simp) (place_of_path ‹_›) (by simp)
    · cases hb
  | remove p =>
    simp only [Action.bad] at hb
    split at hb
    · exact two (by simp) (place_of_path ‹_›) (by simp)
    · cases hb
  | kind p =>
    simp only [Action.bad] at hb
    split at hb
    · exact two (by simp) ‹_› (by simp)
    · cases hb
  | list p =>
    simp only [Action.bad] at hb
    split at hb
    · exact two (by simp) ‹_› (by simp)
    · cases hb
  | count p =>
    simp only [Action.bad] at hb
    split at hb
    · exact two (by simp) ‹_› (by simp)
    · cases hb
  | find p u =>
    simp only [Action.bad] at hb
    split at hb
    · split at hb
      · rename_i h1 h2
        exact two (by simp) h1 (by intro q hq; rw [List.mem_singleton] at hq; subst hq; exact pt_quoS (word_plain h2))
      · cases hb
    · cases hb
  | move p u =>
    simp only [Action.bad] at hb
    split at hb
    · split at hb
      · rename_i h1 h2
        exact two (by simp) (place_of_path h1) (by intro q hq; rw [List.mem_singleton] at hq; subst hq; exact pt_path h2)
      · cases hb
    · cases hb
  | write p ls =>
    simp only [Action.bad] at hb
    split at hb
    · split at hb
      · rename_i h1 h2
        exact two (by simp) (place_of_path h1) (by intro q hq; rw [List.mem_singleton] at hq; subst hq; exact pt_item h2)
      · cases hb
    · cases hb
  | splice p o n =>
    simp only [Action.bad] at hb
    split at hb
    · split at hb
      · split at hb
        · rename_i h1 h2 h3
          rw [Bool.and_eq_true] at h2
          refine two (by simp) (place_of_path h1) (fun q hq => ?_)
          simp only [List.mem_cons, List.not_mem_nil, or_false] at hq
          rcases hq with rfl | rfl
          · exact pt_item h2.1
          · exact pt_item h3
        · cases hb
      · cases hb
    · cases hb
theorem lx_act {x : Action} {r : List Nat} (hb : x.bad = none) : lx .nrm ((wrA x).cps.toList ++ r) = (lx .nrm r).map (toksK x ++ ·) := by
  have h1 := pt_brack in4.1 in4.2.1 (pt_join (ps := x.pts.map fun p => (p.1.cps.toList, p.2)) (by cases x <;> simp [Action.pts]) (fun p hp => by
    obtain ⟨z, hz, rfl⟩ := List.mem_map.mp hp
    exact pts_pt hb z hz)) 10 r (ends_iff.mpr (.inr (.inl rfl)))
  have e1 : (x.pts.map fun p => (p.1.cps.toList, p.2)).map Prod.fst = x.parts.map fun y => y.cps.toList := by rw [List.map_map, ← pts_parts, List.map_map]; rfl
  have e2 : (x.pts.map fun p => (p.1.cps.toList, p.2)).flatMap Prod.snd = x.restK := by rw [List.flatMap_map]; exact pts_toks x
  rw [e1, e2, lx_nl, sg4.1, sg4.2.1] at h1
  unfold wrA
  rw [cps_app, cps_app, str1.2.2.2.1, str1.2.2.2.2, join_n]
  have e3 : ([40] ++ joinN (x.parts.map fun y => y.cps.toList) ++ [41, 10]) ++ r = ([40] ++ joinN (x.parts.map fun y => y.cps.toList) ++ [41]) ++ 10 :: r := by simp
  rw [e3, h1]
  rfl
theorem acts_cps (acts : List Action) : (wrAs acts).cps.toList = acts.flatMap fun x => (wrA x).cps.toList := by
  unfold wrAs
  induction acts with
  | nil => rw [tjoin]; rfl
  | cons x r ih =>
    rw [tjoin] at ih ⊢
    cases r with
    | nil => simp [Str.join]
    | cons y r =>
      show (wrA x ++ PySem.Str.ofString "" ++ Str.join (PySem.Str.ofString "") ((y :: r).map wrA)).cps.toList = _
      rw [cps_app, cps_app, ih, show (PySem.Str.ofString "").cps.toList = [] from by decide +kernel, List.append_nil]
      rfl
theorem lx_acts : ∀ {acts : List Action}, (∀ x ∈ acts, x.bad = none) → lx .nrm (acts.flatMap fun x => (wrA x).cps.toList) = some (acts.flatMap toksK ++ [endK])
  | [], _ => rfl
  | x :: r, h => by
    rw [List.flatMap_cons, lx_act (h x (List.mem_cons_self ..)), lx_acts fun y hy => h y (List.mem_cons_of_mem _ hy), List.flatMap_cons, List.append_assoc]
    rfl
theorem read_written {acts : List Action} (h : ∀ x ∈ acts, x.bad = none) : readTx (wrAs acts) = .ok acts := read_lx (by rw [acts_cps]; exact lx_acts h) h
theorem read_loose {acts : List Action} {z : Str} (h : ∀ x ∈ acts, x.bad = none) (hz : Ls false (wrAs acts).cps.toList z.cps.toList) : readTx z = .ok acts :=
  read_lx (ls_lx hz (m := .nrm) rfl (by rw [acts_cps]; exact lx_acts h)) h
end K06



namespace K06
open PySem L2 Sa
local macro_rules | `(tactic| walk_at "s1") => `(tactic| first | (with_reducible apply c_dgetK))
local macro_rules | `(tactic| walk_at "s1") => `(tactic| (with_reducible apply c_raiseO))
local macro_rules | `(tactic| walk_at "s1") => `(tactic| first | (with_reducible apply c_dgetK))
local macro_rules | `(tactic| walk_at "s1") => `(tactic| (with_reducible apply c_raiseO))
local macro_rules | `(tactic| walk_at "s1") => `(tactic| first | (with_reducible apply c_un) | (with_reducible apply c_negI))
set_option pp.maxSteps 1500
abbrev Row2 := Str × Str
def rowT (p : Row2) : PyData := .tuple [.str p.1, .str p.2]
def quotedR (ls : List Str) : List Row2 := ls.map fun y => (quoS y, PySem.Str.ofString "expected a line")
def brackR (ls : List Str) : List Row2 := [(PySem.Str.ofString "[", PySem.Str.ofString "expected [")] ++ quotedR ls ++ [(PySem.Str.ofString "]", PySem.Str.ofString "expected a line")]
def headR (w z : Str) (e : Str) : List Row2 := [(PySem.Str.ofString "(", PySem.Str.ofString "expected ("), (w, PySem.Str.ofString "expected an action"), (placeS z, e)]
def ePath : Str := PySem.Str.ofString "expected a path"
def ePlace : Str := PySem.Str.ofString "expected a place"
def tokR1 : Action → List Row2
  | .read p => headR "read" p ePath
  | .kind p => headR "kind" p ePlace
  | .list p => headR "list" p ePlace
  | .find z u => headR "find" z ePlace ++ [(quoS u, PySem.Str.ofString "expected a word")]
  | .count p => headR "count" p ePlace
  | .write p ls => headR "write" p ePath ++ brackR ls
  | .remove p => headR "remove" p ePath
  | .move p t => headR "move" p ePath ++ [(t, PySem.Str.ofString "expected a path")]
  | .splice p o n => (headR "splice" p ePath ++ brackR o) ++ brackR n
def tokR (x : Action) : List Row2 := tokR1 x ++ [(PySem.Str.ofString ")", PySem.Str.ofString "expected )")]
theorem rows_one {K : PySem.W.Frag} {H : Hp} {a : Addr} {s t : Str} (h : SqT K H a [.str s, .str t]) : Dt K H (.ref a) (rowT (s, t)) := .tup h (.cons (.str _) (.cons (.str _) .nil))
section
variable {P : Program} {w : World} {K : PySem.W.Frag} {mg : Str → Option Value} {base : Heap}
def RetRows (K : PySem.W.Frag) (H : Hp) (Q : VK) (rs : List Row2) : Prop := ∀ H' p ws, Kp [] H H' → H' p = some (.lst ws) → DtAll K H' ws (rs.map rowT) → Q (.ref p) H'
def spLQuoted (K : PySem.W.Frag) : Sp := fun vs H Q _ => ∃ (a : Addr) (ls : List Str), vs = [.ref a] ∧ SqT K H a (ls.map V.str) ∧ LsTx ls ∧ RetRows K H Q (quotedR ls)
theorem sc__law_quoted : FnScope ["_law_lines_here", "_law_line_here"] ["_law_lines_here"] (defScope s__law_quoted) := ⟨rfl, rfl, rfl, by decide +kernel, rfl, by decide +kernel, by decide +kernel⟩
theorem bn__law_quoted : BindN "_law_quoted" s__law_quoted ["_law_lines_here"] := fun _ _ _ _ _ _ us hl => match us, hl with | [_], _ => rfl
theorem b__law_quoted (T : TX K mg) : Body P w K mg base "_law_quoted" s__law_quoted ["_law_lines_here", "_law_line_here"] 1 (spLQuoted K) := by
  intro cdv A outer s H vs Q E h X hr
  obtain ⟨a, ls, rfl, ha, hl, q⟩ := h
  refine ⟨_, (pss_one (ps_ret (pe_lc (own := [("_law_line_here", 1)]) rfl sc__law_quoted.nd (pi_tupU (K := K) (pv 0)) (blkOk_by (N := ["_law_lines_here", "_law_line_here"]) (sc := defScope s__law_quoted) (by decide +kernel)) (fun _ _ _ _ _ => (pg_name (i := 1) sc__law_quoted.nd rfl (Or.inl rfl))) (fun _ _ _ _ _ => pts_nil) (fun _ _ _ _ _ => (pe_tup (pa_cons (pe_op (op_addU (K := K)) (pe_op (op_addU (K := K)) pe_str (pv 1)) pe_str) (pa_cons pe_str pa_nil))))))), ?_⟩
  have lu := hl.len
  walk_at "st"
  refine lcQ_dt (K := K) (itn_t (ys := ls) (u := V.str)) (fun i => rowT (quoS (ls.getD i Str.empty), PySem.Str.ofString "expected a line")) (fun _ => true) (by omega) (fun H' e => SqT.kp e ha) (fun i x H' H'' R S hi e y k1 k2 => ?_) (fun Dl ws H' hD e hacc hws => ?_)
  · obtain ⟨rfl, y, hy, rfl⟩ := y
    have eg : ls.getD i Str.empty = y := by rw [List.getD_eq_getElem?_getD, hy]; rfl
    have yl := (hl.tx y (List.mem_of_getElem? hy)).len
    walk_at "st"
    refine ⟨rfl, ?_⟩
    walk_at "st"
    refine c_addS (by rw [sizeLine_eq, show (PySem.Str.ofString "\"").length = 1 from by decide +kernel]; omega) ?_
    walk_at "st"
    refine c_addS (by rw [sizeLine_eq, app_len, show (PySem.Str.ofString "\"").length = 1 from by decide +kernel]; omega) ?_
    walk_at "st"
    walk_at "nw"
    intro p H4 N4
    rw [eg] at k1
    exact k1 rfl _ H4 N4.kp (rows_one (SqT.of N4.at_))
  · refine q H' Dl ws e hacc ?_
    have e3 : (((List.range ls.length).filter fun _ => true).map fun i => rowT (quoS (ls.getD i Str.empty), PySem.Str.ofString "expected a line")) = (quotedR ls).map rowT := by
      rw [List.filter_eq_self.mpr (fun _ _ => rfl)]
      unfold quotedR
      rw [List.map_map]
      refine List.ext_getElem (by simp) fun i h1 h2 => ?_
      simp only [List.length_map, List.length_range] at h1
      rw [List.getElem_map, List.getElem_map, List.getElem_range, List.getD_eq_getElem?_getD, List.getElem?_eq_getElem h1]
      rfl
    rw [← e3]
    exact hws
theorem D__law_quoted (T : TX K mg) : DefAt P w K mg base CX0 "_law_quoted" 2 ["_law_lines_here"] (spLQuoted K) :=
  def_of T 24 40 sc__law_quoted bn__law_quoted (by walk_at "len") (b__law_quoted T)
def spLBrack (K : PySem.W.Frag) : Sp := fun vs H Q _ => ∃ (a : Addr) (ls : List Str), vs = [.ref a] ∧ SqT K H a (ls.map V.str) ∧ LsTx ls ∧ RetRows K H Q (brackR ls)
theorem sc__law_bracketed : FnScope ["_law_lines_here", "_law_rows_here"] ["_law_lines_here"] (defScope s__law_bracketed) := ⟨rfl, rfl, rfl, by decide +kernel, rfl, by decide +kernel, by decide +kernel⟩
theorem bn__law_bracketed : BindN "_law_bracketed" s__law_bracketed ["_law_lines_here"] := fun _ _ _ _ _ _ us hl => match us, hl with | [_], _ => rfl
theorem b__law_bracketed (T : TX K mg) : Body P w K mg base "_law_bracketed" s__law_bracketed ["_law_lines_here", "_law_rows_here"] 2 (spLBrack K) := by
  intro cdv A outer s H vs Q E h X hr
  obtain ⟨a, ls, rfl, ha, hl, q⟩ := h
  have D__law_quoted := D__law_quoted (P := P) (w := w) (base := base) T
  refine ⟨_, (pss_cons (ps_set (i := 1) sc__law_bracketed.nd rfl (Or.inl rfl) (pe_op (op_addU (K := K)) (pe_lst (pa_cons (pe_tup (pa_cons pe_str (pa_cons pe_str pa_nil))) pa_nil)) (pe_callA D__law_quoted hr pass0 (pa_cons (pv 0) pa_nil)))) (pss_one (ps_ret (pe_op (op_addU (K := K)) (pv 1) (pe_lst (pa_cons (pe_tup (pa_cons pe_str (pa_cons pe_str pa_nil))) pa_nil)))))), ?_⟩
  have lu := hl.len
  walk_at "st"
  walk_at "nw"
  intro t1 H1 N1
  walk_at "st"
  walk_at "nw"
  intro l1 H2 N2
  walk_at "st"
  refine ⟨a, ls, rfl, SqT.kp N2.kp (SqT.kp N1.kp ha), hl, fun H3 p3 ws e3 h3 hd => ?_⟩
  have wl : ws.length = ls.length := by rw [dta_len hd, List.length_map]; unfold quotedR; rw [List.length_map]
  have hl1 := e3.at0 N2.at_
  walk_at "st"
  refine c_addL hl1 h3 (by rw [sizeLine_eq, List.length_singleton]; omega) fun p4 H4 N4 => ?_
  walk_at "st"
  walk_at "nw"
  intro t5 H5 N5
  walk_at "st"
  walk_at "nw"
  intro l6 H6 N6
  walk_at "st"
  have h64 : H6 p4 = _ := N6.keep (N5.keep N4.at_)
  refine c_addL h64 N6.at_ (by rw [sizeLine_eq, List.length_append, List.length_singleton, List.length_singleton]; omega) fun p7 H7 N7 => ?_
  have k36 := (N4.kp (ms := [])).trans (((N5.kp (ms := [])).trans N6.kp).trans N7.kp)
  refine q H7 p7 _ (((N1.kp.trans N2.kp).trans e3).trans k36) N7.at_ ?_
  unfold brackR
  rw [List.map_append, List.map_append]
  refine dta_app (dta_app (.cons ?_ .nil) (hd.kp k36)) (.cons ?_ .nil)
  · exact rows_one (SqT.kp ((N2.kp.trans e3).trans k36) (SqT.of N1.at_))
  · exact rows_one (SqT.kp (N6.kp.trans N7.kp) (SqT.of N5.at_))
theorem D__law_bracketed (T : TX K mg) : DefAt P w K mg base CX0 "_law_bracketed" 3 ["_law_lines_here"] (spLBrack K) :=
  def_of T 25 41 sc__law_bracketed bn__law_bracketed (by walk_at "len") (b__law_bracketed T)
def Action.tw : Action → Str
  | .read _ => "read" | .kind _ => "kind" | .list _ => "list" | .find _ _ => "find" | .count _ => "count" | .write _ _ => "write" | .remove _ => "remove" | .move _ _ => "move" | .splice _ _ _ => "splice"
def Action.tz : Action → Str
  | .read p => p | .kind p => p | .list p => p | .find p _ => p | .count p => p | .write p _ => p | .remove p => p | .move p _ => p | .splice p _ _ => p
def kindsL : List Str := ["kind", "list", "find", "count"]
def Action.te (x : Action) : Str := if x.tw ∈ kindsL then ePlace else ePath
theorem head_tx {H : Hp} {a : Addr} {x : Action} (h : ActAt K H a x) : ∃ r, SqT K H a (.str x.tw :: .str x.tz :: r) := by
  cases x with
  | write p ls => obtain ⟨l, h1, _⟩ := h; exact ⟨_, h1⟩
  | splice p o n => obtain ⟨l, m, h1, _⟩ := h; exact ⟨_, h1⟩
  | _ => exact ⟨_, h⟩
theorem brack_len {ls : List Str} (h : LsTx ls) : (brackR ls).length ≤ 14 := by
  unfold brackR quotedR
  rw [List.length_append, List.length_append, List.length_map]
  have := h.len
  simp only [List.length_singleton]
  omega
def spLTokens (K : PySem.W.Frag) : Sp := fun vs H Q _ => ∃ (a : Addr) (x : Action), vs = [.ref a] ∧ ActAt K H a x ∧ x.tx ∧ RetRows K H Q (tokR x)
theorem sc__law_tokens : FnScope ["_law_action_here", "_law_rows_here", "_law_words", "_law_place_here"] ["_law_action_here"] (defScope s__law_tokens) := ⟨rfl, rfl, rfl, by decide +kernel, rfl, by decide +kernel, by decide +kernel⟩
theorem bn__law_tokens : BindN "_law_tokens" s__law_tokens ["_law_action_here"] := fun _ _ _ _ _ _ us hl => match us, hl with | [_], _ => rfl
theorem b__law_tokens (T : TX K mg) : Body P w K mg base "_law_tokens" s__law_tokens ["_law_action_here", "_law_rows_here", "_law_words", "_law_place_here"] 3 (spLTokens K) := by
  intro cdv A outer s H vs Q E h X hr
  obtain ⟨a, x, rfl, hA, hx, q⟩ := h
  have D__law_bracketed := D__law_bracketed (P := P) (w := w) (base := base) T
  refine ⟨_, (pss_cons (ps_set (i := 1) sc__law_tokens.nd rfl (Or.inl rfl) (pe_lst (pa_cons (pe_tup (pa_cons pe_str (pa_cons pe_str pa_nil))) (pa_cons (pe_tup (pa_cons (pe_ix (ix_U (K := K)) (pv 0) pe_int (fun _ _ => rfl)) (pa_cons pe_str pa_nil))) pa_nil)))) (pss_cons (ps_set (i := 2) sc__law_tokens.nd rfl (Or.inl rfl) pe_str) (Evl.pss_cut (ps_if (pt_cmpR (op_inU (K := K)) (pe_ix (ix_U (K := K)) (pv 0) pe_int (fun _ _ => rfl)) (pe_tup (pa_cons pe_str (pa_cons pe_str (pa_cons pe_str (pa_cons pe_str pa_nil))))) rfl) (pss_one (ps_set (i := 2) sc__law_tokens.nd rfl (Or.inl rfl) pe_str)) pss_nil) (pss_cons (ps_set (i := 3) sc__law_tokens.nd rfl (Or.inl rfl) (pe_ix (ix_U (K := K)) (pv 0) pe_int (fun _ _ => rfl))) (Evl.pss_cut (ps_if (pt_cmpR (op_eqU (K := K) hr.units) (pv 3) pe_str (nomark _)) (pss_one (ps_set (i := 3) sc__law_tokens.nd rfl (Or.inl rfl) pe_str)) pss_nil) (pss_cons (ps_expr (pe_appendU (K := K) (pv 1) (pe_tup (pa_cons (pv 3) (pa_cons (pv 2) pa_nil))))) (pss_cons (ps_if (pt_cmpR (op_eqU (K := K) hr.units) (pe_ix (ix_U (K := K)) (pv 0) pe_int (fun _ _ => rfl)) pe_str (nomark _)) (pss_one (ps_expr (pe_appendU (K := K) (pv 1) (pe_tup (pa_cons (pe_op (op_addU (K := K)) (pe_op (op_addU (K := K)) pe_str (pe_ix (ix_U (K := K)) (pv 0) pe_int (fun _ _ => rfl))) pe_str) (pa_cons pe_str pa_nil)))))) pss_nil) (pss_cons (ps_if (pt_cmpR (op_eqU (K := K) hr.units) (pe_ix (ix_U (K := K)) (pv 0) pe_int (fun _ _ => rfl)) pe_str (nomark _)) (pss_one (ps_set (i := 1) sc__law_tokens.nd rfl (Or.inl rfl) (pe_op (op_addU (K := K)) (pv 1) (pe_callA D__law_bracketed hr pass0 (pa_cons (pe_ix (ix_U (K := K)) (pv 0) pe_int (fun _ _ => rfl)) pa_nil))))) pss_nil) (pss_cons (ps_if (pt_cmpR (op_eqU (K := K) hr.units) (pe_ix (ix_U (K := K)) (pv 0) pe_int (fun _ _ => rfl)) pe_str (nomark _)) (pss_one (ps_expr (pe_appendU (K := K) (pv 1) (pe_tup (pa_cons (pe_ix (ix_U (K := K)) (pv 0) pe_int (fun _ _ => rfl)) (pa_cons pe_str pa_nil)))))) pss_nil) (pss_cons (ps_if (pt_cmpR (op_eqU (K := K) hr.units) (pe_ix (ix_U (K := K)) (pv 0) pe_int (fun _ _ => rfl)) pe_str (nomark _)) (pss_one (ps_set (i := 1) sc__law_tokens.nd rfl (Or.inl rfl) (pe_op (op_addU (K := K)) (pe_op (op_addU (K := K)) (pv 1) (pe_callA D__law_bracketed hr pass0 (pa_cons (pe_ix (ix_U (K := K)) (pv 0) pe_int (fun _ _ => rfl)) pa_nil))) (pe_callA D__law_bracketed hr pass0 (pa_cons (pe_ix (ix_U (K := K)) (pv 0) pe_int (fun _ _ => rfl)) pa_nil))))) pss_nil) (pss_one (ps_ret (pe_op (op_addU (K := K)) (pv 1) (pe_lst (pa_cons (pe_tup (pa_cons pe_str (pa_cons pe_str pa_nil))) pa_nil))))))))))))))), ?_⟩
  obtain ⟨rest, ha⟩ := head_tx hA
  walk_at "st"
  walk_at "nw"
  intro t1 H1 N1
  have ha1 := SqT.kp N1.kp ha
  walk_at "st"
  refine c_ixT ha1 (atI_nat (j := 0) rfl) ?_
  walk_at "st"
  walk_at "nw"
  intro t2 H2 N2
  walk_at "st"
  walk_at "nw"
  intro l H3 N3
  have ha3 := SqT.kp N3.kp (SqT.kp N2.kp ha1)
  walk_at "st"
  refine c_cut (fun σ' H' => Kp [] H3 H' ∧ σ' = [some (.ref a), some (.ref l), some (.str x.te), none]) ?_ ?_
  · walk_at "st"
    refine c_ixT ha3 (atI_nat (j := 0) rfl) ?_
    walk_at "st"
    walk_at "nw"
    intro t4 H4 N4
    refine c_inSs (ys := kindsL) (.inr (SqT.of N4.at_)) ?_
    walk_at "st"
    refine c_ite (fun g => ?_) (fun g => ?_)
    · walk_at "st"
      exact ⟨N4.kp, by unfold Action.te; rw [if_pos g]; rfl⟩
    · walk_at "st"
      exact ⟨N4.kp, by unfold Action.te; rw [if_neg g]; rfl⟩
  rintro _ H4 ⟨k34, rfl⟩
  have ha4 := SqT.kp k34 ha3
  walk_at "st"
  refine c_ixT ha4 (atI_nat (j := 1) rfl) ?_
  walk_at "st"
  refine c_cut (fun σ' H' => H' = H4 ∧ σ' = [some (.ref a), some (.ref l), some (.str x.te), some (.str (placeS x.tz))]) ?_ ?_
  · walk_at "st"
    refine c_ite (fun g => ?_) (fun g => ?_)
    · walk_at "st"
      exact ⟨rfl, by unfold placeS; rw [if_pos g]; rfl⟩
    · walk_at "st"
      exact ⟨rfl, by unfold placeS; rw [if_neg g]; rfl⟩
  rintro _ _ ⟨rfl, rfl⟩
  have hl4 := k34.at0 N3.at_
  walk_at "st"
  walk_at "nw"
  intro t5 H5 N5
  have hl5 := N5.keep hl4
  have k45 := k34.trans (N5.kp (ms := []))
  walk_at "st"
  have kt6 : Kt H5 (upd H5 l (.lst ([.ref t1, .ref t2] ++ [.ref t5]))) := Kt.upd1 (NoT.lst hl5)
  have hl6 : upd H5 l (.lst ([.ref t1, .ref t2] ++ [.ref t5])) l = some (.lst ([.ref t1, .ref t2] ++ [.ref t5])) := upd_same
  have k02 : Kp [] H H2 := N1.kp.trans N2.kp
  have fr0 : H l = none := by
    cases hh : H l with
    | none => rfl
    | some o => have := k02.at0 hh; rw [N3.fr] at this; cases this
  have k6 : Kp [] H (upd H5 l (.lst ([.ref t1, .ref t2] ++ [.ref t5]))) := ((k02.trans N3.kp).trans k45).fresh_mut fr0
  have hd6 : DtAll K (upd H5 l (.lst ([.ref t1, .ref t2] ++ [.ref t5]))) ([.ref t1, .ref t2] ++ [.ref t5]) ((headR x.tw x.tz x.te).map rowT) :=
    DtAll.kt kt6 (.cons (rows_one (SqT.kp ((N2.kp.trans N3.kp).trans k45) (SqT.of N1.at_))) (.cons (rows_one (SqT.kp (N3.kp.trans k45) (SqT.of N2.at_))) (.cons (rows_one (SqT.of N5.at_)) .nil)))
  generalize [V.ref t1, .ref t2] ++ [.ref t5] = ws6 at *
  generalize upd H5 l (.lst ws6) = H6 at *
  have wl6 : ws6.length = 3 := dta_len hd6
  have hA6 := hA.kp k6
  clear hl4 hl5 k45 kt6 ha ha1 ha3 ha4 hA k34 k02 N5 N3 N2 N1 rest
  cases x with
  | read p =>
    have ha6 : SqT K H6 a _ := hA6
    have hl9 := hl6
    have k9 := k6
    have hd9 : DtAll K H6 ws6 ((tokR1 (.read p)).map rowT) := hd6
    have wl9 := dta_len hd9
    generalize H6 = H9 at *
    have sz9 : (tokR1 (.read p)).length + 1 ≤ 16777216 := Nat.le_of_ble_eq_true rfl
    walk_at "dc"
    walk_at "nw"
    intro t10 H10 N10
    walk_at "st"
    walk_at "nw"
    intro l11 H11 N11
    walk_at "st"
    refine c_addL (N11.keep (N10.keep hl9)) N11.at_ (by rw [sizeLine_eq, wl9]; simp only [List.length_map, List.length_singleton]; exact sz9) fun p12 H12 N12 => ?_
    have k912 : Kp [] H9 H12 := (N10.kp.trans N11.kp).trans N12.kp
    refine q H12 p12 _ (k9.trans k912) N12.at_ ?_
    unfold tokR
    rw [List.map_append]
    exact dta_app (hd9.kp k912) (.cons (rows_one (SqT.kp (N11.kp.trans N12.kp) (SqT.of N10.at_))) .nil)
  | kind p =>
    have ha6 : SqT K H6 a _ := hA6
    have hl9 := hl6
    have k9 := k6
    have hd9 : DtAll K H6 ws6 ((tokR1 (.kind p)).map rowT) := hd6
    have wl9 := dta_len hd9
    generalize H6 = H9 at *
    have sz9 : (tokR1 (.kind p)).length + 1 ≤ 16777216 := Nat.le_of_ble_eq_true rfl
    walk_at "dc"
    walk_at "nw"
    intro t10 H10 N10
    walk_at "st"
    walk_at "nw"
    intro l11 H11 N11
    walk_at "st"
    refine c_addL (N11.keep (N10.keep hl9)) N11.at_ (by rw [sizeLine_eq, wl9]; simp only [List.length_map, List.length_singleton]; exact sz9) fun p12 H12 N12 => ?_
    have k912 : Kp [] H9 H12 := (N10.kp.trans N11.kp).trans N12.kp
    refine q H12 p12 _ (k9.trans k912) N12.at_ ?_
    unfold tokR
    rw [List.map_append]
    exact dta_app (hd9.kp k912) (.cons (rows_one (SqT.kp (N11.kp.trans N12.kp) (SqT.of N10.at_))) .nil)
  | list p =>
    have ha6 : SqT K H6 a _ := hA6
    have hl9 := hl6
    have k9 := k6
    have hd9 : DtAll K H6 ws6 ((tokR1 (.list p)).map rowT) := hd6
    have wl9 := dta_len hd9
    generalize H6 = H9 at *
    have sz9 : (tokR1 (.list p)).length + 1 ≤ 16777216 := Nat.le_of_ble_eq_true rfl
    walk_at "dc"
    walk_at "nw"
    intro t10 H10 N10
    walk_at "st"
    walk_at "nw"
    intro l11 H11 N11
    walk_at "st"
    refine c_addL (N11.keep (N10.keep hl9)) N11.at_ (by rw [sizeLine_eq, wl9]; simp only [List.length_map, List.length_singleton]; exact sz9) fun p12 H12 N12 => ?_
    have k912 : Kp [] H9 H12 := (N10.kp.trans N11.kp).trans N12.kp
    refine q H12 p12 _ (k9.trans k912) N12.at_ ?_
    unfold tokR
    rw [List.map_append]
    exact dta_app (hd9.kp k912) (.cons (rows_one (SqT.kp (N11.kp.trans N12.kp) (SqT.of N10.at_))) .nil)
  | find p u =>
    have ha6 : SqT K H6 a _ := hA6
    walk_at "dc"
    have ul := hx.2.len
    refine c_addS (by rw [sizeLine_eq, show (PySem.Str.ofString "\"").length = 1 from by decide +kernel]; omega) ?_
    walk_at "st"
    refine c_addS (by rw [sizeLine_eq, app_len, show (PySem.Str.ofString "\"").length = 1 from by decide +kernel]; omega) ?_
    walk_at "st"
    walk_at "nw"
    intro t7 H7 N7
    have hl7 := N7.keep hl6
    have ha7 := SqT.kp N7.kp ha6
    walk_at "st"
    have kt9 : Kt H7 (upd H7 l (.lst (ws6 ++ [.ref t7]))) := Kt.upd1 (NoT.lst hl7)
    have hl9 : upd H7 l (.lst (ws6 ++ [.ref t7])) l = some (.lst (ws6 ++ [.ref t7])) := upd_same
    have k9 : Kp [] H (upd H7 l (.lst (ws6 ++ [.ref t7]))) := (k6.trans N7.kp).fresh_mut fr0
    have ha9 := SqT.kt kt9 ha7
    have hd9 : DtAll K (upd H7 l (.lst (ws6 ++ [.ref t7]))) (ws6 ++ [.ref t7]) ((tokR1 (.find p u)).map rowT) := by
      show DtAll K _ _ ((headR _ _ _ ++ [_]).map rowT)
      rw [List.map_append]
      exact DtAll.kt kt9 (dta_app (hd6.kp N7.kp) (.cons (rows_one (SqT.of N7.at_)) .nil))
    have wl9 := dta_len hd9
    generalize upd H7 l (.lst (ws6 ++ [.ref t7])) = H9 at *
    have sz9 : (tokR1 (.find p u)).length + 1 ≤ 16777216 := Nat.le_of_ble_eq_true rfl
    walk_at "dc"
    walk_at "nw"
    intro t10 H10 N10
    walk_at "st"
    walk_at "nw"
    intro l11 H11 N11
    walk_at "st"
    refine c_addL (N11.keep (N10.keep hl9)) N11.at_ (by rw [sizeLine_eq, wl9]; simp only [List.length_map, List.length_singleton]; exact sz9) fun p12 H12 N12 => ?_
    have k912 : Kp [] H9 H12 := (N10.kp.trans N11.kp).trans N12.kp
    refine q H12 p12 _ (k9.trans k912) N12.at_ ?_
    unfold tokR
    rw [List.map_append]
    exact dta_app (hd9.kp k912) (.cons (rows_one (SqT.kp (N11.kp.trans N12.kp) (SqT.of N10.at_))) .nil)
  | count p =>
    have ha6 : SqT K H6 a _ := hA6
    have hl9 := hl6
    have k9 := k6
    have hd9 : DtAll K H6 ws6 ((tokR1 (.count p)).map rowT) := hd6
    have wl9 := dta_len hd9
    generalize H6 = H9 at *
    have sz9 : (tokR1 (.count p)).length + 1 ≤ 16777216 := Nat.le_of_ble_eq_true rfl
    walk_at "dc"
    walk_at "nw"
    intro t10 H10 N10
    walk_at "st"
    walk_at "nw"
    intro l11 H11 N11
    walk_at "st"
    refine c_addL (N11.keep (N10.keep hl9)) N11.at_ (by rw [sizeLine_eq, wl9]; simp only [List.length_map, List.length_singleton]; exact sz9) fun p12 H12 N12 => ?_
    have k912 : Kp [] H9 H12 := (N10.kp.trans N11.kp).trans N12.kp
    refine q H12 p12 _ (k9.trans k912) N12.at_ ?_
    unfold tokR
    rw [List.map_append]
    exact dta_app (hd9.kp k912) (.cons (rows_one (SqT.kp (N11.kp.trans N12.kp) (SqT.of N10.at_))) .nil)
  | write p ls =>
    obtain ⟨la, ha6, hla6⟩ := hA6
    walk_at "dc"
    refine ⟨la, ls, rfl, hla6, hx.2, fun H7 p7 ws7 e7 h7 hd7 => ?_⟩
    have wl7 := dta_len hd7
    have bl := brack_len hx.2
    rw [List.length_map] at wl7
    have ha7 := SqT.kp e7 ha6
    walk_at "st"
    refine c_addL (e7.at0 hl6) h7 (by rw [sizeLine_eq, wl6, wl7]; omega) fun p8 H9 N9 => ?_
    have ha9 := SqT.kp N9.kp ha7
    have hl9 := N9.at_
    have k9 : Kp [] H H9 := (k6.trans e7).trans N9.kp
    have hd9 : DtAll K H9 (ws6 ++ ws7) ((tokR1 (.write p ls)).map rowT) := by
      show DtAll K _ _ ((headR _ _ _ ++ brackR ls).map rowT)
      rw [List.map_append]
      exact dta_app (hd6.kp (e7.trans N9.kp)) (hd7.kp N9.kp)
    have wl9 := dta_len hd9
    have sz9 : (tokR1 (.write p ls)).length + 1 ≤ 16777216 := by show (headR _ _ _ ++ brackR ls).length + 1 ≤ _; rw [List.length_append]; show 3 + _ + 1 ≤ _; omega
    walk_at "dc"
    walk_at "nw"
    intro t10 H10 N10
    walk_at "st"
    walk_at "nw"
    intro l11 H11 N11
    walk_at "st"
    refine c_addL (N11.keep (N10.keep hl9)) N11.at_ (by rw [sizeLine_eq, wl9]; simp only [List.length_map, List.length_singleton]; exact sz9) fun p12 H12 N12 => ?_
    have k912 : Kp [] H9 H12 := (N10.kp.trans N11.kp).trans N12.kp
    refine q H12 p12 _ (k9.trans k912) N12.at_ ?_
    unfold tokR
    rw [List.map_append]
    exact dta_app (hd9.kp k912) (.cons (rows_one (SqT.kp (N11.kp.trans N12.kp) (SqT.of N10.at_))) .nil)
  | remove p =>
    have ha6 : SqT K H6 a _ := hA6
    have hl9 := hl6
    have k9 := k6
    have hd9 : DtAll K H6 ws6 ((tokR1 (.remove p)).map rowT) := hd6
    have wl9 := dta_len hd9
    generalize H6 = H9 at *
    have sz9 : (tokR1 (.remove p)).length + 1 ≤ 16777216 := Nat.le_of_ble_eq_true rfl
    walk_at "dc"
    walk_at "nw"
    intro t10 H10 N10
    walk_at "st"
    walk_at "nw"
    intro l11 H11 N11
    walk_at "st"
    refine c_addL (N11.keep (N10.keep hl9)) N11.at_ (by rw [sizeLine_eq, wl9]; simp only [List.length_map, List.length_singleton]; exact sz9) fun p12 H12 N12 => ?_
    have k912 : Kp [] H9 H12 := (N10.kp.trans N11.kp).trans N12.kp
    refine q H12 p12 _ (k9.trans k912) N12.at_ ?_
    unfold tokR
    rw [List.map_append]
    exact dta_app (hd9.kp k912) (.cons (rows_one (SqT.kp (N11.kp.trans N12.kp) (SqT.of N10.at_))) .nil)
  | move p u =>
    have ha6 : SqT K H6 a _ := hA6
    walk_at "dc"
    walk_at "nw"
    intro t7 H7 N7
    have hl7 := N7.keep hl6
    have ha7 := SqT.kp N7.kp ha6
    walk_at "st"
    have kt9 : Kt H7 (upd H7 l (.lst (ws6 ++ [.ref t7]))) := Kt.upd1 (NoT.lst hl7)
    have hl9 : upd H7 l (.lst (ws6 ++ [.ref t7])) l = some (.lst (ws6 ++ [.ref t7])) := upd_same
    have k9 : Kp [] H (upd H7 l (.lst (ws6 ++ [.ref t7]))) := (k6.trans N7.kp).fresh_mut fr0
    have ha9 := SqT.kt kt9 ha7
    have hd9 : DtAll K (upd H7 l (.lst (ws6 ++ [.ref t7]))) (ws6 ++ [.ref t7]) ((tokR1 (.move p u)).map rowT) := by
      show DtAll K _ _ ((headR _ _ _ ++ [_]).map rowT)
      rw [List.map_append]
      exact DtAll.kt kt9 (dta_app (hd6.kp N7.kp) (.cons (rows_one (SqT.of N7.at_)) .nil))
    have wl9 := dta_len hd9
    generalize upd H7 l (.lst (ws6 ++ [.ref t7])) = H9 at *
    have sz9 : (tokR1 (.move p u)).length + 1 ≤ 16777216 := Nat.le_of_ble_eq_true rfl
    walk_at "dc"
    walk_at "nw"
    intro t10 H10 N10
    walk_at "st"
    walk_at "nw"
    intro l11 H11 N11
    walk_at "st"
    refine c_addL (N11.keep (N10.keep hl9)) N11.at_ (by rw [sizeLine_eq, wl9]; simp only [List.length_map, List.length_singleton]; exact sz9) fun p12 H12 N12 => ?_
    have k912 : Kp [] H9 H12 := (N10.kp.trans N11.kp).trans N12.kp
    refine q H12 p12 _ (k9.trans k912) N12.at_ ?_
    unfold tokR
    rw [List.map_append]
    exact dta_app (hd9.kp k912) (.cons (rows_one (SqT.kp (N11.kp.trans N12.kp) (SqT.of N10.at_))) .nil)
  | splice p o n =>
    obtain ⟨la, lb, ha6, hla6, hlb6⟩ := hA6
    walk_at "dc"
    refine ⟨la, o, rfl, hla6, hx.2.1, fun H7 p7 ws7 e7 h7 hd7 => ?_⟩
    have wl7 := dta_len hd7
    have bl := brack_len hx.2.1
    have bl2 := brack_len hx.2.2
    rw [List.length_map] at wl7
    have hl7 := e7.at0 hl6
    have ha7 := SqT.kp e7 ha6
    walk_at "st"
    refine c_addL hl7 h7 (by rw [sizeLine_eq, wl6, wl7]; omega) fun p8 H8 N8 => ?_
    have ha8 := SqT.kp N8.kp ha7
    walk_at "st"
    refine ⟨lb, n, rfl, SqT.kp N8.kp (SqT.kp e7 hlb6), hx.2.2, fun H9' p9 ws9 e9 h9 hd9' => ?_⟩
    have wl9' := dta_len hd9'
    rw [List.length_map] at wl9'
    walk_at "st"
    refine c_addL (e9.at0 N8.at_) h9 (by rw [sizeLine_eq, List.length_append, wl6, wl7, wl9']; omega) fun p10 H9 N9 => ?_
    have hl9 := N9.at_
    have k9 : Kp [] H H9 := (((k6.trans e7).trans N8.kp).trans e9).trans N9.kp
    have hd9 : DtAll K H9 ((ws6 ++ ws7) ++ ws9) ((tokR1 (.splice p o n)).map rowT) := by
      show DtAll K _ _ (((headR _ _ _ ++ brackR o) ++ brackR n).map rowT)
      rw [List.map_append, List.map_append]
      exact dta_app (dta_app (hd6.kp ((e7.trans N8.kp).trans (e9.trans N9.kp))) (hd7.kp (N8.kp.trans (e9.trans N9.kp)))) (hd9'.kp N9.kp)
    have wl9 := dta_len hd9
    have sz9 : (tokR1 (.splice p o n)).length + 1 ≤ 16777216 := by show ((headR _ _ _ ++ brackR o) ++ brackR n).length + 1 ≤ _; rw [List.length_append, List.length_append]; show 3 + _ + _ + 1 ≤ _; omega
    walk_at "dc"
    walk_at "nw"
    intro t10 H10 N10
    walk_at "st"
    walk_at "nw"
    intro l11 H11 N11
    walk_at "st"
    refine c_addL (N11.keep (N10.keep hl9)) N11.at_ (by rw [sizeLine_eq, wl9]; simp only [List.length_map, List.length_singleton]; exact sz9) fun p12 H12 N12 => ?_
    have k912 : Kp [] H9 H12 := (N10.kp.trans N11.kp).trans N12.kp
    refine q H12 p12 _ (k9.trans k912) N12.at_ ?_
    unfold tokR
    rw [List.map_append]
    exact dta_app (hd9.kp k912) (.cons (rows_one (SqT.kp (N11.kp.trans N12.kp) (SqT.of N10.at_))) .nil)
theorem D__law_tokens (T : TX K mg) : DefAt P w K mg base CX0 "_law_tokens" 4 ["_law_action_here"] (spLTokens K) :=
  def_of T 26 42 sc__law_tokens bn__law_tokens (by walk_at "len") (b__law_tokens T)
end
end K06



namespace K06
open PySem L2 Sa
local macro_rules | `(tactic| walk_at "s1") => `(tactic| first | (with_reducible apply c_dgetK))
local macro_rules | `(tactic| walk_at "s1") => `(tactic| (with_reducible apply c_raiseO))
local macro_rules | `(tactic| walk_at "s1") => `(tactic| first | (with_reducible apply c_dgetK))
local macro_rules | `(tactic| walk_at "s1") => `(tactic| (with_reducible apply c_raiseO))
local macro_rules | `(tactic| walk_at "s1") => `(tactic| first | (with_reducible apply c_un) | (with_reducible apply c_negI))
set_option pp.maxSteps 1500
def braL : List Str := ["(", "["]
def ketL : List Str := [")", "]"]
def joinT : Str → Str → List Str → Str
  | _, t, [] => t
  | last, t, k :: r => joinT k ((if last ∉ braL ∧ k ∉ ketL then t ++ PySem.Str.ofString " " else t) ++ k) r
theorem joinT_len : ∀ (r : List Str) (last t : Str), t.length ≤ (joinT last t r).length
  | [], _, _ => Nat.le_refl _
  | k :: r, last, t => by
    have := joinT_len r k ((if last ∉ braL ∧ k ∉ ketL then t ++ PySem.Str.ofString " " else t) ++ k)
    unfold joinT
    rw [app_len] at this
    split at this
    · rename_i h
      rw [if_pos h]
      rw [app_len] at this
      omega
    · rename_i h
      rw [if_neg h]
      omega
theorem app_assoc (a b c : Str) : a ++ b ++ c = a ++ (b ++ c) := str_ext (by rw [cps_app, cps_app, cps_app, cps_app, List.append_assoc])
theorem quoS_head (y : Str) : (quoS y).cps.toList.head? = some 34 := by
  unfold quoS
  rw [cps_app, cps_app, str1.1]
  rfl
theorem quoS_free (y : Str) : quoS y ∉ braL ∧ quoS y ∉ ketL := by
  have h := quoS_head y
  constructor <;> intro hm
  · have := (by decide +kernel : ∀ z ∈ braL, z.cps.toList.head? ≠ some 34) _ hm
    exact this h
  · have := (by decide +kernel : ∀ z ∈ ketL, z.cps.toList.head? ≠ some 34) _ hm
    exact this h
theorem word_free {z : Str} (h0 : z.cps.toList ≠ []) (h : ∀ y ∈ z.cps.toList, y ∉ endsL) : z ∉ braL ∧ z ∉ ketL := by
  have key : ∀ u ∈ braL ++ ketL, ∃ y ∈ u.cps.toList, y ∈ endsL := by decide +kernel
  constructor <;> intro hm
  · obtain ⟨y, h1, h2⟩ := key _ (List.mem_append_left _ hm)
    exact h y h1 h2
  · obtain ⟨y, h1, h2⟩ := key _ (List.mem_append_right _ hm)
    exact h y h1 h2
theorem joinT_sp {last t k : Str} {r : List Str} (h1 : last ∉ braL) (h2 : k ∉ ketL) : joinT last t (k :: r) = joinT k (t ++ PySem.Str.ofString " " ++ k) r := by
  rw [joinT, if_pos ⟨h1, h2⟩]
theorem joinT_no {last t k : Str} {r : List Str} (h : last ∈ braL ∨ k ∈ ketL) : joinT last t (k :: r) = joinT k (t ++ k) r := by
  rw [joinT, if_neg]
  rintro ⟨h1, h2⟩
  rcases h with h | h
  · exact h1 h
  · exact h2 h
theorem joinT_more : ∀ (ys : List Str) (last t : Str) (r : List Str), last ∉ braL → joinT last t (ys.map quoS ++ PySem.Str.ofString "]" :: r) =
    joinT "]" (t ++ (Txt.join (PySem.Str.ofString "") (ys.map fun y => PySem.Str.ofString " " ++ quoS y)) ++ PySem.Str.ofString "]") r
  | [], last, t, r, h => by
    rw [List.map_nil, List.nil_append, joinT_no (.inr (by decide +kernel))]
    congr 1
  | y :: ys, last, t, r, h => by
    rw [List.map_cons, List.cons_append, joinT_sp h (quoS_free y).2, joinT_more ys _ _ r (quoS_free y).1]
    congr 1
    refine str_ext ?_
    have e : ∀ zs : List Str, (Txt.join (PySem.Str.ofString "") zs).cps.toList = zs.flatMap fun z => z.cps.toList := fun zs => by
      rw [tjoin]
      induction zs with
      | nil => rfl
      | cons x r ih =>
        cases r with
        | nil => simp [Str.join]
        | cons y r =>
          show (x ++ PySem.Str.ofString "" ++ Str.join (PySem.Str.ofString "") (y :: r)).cps.toList = _
          rw [cps_app, cps_app, ih, show (PySem.Str.ofString "").cps.toList = [] from by decide +kernel, List.append_nil]
          rfl
    simp only [cps_app, e, List.map_cons, List.flatMap_cons, List.append_assoc]
theorem join_sp : ∀ (ys : List Str) (y : Str), Txt.join (PySem.Str.ofString " ") ((y :: ys).map quoS) = quoS y ++ Txt.join (PySem.Str.ofString "") (ys.map fun y => PySem.Str.ofString " " ++ quoS y)
  | [], y => by
    rw [tjoin, tjoin]
    refine str_ext ?_
    rw [cps_app]
    show _ = _ ++ []
    rw [List.append_nil]
    rfl
  | z :: ys, y => by
    have ih := join_sp ys z
    rw [tjoin] at ih ⊢
    show quoS y ++ PySem.Str.ofString " " ++ Str.join (PySem.Str.ofString " ") ((z :: ys).map quoS) = _
    rw [ih]
    refine str_ext ?_
    have e : ∀ zs : List Str, (Txt.join (PySem.Str.ofString "") zs).cps.toList = zs.flatMap fun z => z.cps.toList := fun zs => by
      rw [tjoin]
      induction zs with
      | nil => rfl
      | cons x r ih =>
        cases r with
        | nil => simp [Str.join]
        | cons y r =>
          show (x ++ PySem.Str.ofString "" ++ Str.join (PySem.Str.ofString "") (y :: r)).cps.toList = _
          rw [cps_app, cps_app, ih, show (PySem.Str.ofString "").cps.toList = [] from by decide +kernel, List.append_nil]
          rfl
    simp only [cps_app, e, List.map_cons, List.flatMap_cons, List.append_assoc]
theorem joinT_item {ls : List Str} {last t : Str} {r : List Str} (h : last ∉ braL) : joinT last t (PySem.Str.ofString "[" :: (ls.map quoS ++ PySem.Str.ofString "]" :: r)) = joinT "]" (t ++ PySem.Str.ofString " " ++ itemS ls) r := by
  rw [joinT_sp h (by decide +kernel)]
  unfold itemS
  cases ls with
  | nil =>
    rw [List.map_nil, List.nil_append, joinT_no (.inr (by decide +kernel)), tjoin]
    congr 1
  | cons y ys =>
    rw [List.map_cons, List.cons_append, joinT_no (.inl (by decide +kernel)), joinT_more ys _ _ r (quoS_free y).1, ← List.map_cons, join_sp]
    congr 1
    refine str_ext ?_
    simp only [cps_app, List.append_assoc]
theorem brack_fst (ls : List Str) : (brackR ls).map Prod.fst = PySem.Str.ofString "[" :: (ls.map quoS ++ [PySem.Str.ofString "]"]) := by
  unfold brackR quotedR
  rw [List.map_append, List.map_append, List.map_map]
  rfl
theorem place_free {z : Str} (h : isPlaceS z = true) : placeS z ∉ braL ∧ placeS z ∉ ketL := by
  unfold isPlaceS at h
  rw [Bool.or_eq_true, decide_eq_true_eq] at h
  rcases h with rfl | h
  · exact ⟨by decide +kernel, by decide +kernel⟩
  · rw [placeS_path h]
    exact word_free (path_word h).1 (path_word h).2
theorem close_br : PySem.Str.ofString "]" ∉ braL ∧ PySem.Str.ofString ")" ∈ ketL ∧ PySem.Str.ofString "(" ∈ braL := by decide +kernel
theorem join4 (s : Str) : (∀ a b : Str, Txt.join s [a, b] = a ++ s ++ b) ∧ (∀ a b c : Str, Txt.join s [a, b, c] = a ++ s ++ (b ++ s ++ c)) ∧ (∀ a b c d : Str, Txt.join s [a, b, c, d] = a ++ s ++ (b ++ s ++ (c ++ s ++ d))) :=
  ⟨fun _ _ => by rw [tjoin]; rfl, fun _ _ _ => by rw [tjoin]; rfl, fun _ _ _ _ => by rw [tjoin]; rfl⟩
theorem joinT_head {w z e : Str} {r : List Str} (hw : w ∈ ([PySem.Str.ofString "read", "kind", "list", "find", "count", "write", "remove", "move", "splice"] : List Str)) (hz : isPlaceS z = true) :
    joinT "(" "" ((headR w z e).map Prod.fst ++ r) = joinT (placeS z) (PySem.Str.ofString "(" ++ w ++ PySem.Str.ofString " " ++ placeS z) r := by
  have hw2 := word_free (words_pt w hw).1 (words_pt w hw).2
  show joinT "(" "" (PySem.Str.ofString "(" :: w :: placeS z :: r) = _
  rw [joinT_no (.inl close_br.2.2), joinT_no (.inl close_br.2.2), joinT_sp hw2.1 (place_free hz).2]
  congr 1
theorem joinT_end {last t : Str} : joinT last t [PySem.Str.ofString ")"] = t ++ PySem.Str.ofString ")" := by rw [joinT_no (.inr close_br.2.1)]; rfl
def lawW (x : Action) : Str := joinT "(" "" ((tokR x).map Prod.fst)
theorem nl_app (t : Str) : t ++ PySem.Str.ofString ")" ++ PySem.Str.ofString "\n" = t ++ PySem.Str.ofString ")\n" := by
  rw [app_assoc]
  congr 1
theorem lawW_eq {x : Action} (hb : x.bad = none) : lawW x ++ PySem.Str.ofString "\n" = wrA x := by
  unfold lawW tokR
  obtain ⟨j2, j3, j4⟩ := join4 (PySem.Str.ofString " ")
  have one : ∀ {w z e : Str}, w ∈ ([PySem.Str.ofString "read", "kind", "list", "find", "count", "write", "remove", "move", "splice"] : List Str) → isPlaceS z = true →
      joinT "(" "" ((headR w z e ++ [(PySem.Str.ofString ")", PySem.Str.ofString "expected )")]).map Prod.fst) ++ PySem.Str.ofString "\n" = PySem.Str.ofString "(" ++ Txt.join (PySem.Str.ofString " ") [w, placeS z] ++ PySem.Str.ofString ")\n" := fun hw hz => by
    rw [List.map_append, joinT_head hw hz]
    show joinT _ _ [PySem.Str.ofString ")"] ++ _ = _
    rw [joinT_end, nl_app, j2]
    simp only [app_assoc]
  have two : ∀ {w z e k e2 : Str}, w ∈ ([PySem.Str.ofString "read", "kind", "list", "find", "count", "write", "remove", "move", "splice"] : List Str) → isPlaceS z = true → k ∉ braL ∧ k ∉ ketL →
      joinT "(" "" ((headR w z e ++ [(k, e2)] ++ [(PySem.Str.ofString ")", PySem.Str.ofString "expected )")]).map Prod.fst) ++ PySem.Str.ofString "\n" = PySem.Str.ofString "(" ++ Txt.join (PySem.Str.ofString " ") [w, placeS z, k] ++ PySem.Str.ofString ")\n" := fun {w z e k e2} hw hz hk => by
    rw [List.map_append, List.map_append, List.append_assoc, joinT_head hw hz]
    show joinT _ _ (k :: [PySem.Str.ofString ")"]) ++ _ = _
    rw [joinT_sp (place_free hz).1 hk.2, joinT_end, nl_app, j3]
    simp only [app_assoc]
  cases x with
  | read p =>
    simp only [Action.bad] at hb
    split at hb
    · exact one (by simp) (place_of_path ‹_›)
    · cases hb
  | remove p =>
    simp only [Action.bad] at hb
    split at hb
    · exact one (by simp) (place_of_path ‹_›)
    · cases hb
  | kind p =>
    simp only [Action.bad] at hb
    split at hb
    · exact one (by simp) ‹_›
    · cases hb
  | list p =>
    simp only [Action.bad] at hb
    split at hb
    · exact one (by simp) ‹_›
    · cases hb
  | count p =>
    simp only [Action.bad] at hb
    split at hb
    · exact one (by simp) ‹_›
    · cases hb
  | find p u =>
    simp only [Action.bad] at hb
    split at hb
    · split at hb
      · rename_i h1 h2
        exact two (by simp) h1 (quoS_free u)
      · cases hb
    · cases hb
  | move p u =>
    simp only [Action.bad] at hb
    split at hb
    · split at hb
      · rename_i h1 h2
        exact two (by simp) (place_of_path h1) (word_free (path_word h2).1 (path_word h2).2)
      · cases hb
    · cases hb
  | write p ls =>
    simp only [Action.bad] at hb
    split at hb
    · split at hb
      · rename_i h1 h2
        show joinT "(" "" ((headR "write" p ePath ++ brackR ls ++ [(PySem.Str.ofString ")", PySem.Str.ofString "expected )")]).map Prod.fst) ++ _ = PySem.Str.ofString "(" ++ Txt.join (PySem.Str.ofString " ") [PySem.Str.ofString "write", placeS p, itemS ls] ++ PySem.Str.ofString ")\n"
        rw [List.map_append, List.map_append, List.append_assoc, joinT_head (by simp) (place_of_path h1), brack_fst]
        show joinT _ _ (PySem.Str.ofString "[" :: ((ls.map quoS ++ [PySem.Str.ofString "]"]) ++ [PySem.Str.ofString ")"])) ++ _ = _
        rw [List.append_assoc]
        show joinT _ _ (PySem.Str.ofString "[" :: (ls.map quoS ++ PySem.Str.ofString "]" :: [PySem.Str.ofString ")"])) ++ _ = _
        rw [joinT_item (place_free (place_of_path h1)).1, joinT_end, nl_app, j3]
        simp only [app_assoc]
      · cases hb
    · cases hb
  | splice p o n =>
    simp only [Action.bad] at hb
    split at hb
    · split at hb
      · split at hb
        · rename_i h1 h2 h3
          show joinT "(" "" (((headR "splice" p ePath ++ brackR o) ++ brackR n ++ [(PySem.Str.ofString ")", PySem.Str.ofString "expected )")]).map Prod.fst) ++ _ = PySem.Str.ofString "(" ++ Txt.join (PySem.Str.ofString " ") [PySem.Str.ofString "splice", placeS p, itemS o, itemS n] ++ PySem.Str.ofString ")\n"
          rw [List.map_append, List.map_append, List.map_append, List.append_assoc, List.append_assoc, joinT_head (by simp) (place_of_path h1), brack_fst, brack_fst]
          show joinT _ _ (PySem.Str.ofString "[" :: ((o.map quoS ++ [PySem.Str.ofString "]"]) ++ (PySem.Str.ofString "[" :: (n.map quoS ++ [PySem.Str.ofString "]"]) ++ [PySem.Str.ofString ")"]))) ++ _ = _
          rw [List.append_assoc]
          show joinT _ _ (PySem.Str.ofString "[" :: (o.map quoS ++ PySem.Str.ofString "]" :: (PySem.Str.ofString "[" :: (n.map quoS ++ [PySem.Str.ofString "]"]) ++ [PySem.Str.ofString ")"]))) ++ _ = _
          rw [joinT_item (place_free (place_of_path h1)).1, List.cons_append, List.append_assoc]
          show joinT _ _ (PySem.Str.ofString "[" :: (n.map quoS ++ PySem.Str.ofString "]" :: [PySem.Str.ofString ")"])) ++ _ = _
          rw [joinT_item close_br.1, joinT_end, nl_app, j4]
          simp only [app_assoc]
        · cases hb
      · cases hb
    · cases hb
end K06



namespace K06
open PySem L2 Sa
local macro_rules | `(tactic| walk_at "s1") => `(tactic| first | (with_reducible apply c_dgetK))
local macro_rules | `(tactic| walk_at "s1") => `(tactic| (with_reducible apply c_raiseO))
local macro_rules | `(tactic| walk_at "s1") => `(tactic| first | (with_reducible apply c_dgetK))
local macro_rules | `(tactic| walk_at "s1") => `(tactic| (with_reducible apply c_raiseO))
local macro_rules | `(tactic| walk_at "s1") => `(tactic| first | (with_reducible apply c_un) | (with_reducible apply c_negI))
set_option pp.maxSteps 1500
section
variable {P : Program} {w : World} {K : PySem.W.Frag} {mg : Str → Option Value} {base : Heap}
theorem bad_tx {x : Action} (hb : x.bad = none) : x.tx := by
  have pth : ∀ {p : Str}, isPathS p = true → TxOk p 8000 := fun h => ⟨path_ok h, by have := path_len h; omega⟩
  have plc : ∀ {p : Str}, isPlaceS p = true → TxOk p 8000 := fun h => ⟨place_ok h, by have := place_len h; omega⟩
  have lns : ∀ {ls : List Str}, isLinesS ls = true → LsTx ls := fun h => ⟨(lines_len h).1, fun y hy => ⟨plain_ok (line_plain (lines_each h y hy)), ((lines_len h).2 y hy).1⟩⟩
  cases x with
  | read p =>
    simp only [Action.bad] at hb
    split at hb
    · exact pth ‹_›
    · cases hb
  | remove p =>
    simp only [Action.bad] at hb
    split at hb
    · exact pth ‹_›
    · cases hb
  | kind p =>
    simp only [Action.bad] at hb
    split at hb
    · exact plc ‹_›
    · cases hb
  | list p =>
    simp only [Action.bad] at hb
    split at hb
    · exact plc ‹_›
    · cases hb
  | count p =>
    simp only [Action.bad] at hb
    split at hb
    · exact plc ‹_›
    · cases hb
  | find p u =>
    simp only [Action.bad] at hb
    split at hb
    · split at hb
      · rename_i h1 h2
        exact ⟨plc h1, plain_ok (word_plain h2), by have := word_len h2; omega⟩
      · cases hb
    · cases hb
  | move p u =>
    simp only [Action.bad] at hb
    split at hb
    · split at hb
      · rename_i h1 h2
        exact ⟨pth h1, pth h2⟩
      · cases hb
    · cases hb
  | write p ls =>
    simp only [Action.bad] at hb
    split at hb
    · split at hb
      · rename_i h1 h2
        exact ⟨pth h1, lns h2⟩
      · cases hb
    · cases hb
  | splice p o n =>
    simp only [Action.bad] at hb
    split at hb
    · split at hb
      · split at hb
        · rename_i h1 h2 h3
          rw [Bool.and_eq_true] at h2
          exact ⟨pth h1, lns h2.1, lns h3⟩
        · cases hb
      · cases hb
    · cases hb
theorem sep1 : (PySem.Str.ofString " ").length = 1 ∧ (PySem.Str.ofString "(").length = 1 ∧ (PySem.Str.ofString ")\n").length = 2 ∧ (PySem.Str.ofString "\n").length = 1 := by decide +kernel
theorem nine_len : ∀ z ∈ ([PySem.Str.ofString "read", "kind", "list", "find", "count", "write", "remove", "move", "splice"] : List Str), z.length ≤ 6 := by decide +kernel
theorem pl_len {z : Str} (h : isPlaceS z = true) : (placeS z).length ≤ 27 := by have := placeS_len z; have := place_len h; omega
theorem wrA_len {x : Action} (hb : x.bad = none) : (wrA x).length ≤ 700 := by
  obtain ⟨j2, j3, j4⟩ := join4 (PySem.Str.ofString " ")
  obtain ⟨s1, s2, s3, s4⟩ := sep1
  have htx := bad_tx hb
  have one : ∀ {w z : Str}, w ∈ ([PySem.Str.ofString "read", "kind", "list", "find", "count", "write", "remove", "move", "splice"] : List Str) → isPlaceS z = true → (PySem.Str.ofString "(" ++ Txt.join (PySem.Str.ofString " ") [w, placeS z] ++ PySem.Str.ofString ")\n").length ≤ 700 := fun hw hz => by
    have := nine_len _ hw
    have := pl_len hz
    rw [j2]
    simp only [app_len, s1, s2, s3]
    omega
  have two : ∀ {w z u : Str}, w ∈ ([PySem.Str.ofString "read", "kind", "list", "find", "count", "write", "remove", "move", "splice"] : List Str) → isPlaceS z = true → u.length ≤ 300 → (PySem.Str.ofString "(" ++ Txt.join (PySem.Str.ofString " ") [w, placeS z, u] ++ PySem.Str.ofString ")\n").length ≤ 700 := fun hw hz hu => by
    have := nine_len _ hw
    have := pl_len hz
    rw [j3]
    simp only [app_len, s1, s2, s3]
    omega
  cases x with
  | read p =>
    simp only [Action.bad] at hb
    split at hb
    · exact one (by simp) (place_of_path ‹_›)
    · cases hb
  | remove p =>
    simp only [Action.bad] at hb
    split at hb
    · exact one (by simp) (place_of_path ‹_›)
    · cases hb
  | kind p =>
    simp only [Action.bad] at hb
    split at hb
    · exact one (by simp) ‹_›
    · cases hb
  | list p =>
    simp only [Action.bad] at hb
    split at hb
    · exact one (by simp) ‹_›
    · cases hb
  | count p =>
    simp only [Action.bad] at hb
    split at hb
    · exact one (by simp) ‹_›
    · cases hb
  | find p u =>
    simp only [Action.bad] at hb
    split at hb
    · split at hb
      · rename_i h1 h2
        exact two (by simp) h1 (by rw [quoS_len]; have := word_len h2; omega)
      · cases hb
    · cases hb
  | move p u =>
    simp only [Action.bad] at hb
    split at hb
    · split at hb
      · rename_i h1 h2
        exact two (by simp) (place_of_path h1) (by have := path_len h2; omega)
      · cases hb
    · cases hb
  | write p ls =>
    simp only [Action.bad] at hb
    split at hb
    · split at hb
      · rename_i h1 h2
        exact two (by simp) (place_of_path h1) (itemS_len htx.2)
      · cases hb
    · cases hb
  | splice p o n =>
    simp only [Action.bad] at hb
    split at hb
    · split at hb
      · split at hb
        · rename_i h1 h2 h3
          have h4 := itemS_len htx.2.1
          have h5 := itemS_len htx.2.2
          have h6 := pl_len (place_of_path h1)
          show (PySem.Str.ofString "(" ++ Txt.join (PySem.Str.ofString " ") [PySem.Str.ofString "splice", placeS p, itemS o, itemS n] ++ PySem.Str.ofString ")\n").length ≤ 700
          rw [j4]
          simp only [app_len, s1, s2, s3, show (PySem.Str.ofString "splice").length = 6 from by decide +kernel]
          omega
        · cases hb
      · cases hb
    · cases hb
theorem lawW_len {x : Action} (hb : x.bad = none) : (lawW x).length ≤ 700 := by
  have h := wrA_len hb
  rw [← lawW_eq hb, app_len] at h
  omega
theorem tok_few {x : Action} (h : x.tx) : (tokR x).length ≤ 16777216 := by
  unfold tokR
  rw [List.length_append]
  cases x with
  | write p ls =>
    have := brack_len h.2
    show (headR "write" p ePath ++ brackR ls).length + 1 ≤ _
    rw [List.length_append]
    show 3 + _ + 1 ≤ _
    omega
  | splice p o n =>
    have := brack_len h.2.1
    have := brack_len h.2.2
    show ((headR "splice" p ePath ++ brackR o) ++ brackR n).length + 1 ≤ _
    rw [List.length_append, List.length_append]
    show 3 + _ + _ + 1 ≤ _
    omega
  | _ => exact Nat.le_of_ble_eq_true rfl
def spLWritten (K : PySem.W.Frag) : Sp := fun vs H Q _ => ∃ (a : Addr) (x : Action), vs = [.ref a] ∧ ActAt K H a x ∧ x.bad = none ∧ ∀ H', Kp [] H H' → Q (.str (lawW x)) H'
theorem sc__law_written : FnScope ["_law_action_here", "_law_text", "_law_last", "_law_token", "_law_row"] ["_law_action_here"] (defScope s__law_written) := ⟨rfl, rfl, rfl, by decide +kernel, rfl, by decide +kernel, by decide +kernel⟩
theorem bn__law_written : BindN "_law_written" s__law_written ["_law_action_here"] := fun _ _ _ _ _ _ us hl => match us, hl with | [_], _ => rfl
theorem b__law_written (T : TX K mg) : Body P w K mg base "_law_written" s__law_written ["_law_action_here", "_law_text", "_law_last", "_law_token", "_law_row"] 4 (spLWritten K) := by
  intro cdv A outer s H vs Q E h X hr
  obtain ⟨a, x, rfl, ha, hb, q⟩ := h
  have D__law_tokens := D__law_tokens (P := P) (w := w) (base := base) T
  refine ⟨_, (pss_cons (ps_set (i := 1) sc__law_written.nd rfl (Or.inl rfl) pe_str) (pss_cons (ps_set (i := 2) sc__law_written.nd rfl (Or.inl rfl) pe_str) (pss_cons (ps_for PassesOwn.never rfl (pi_listU (K := K) (pe_lc (own := [("_law_row", 4)]) rfl sc__law_written.nd (pi_listU (K := K) (pe_callA D__law_tokens hr pass0 (pa_cons (pv 0) pa_nil))) (blkOk_by (N := ["_law_action_here", "_law_text", "_law_last", "_law_token", "_law_row"]) (sc := defScope s__law_written) (by decide +kernel)) (fun _ _ _ _ _ => (pg_name (i := 4) sc__law_written.nd rfl (Or.inl rfl))) (fun _ _ _ _ _ => pts_nil) (fun _ _ _ _ _ => (pe_ix (ix_U (K := K)) (pv 4) pe_int (fun _ _ => rfl))))) (pg_name (i := 3) sc__law_written.nd rfl (Or.inl rfl)) (pss_cons (ps_if (PW.pt (pw_and (pt_cmpR (op_notInU (K := K)) (pv 2) (pe_tup (pa_cons pe_str (pa_cons pe_str pa_nil))) rfl) (pw_and1 (pt_cmpR (op_notInU (K := K)) (pv 3) (pe_tup (pa_cons pe_str (pa_cons pe_str pa_nil))) rfl)))) (pss_one (ps_set (i := 1) sc__law_written.nd rfl (Or.inl rfl) (pe_op (op_addU (K := K)) (pv 1) pe_str))) pss_nil) (pss_cons (ps_set (i := 1) sc__law_written.nd rfl (Or.inl rfl) (pe_op (op_addU (K := K)) (pv 1) (pv 3))) (pss_one (ps_set (i := 2) sc__law_written.nd rfl (Or.inl rfl) (pv 3)))))) (pss_one (ps_ret (pv 1)))))), ?_⟩
  have wl := lawW_len hb
  walk_at "st"
  refine ⟨a, x, rfl, ha, bad_tx hb, fun H1 p1 ws e1 h1 hd1 => ?_⟩
  have wsl := dta_len hd1
  rw [List.length_map] at wsl
  walk_at "st"
  refine lcQ_dt (K := K) (itn_l (ys := ws) (u := id)) (fun i => .str (((tokR x).map Prod.fst).getD i Str.empty)) (fun _ => true) (by rw [wsl]; exact tok_few (bad_tx hb)) (fun H' e => by rw [List.map_id]; exact SqL.of (e.at0 h1)) (fun i v H' H'' R S hi e y k1 k2 => ?_) (fun Dl ws2 H2 hD e2 hacc hws => ?_)
  · obtain ⟨rfl, y, hy, hvy⟩ := y
    have hvy : v = y := hvy
    subst hvy
    obtain ⟨r, hr⟩ : ∃ r, (tokR x)[i]? = some r := ⟨_, List.getElem?_eq_getElem (by omega)⟩
    obtain ⟨v', hv', hdv⟩ := dta_get hd1 (show ((tokR x).map rowT)[i]? = some (rowT r) from by rw [List.getElem?_map, hr]; rfl)
    rw [hy] at hv'
    injection hv' with hv'
    subst hv'
    obtain ⟨b, rfl, hb2⟩ := two_inv hdv
    have hb3 := SqT.kp e hb2
    have eg : ((tokR x).map Prod.fst).getD i Str.empty = r.1 := by rw [List.getD_eq_getElem?_getD, List.getElem?_map, hr]; rfl
    walk_at "st"
    refine ⟨rfl, ?_⟩
    walk_at "st"
    rw [eg] at k1
    exact k1 rfl _ _ Kp.refl (.str _)
  · have e3 : (((List.range ws.length).filter fun _ => true).map fun i => PyData.str (((tokR x).map Prod.fst).getD i Str.empty)) = ((tokR x).map Prod.fst).map PyData.str := by
      rw [List.filter_eq_self.mpr (fun _ _ => rfl)]
      refine List.ext_getElem (by simp [wsl]) fun i h1 h2 => ?_
      simp only [List.length_map, List.length_range] at h1
      rw [List.getElem_map, List.getElem_map, List.getElem_range, List.getD_eq_getElem?_getD, List.getElem?_eq_getElem (by simp; omega)]
      rfl
    rw [e3] at hws
    have ew := dta_strs hws
    subst ew
    have k02 := e1.trans e2
    generalize hT : (tokR x).map Prod.fst = T at *
    have eW : lawW x = joinT "(" "" T := by unfold lawW; rw [hT]
    walk_at "st"
    refine forQ (itn_l (ys := T) (u := V.str)) (fun i σ' H' => ∃ last t o, σ' = [some (.ref a), some (.str t), some (.str last), o, none] ∧ Kp [] H2 H' ∧ joinT "(" "" T = joinT last t (T.drop i)) ⟨_, _, _, rfl, Kp.refl, rfl⟩ (fun i σ' H' ⟨_, _, _, _, k, _⟩ => SqL.of (k.at0 hacc)) ?_ ?_
    · rintro i v _ H3 H3' hi ⟨last, t, o, rfl, k3, ej⟩ ⟨rfl, y, hy, rfl⟩
      have hd : T.drop i = y :: T.drop (i + 1) := by rw [List.drop_eq_getElem_cons hi]; congr 1; exact (List.getElem?_eq_some_iff.mp hy).2
      rw [hd] at ej
      have hl2 : (joinT last t (y :: T.drop (i + 1))).length ≤ 700 := by rw [← ej, ← eW]; exact wl
      have e1 : (PySem.Str.ofString " ").length = 1 := sep1.1
      have fin : ∀ {H4 : Hp} {t' : Str}, Kp [] H3' H4 → joinT last t (y :: T.drop (i + 1)) = joinT y t' (T.drop (i + 1)) → ∃ last t o, [some (V.ref a), some (V.str t'), some (V.str y), some (V.str y), (none : Option V)] = [some (.ref a), some (.str t), some (.str last), o, none] ∧ Kp [] H2 H4 ∧ joinT "(" "" T = joinT last t (T.drop (i + 1)) :=
        fun k e => ⟨_, _, _, rfl, k3.trans k, by rw [ej, e]⟩
      walk_at "st"
      walk_at "nw"
      intro t7 H7 N7
      refine c_notInSs (ys := braL) (.inr (SqT.of N7.at_)) ?_
      walk_at "st"
      refine c_iteN (fun g1 => ?_) (fun g1 => ?_)
      · walk_at "st"
        walk_at "nw"
        intro t8 H8 N8
        refine c_notInSs (ys := ketL) (.inr (SqT.of N8.at_)) ?_
        walk_at "st"
        refine c_iteN (fun g2 => ?_) (fun g2 => ?_)
        · have ejj := joinT_sp (t := t) (r := T.drop (i + 1)) g1 g2
          have jl := joinT_len (T.drop (i + 1)) y (t ++ PySem.Str.ofString " " ++ y)
          rw [← ejj] at jl
          rw [app_len, app_len, e1] at jl
          walk_at "st"
          refine c_addS (by rw [sizeLine_eq, e1]; omega) ?_
          walk_at "st"
          refine c_addS (by rw [sizeLine_eq, app_len, e1]; omega) ?_
          walk_at "st"
          exact fin (N7.kp.trans N8.kp) ejj
        · have ejj := joinT_no (t := t) (last := last) (r := T.drop (i + 1)) (.inr g2)
          have jl := joinT_len (T.drop (i + 1)) y (t ++ y)
          rw [← ejj] at jl
          rw [app_len] at jl
          walk_at "st"
          refine c_addS (by rw [sizeLine_eq]; omega) ?_
          walk_at "st"
          exact fin (N7.kp.trans N8.kp) ejj
      · have ejj := joinT_no (t := t) (k := y) (r := T.drop (i + 1)) (.inl g1)
        have jl := joinT_len (T.drop (i + 1)) y (t ++ y)
        rw [← ejj] at jl
        rw [app_len] at jl
        walk_at "st"
        refine c_addS (by rw [sizeLine_eq]; omega) ?_
        walk_at "st"
        exact fin N7.kp ejj
    · rintro _ H3 ⟨last, t, o, rfl, k3, ej⟩
      rw [List.drop_length] at ej
      walk_at "st"
      have := q H3 (k02.trans k3)
      rw [eW, ej] at this
      exact this
theorem D__law_written (T : TX K mg) : DefAt P w K mg base CX0 "_law_written" 5 ["_law_action_here"] (spLWritten K) :=
  def_of T 27 43 sc__law_written bn__law_written (by walk_at "len") (b__law_written T)
def sgnC : List Nat := (PySem.Str.ofString "()[] \n").cps.toList
def sgqC : List Nat := (PySem.Str.ofString "()[]\"").cps.toList
theorem app_nilS (t : Str) : t ++ PySem.Str.ofString "" = t := str_ext (by rw [cps_app, show (PySem.Str.ofString "").cps.toList = [] from by decide +kernel, List.append_nil])
theorem bl3 : ∀ z ∈ ([PySem.Str.ofString "", " ", "\n"] : List Str), Bl z.cps.toList ∧ z.length ≤ 2 := by
  unfold Bl
  decide +kernel
theorem bl4 : ∀ z ∈ ([PySem.Str.ofString "", " ", "\n", "  "] : List Str), Bl z.cps.toList ∧ z.length ≤ 2 := by
  unfold Bl
  decide +kernel
theorem sgn_iff {x : Nat} : x ∈ sgnC ↔ x ∈ signsL ∨ x = 32 ∨ x = 10 := by
  have e1 : sgnC = [40, 41, 91, 93, 32, 10] := by decide +kernel
  have e2 : signsL = [40, 41, 91, 93] := by decide +kernel
  rw [e1, e2]
  simp only [List.mem_cons, List.not_mem_nil, or_false]
  omega
theorem sgq_iff {x : Nat} : x ∈ sgqC ↔ x ∈ signsL ∨ x = 34 := by
  have e1 : sgqC = [40, 41, 91, 93, 34] := by decide +kernel
  have e2 : signsL = [40, 41, 91, 93] := by decide +kernel
  rw [e1, e2]
  simp only [List.mem_cons, List.not_mem_nil, or_false]
  omega
def spLLoosen (K : PySem.W.Frag) : Sp := fun vs H Q _ => ∃ (b d : Addr) (z : Str), vs = [.ref b, .str z] ∧ Bx H b d ∧ z.length ≤ 10000 ∧ ∀ y H', Ls false z.cps.toList y.cps.toList → y.length ≤ 100000 → Kp [b] H H' → Bx H' b d → Q (.str y) H'
theorem sc__law_loosen : FnScope ["_law_box", "_law_text", "_law_loose", "_law_quoted_here", "_law_sign"] ["_law_box", "_law_text"] (defScope s__law_loosen) := ⟨rfl, rfl, rfl, by decide +kernel, rfl, by decide +kernel, by decide +kernel⟩
theorem bn__law_loosen : BindN "_law_loosen" s__law_loosen ["_law_box", "_law_text"] := fun _ _ _ _ _ _ us hl => match us, hl with | [_, _], _ => rfl
theorem b__law_loosen (T : TX K mg) : Body P w K mg base "_law_loosen" s__law_loosen ["_law_box", "_law_text", "_law_loose", "_law_quoted_here", "_law_sign"] 2 (spLLoosen K) := by
  intro cdv A outer s H vs Q E h X hr
  obtain ⟨b, d, z, rfl, B, hz, q⟩ := h
  have D__law_draw := D__law_draw (P := P) (w := w) (base := base) T
  refine ⟨_, (pss_cons (ps_set (i := 2) sc__law_loosen.nd rfl (Or.inl rfl) pe_str) (pss_cons (ps_set (i := 3) sc__law_loosen.nd rfl (Or.inl rfl) pe_bl) (pss_cons (ps_for PassesOwn.never rfl (pi_str (pv 1)) (pg_name (i := 4) sc__law_loosen.nd rfl (Or.inl rfl)) (Evl.pss_cut (ps_if (PW.pt (pw_and (pt_not (pt_tru (K := K) (pv 3))) (pw_and1 (pt_cmpR (op_inU (K := K)) (pv 4) pe_str rfl)))) (pss_one (ps_set (i := 2) sc__law_loosen.nd rfl (Or.inl rfl) (pe_op (op_addU (K := K)) (pv 2) (pe_ix (ix_U (K := K)) (pe_lst (pa_cons pe_str (pa_cons pe_str (pa_cons pe_str (pa_cons pe_str pa_nil))))) (pe_callA D__law_draw hr pass0 (pa_cons (pv 0) (pa_cons pe_int pa_nil))) (fun _ _ => rfl))))) pss_nil) (Evl.pss_cut (ps_if (PW.pt (pw_and (pt_cmpR (op_eqU (K := K) hr.units) (pv 4) pe_str (nomark _)) (pw_and1 (pt_not (pt_tru (K := K) (pv 3)))))) (pss_one (ps_set (i := 2) sc__law_loosen.nd rfl (Or.inl rfl) (pe_op (op_addU (K := K)) (pv 2) (pe_ix (ix_U (K := K)) (pe_lst (pa_cons pe_str (pa_cons pe_str (pa_cons pe_str pa_nil)))) (pe_callA D__law_draw hr pass0 (pa_cons (pv 0) (pa_cons pe_int pa_nil))) (fun _ _ => rfl))))) pss_nil) (pss_cons (ps_set (i := 2) sc__law_loosen.nd rfl (Or.inl rfl) (pe_op (op_addU (K := K)) (pv 2) (pv 4))) (Evl.pss_cut (ps_if (pt_cmpR (op_eqU (K := K) hr.units) (pv 4) pe_str (nomark _)) (pss_one (ps_set (i := 3) sc__law_loosen.nd rfl (Or.inl rfl) (pe_not (pv 3)))) pss_nil) (pss_one (ps_if (PW.pt (pw_and (pt_not (pt_tru (K := K) (pv 3))) (pw_and1 (pt_cmpR (op_inU (K := K)) (pv 4) pe_str rfl)))) (pss_one (ps_set (i := 2) sc__law_loosen.nd rfl (Or.inl rfl) (pe_op (op_addU (K := K)) (pv 2) (pe_ix (ix_U (K := K)) (pe_lst (pa_cons pe_str (pa_cons pe_str (pa_cons pe_str pa_nil)))) (pe_callA D__law_draw hr pass0 (pa_cons (pv 0) (pa_cons pe_int pa_nil))) (fun _ _ => rfl))))) pss_nil))))))) (pss_one (ps_ret (pv 2)))))), ?_⟩
  walk_at "st"
  refine forS (fun i σ' H' => ∃ (y : Str) (qu : Bool) (o : Option V), σ' = [some (.ref b), some (.str z), some (.str y), some (.bl qu), o] ∧ Kp [b] H H' ∧ Bx H' b d ∧ y.length ≤ 8 * i ∧ ∀ r s, Ls qu r s → Ls false (z.cps.toList.take i ++ r) (y.cps.toList ++ s)) ⟨PySem.Str.ofString "", false, none, rfl, Kp.refl, B, Nat.le_refl _, fun r s h => by rw [show (PySem.Str.ofString "").cps.toList = [] from by decide +kernel]; exact h⟩ ?_ ?_
  · rintro i c _ H1 hc ⟨y, qu, o, rfl, k1, B1, hy, inv⟩
    have hz2 : z.length = z.cps.toList.length := rfl
    have hi : i < z.cps.toList.length := (List.getElem?_eq_some_iff.mp hc).1
    walk_at "st"
    refine c_cut (fun σ' H' => ∃ b1 : Str, Bl b1.cps.toList ∧ b1.length ≤ 2 ∧ (b1.cps.toList = [] ∨ (qu = false ∧ c ∈ sgnC)) ∧ Kp [b] H1 H' ∧ Bx H' b d ∧ σ' = [some (.ref b), some (.str z), some (.str (y ++ b1)), some (.bl qu), some (.str ⟨#[c]⟩)]) ?_ ?_
    · have no : ∃ b1 : Str, Bl b1.cps.toList ∧ b1.length ≤ 2 ∧ (b1.cps.toList = [] ∨ (qu = false ∧ c ∈ sgnC)) ∧ Kp [b] H1 H1 ∧ Bx H1 b d ∧ [some (.ref b), some (.str z), some (.str y), some (V.bl qu), some (.str ⟨#[c]⟩)] = [some (.ref b), some (.str z), some (.str (y ++ b1)), some (.bl qu), some (.str ⟨#[c]⟩)] :=
        ⟨PySem.Str.ofString "", (bl3 _ (by simp)).1, (bl3 _ (by simp)).2, .inl (by decide +kernel), Kp.refl, B1, by rw [app_nilS]⟩
      walk_at "st"
      refine c_iteNB (fun g1 => ?_) (fun g1 => ?_)
      · walk_at "st"
        refine c_ite (fun g2 => ?_) (fun g2 => ?_)
        · walk_at "st"
          walk_at "nw"
          intro p H2 N2
          walk_at "st"
          refine ⟨b, d, 4, rfl, B1.nw N2, by decide, fun j H3 h0 h1 e3 B3 => ?_⟩
          refine c_pickM (u := V.str) [PySem.Str.ofString "", " ", "\n", "  "] (B1.pick N2 e3) h0 h1 fun u hu => ?_
          obtain ⟨hb, hl⟩ := bl4 u hu
          refine c_addS (by rw [sizeLine_eq]; omega) ?_
          walk_at "st"
          exact ⟨u, hb, hl, .inr ⟨g1, g2⟩, N2.kp.trans e3, B3, rfl⟩
        · walk_at "st"
          exact no
      · walk_at "st"
        exact no
    rintro _ H2 ⟨b1, hb1, hl1, ho1, k2, B2, rfl⟩
    walk_at "st"
    refine c_cut (fun σ' H' => ∃ b2 : Str, Bl b2.cps.toList ∧ b2.length ≤ 2 ∧ (b2.cps.toList = [] ∨ (qu = false ∧ c = 34)) ∧ Kp [b] H2 H' ∧ Bx H' b d ∧ σ' = [some (.ref b), some (.str z), some (.str (y ++ b1 ++ b2)), some (.bl qu), some (.str ⟨#[c]⟩)]) ?_ ?_
    · have no : ∃ b2 : Str, Bl b2.cps.toList ∧ b2.length ≤ 2 ∧ (b2.cps.toList = [] ∨ (qu = false ∧ c = 34)) ∧ Kp [b] H2 H2 ∧ Bx H2 b d ∧ [some (.ref b), some (.str z), some (.str (y ++ b1)), some (V.bl qu), some (.str ⟨#[c]⟩)] = [some (.ref b), some (.str z), some (.str (y ++ b1 ++ b2)), some (.bl qu), some (.str ⟨#[c]⟩)] :=
        ⟨PySem.Str.ofString "", (bl3 _ (by simp)).1, (bl3 _ (by simp)).2, .inl (by decide +kernel), Kp.refl, B2, by rw [app_nilS]⟩
      walk_at "st"
      refine c_ite (fun g2 => ?_) (fun g2 => ?_)
      · walk_at "st"
        refine c_iteNB (fun g1 => ?_) (fun g1 => ?_)
        · walk_at "st"
          walk_at "nw"
          intro p H3 N3
          walk_at "st"
          refine ⟨b, d, 3, rfl, B2.nw N3, by decide, fun j H4 h0 h1 e4 B4 => ?_⟩
          refine c_pickM (u := V.str) [PySem.Str.ofString "", " ", "\n"] (B2.pick N3 e4) h0 h1 fun u hu => ?_
          obtain ⟨hb, hl⟩ := bl3 u hu
          refine c_addS (by rw [sizeLine_eq, app_len]; omega) ?_
          walk_at "st"
          exact ⟨u, hb, hl, .inr ⟨g1, one_inj g2⟩, N3.kp.trans e4, B4, rfl⟩
        · walk_at "st"
          exact no
      · walk_at "st"
        exact no
    rintro _ H3 ⟨b2, hb2, hl2, ho2, k3, B3, rfl⟩
    have cl : ((⟨#[c]⟩ : Str)).length = 1 := rfl
    walk_at "st"
    refine c_addS (by rw [sizeLine_eq, app_len, app_len, cl]; omega) ?_
    walk_at "st"
    refine c_cut (fun σ' H' => H3 = H' ∧ σ' = [some (.ref b), some (.str z), some (.str (y ++ b1 ++ b2 ++ ⟨#[c]⟩)), some (.bl (if c = 34 then !qu else qu)), some (.str ⟨#[c]⟩)]) ?_ ?_
    · walk_at "st"
      refine c_ite (fun g => ?_) (fun g => ?_)
      · have := one_inj g
        subst this
        walk_at "st"
        exact ⟨rfl, rfl⟩
      · have g' : c ≠ 34 := fun e => g (by rw [e]; rfl)
        walk_at "st"
        exact ⟨rfl, by rw [if_neg g']; rfl⟩
    rintro _ _ ⟨rfl, rfl⟩
    have cc : ((⟨#[c]⟩ : Str)).cps.toList = [c] := rfl
    have hd : z.cps.toList.take (i + 1) = z.cps.toList.take i ++ [c] := take_succ' hc
    have fin : ∀ (H5 : Hp) (b4 : Str), Bl b4.cps.toList → b4.length ≤ 2 → (b4.cps.toList = [] ∨ ((if c = 34 then !qu else qu) = false ∧ c ∈ sgqC)) → Kp [b] H3 H5 → Bx H5 b d →
        ∃ (y' : Str) (qu' : Bool) (o : Option V), [some (V.ref b), some (V.str z), some (V.str (y ++ b1 ++ b2 ++ ⟨#[c]⟩ ++ b4)), some (V.bl (if c = 34 then !qu else qu)), some (V.str ⟨#[c]⟩)] = [some (.ref b), some (.str z), some (.str y'), some (.bl qu'), o] ∧ Kp [b] H H5 ∧ Bx H5 b d ∧ y'.length ≤ 8 * (i + 1) ∧
          ∀ r s, Ls qu' r s → Ls false (z.cps.toList.take (i + 1) ++ r) (y'.cps.toList ++ s) := fun H5 b4 hb4 hl4 ho4 k5 B5 => by
      refine ⟨_, _, _, rfl, ((k1.trans k2).trans k3).trans k5, B5, by rw [app_len, app_len, app_len, app_len, cl]; omega, fun r s h => ?_⟩
      rw [hd, List.append_assoc, cps_app, cps_app, cps_app, cps_app, cc]
      have key : Ls qu (c :: r) (b1.cps.toList ++ (b2.cps.toList ++ c :: (b4.cps.toList ++ s))) := by
        have nil : ∀ {u : Str}, u.cps.toList = [] → ∀ l : List Nat, u.cps.toList ++ l = l := fun e l => by rw [e]; rfl
        by_cases h34 : c = 34
        · subst h34
          rw [if_pos rfl] at h ho4
          have n34 : (34 : Nat) ∉ sgnC := by decide +kernel
          have e1 : b1.cps.toList = [] := ho1.resolve_right fun z => n34 z.2
          cases qu with
          | false =>
            have e4 : b4.cps.toList = [] := ho4.resolve_right fun z => by cases z.1
            rw [nil e1, nil e4]
            exact .opens hb2 h
          | true =>
            have e2 : b2.cps.toList = [] := ho2.resolve_right fun z => by cases z.1
            rw [nil e1, nil e2]
            exact .closes hb4 h
        · rw [if_neg h34] at h ho4
          have e2 : b2.cps.toList = [] := ho2.resolve_right fun z => h34 z.2
          cases qu with
          | true =>
            have e1 : b1.cps.toList = [] := ho1.resolve_right fun z => by cases z.1
            have e4 : b4.cps.toList = [] := ho4.resolve_right fun z => by cases z.1
            rw [nil e1, nil e2, nil e4]
            exact .inside h34 h
          | false =>
            rw [nil e2]
            by_cases hs : c ∈ signsL
            · exact .sign hs hb1 hb4 h
            have e4 : b4.cps.toList = [] := ho4.resolve_right fun z => by
              rcases sgq_iff.mp z.2 with z | z
              · exact hs z
              · exact h34 z
            rw [nil e4]
            by_cases hbl : c = 32 ∨ c = 10
            · exact .blank hbl hb1 h
            have e1 : b1.cps.toList = [] := ho1.resolve_right fun z => by
              rcases sgn_iff.mp z.2 with z | z
              · exact hs z
              · exact hbl z
            rw [nil e1]
            refine .word (fun he => ?_) h
            rcases ends_iff.mp he with z | z | z | z
            · exact hbl (.inl z)
            · exact hbl (.inr z)
            · exact h34 z
            · exact hs z
      have := inv _ _ key
      simp only [List.append_assoc, List.singleton_append] at this ⊢
      exact this
    walk_at "st"
    have nop := fin H3 (PySem.Str.ofString "") (bl3 _ (by simp)).1 (bl3 _ (by simp)).2 (.inl (by decide +kernel)) Kp.refl B3
    rw [app_nilS] at nop
    refine c_iteNB (fun g1 => ?_) (fun g1 => ?_)
    · walk_at "st"
      refine c_ite (fun g2 => ?_) (fun g2 => ?_)
      · walk_at "st"
        walk_at "nw"
        intro p H4 N4
        walk_at "st"
        refine ⟨b, d, 3, rfl, B3.nw N4, by decide, fun j H5 h0 h1 e5 B5 => ?_⟩
        refine c_pickM (u := V.str) [PySem.Str.ofString "", " ", "\n"] (B3.pick N4 e5) h0 h1 fun u hu => ?_
        obtain ⟨hb, hl⟩ := bl3 u hu
        refine c_addS (by rw [sizeLine_eq, app_len, app_len, app_len, cl]; omega) ?_
        walk_at "st"
        exact fin H5 u hb hl (.inr ⟨g1, g2⟩) (N4.kp.trans e5) B5
      · walk_at "st"
        exact nop
    · walk_at "st"
      exact nop
  · rintro _ H1 ⟨y, qu, o, rfl, k1, B1, hy, inv⟩
    walk_at "st"
    have := inv [] [] .nil
    rw [List.take_length, List.append_nil, List.append_nil] at this
    exact q y H1 this (by have : z.length = z.cps.toList.length := rfl; omega) k1 B1
theorem D__law_loosen (T : TX K mg) : DefAt P w K mg base CX0 "_law_loosen" 3 ["_law_box", "_law_text"] (spLLoosen K) :=
  def_of T 29 46 sc__law_loosen bn__law_loosen (by walk_at "len") (b__law_loosen T)
end
end K06



namespace K06
open PySem L2 Sa
local macro_rules | `(tactic| walk_at "s1") => `(tactic| first | (with_reducible apply c_dgetK))
local macro_rules | `(tactic| walk_at "s1") => `(tactic| (with_reducible apply c_raiseO))
local macro_rules | `(tactic| walk_at "s1") => `(tactic| first | (with_reducible apply c_dgetK))
local macro_rules | `(tactic| walk_at "s1") => `(tactic| (with_reducible apply c_raiseO))
local macro_rules | `(tactic| walk_at "s1") => `(tactic| first | (with_reducible apply c_un) | (with_reducible apply c_negI))
set_option pp.maxSteps 1500
section
variable {P : Program} {w : World} {K : PySem.W.Frag} {mg : Str → Option Value} {base : Heap}
theorem wr_ok {x : Action} (hb : x.bad = none) : okS (wrA x) = true := by
  have hx := bad_tx hb
  have ap : ∀ {u v : Str}, okS u = true → okS v = true → okS (u ++ v) = true := fun hu hv => okS_iff.mpr fun c hc => by
    rw [cps_app] at hc
    rcases List.mem_append.mp hc with hc | hc
    · exact okS_iff.mp hu c hc
    · exact okS_iff.mp hv c hc
  have jn : ∀ {s : Str} {ys : List Str}, okS s = true → (∀ y ∈ ys, okS y = true) → okS (Txt.join s ys) = true := fun hs hy => okS_iff.mpr fun c hc => by
    rw [tjoin] at hc
    rcases mem_join hc with hc | ⟨z, hz, hc⟩
    · exact okS_iff.mp hs c hc
    · exact okS_iff.mp (hy z hz) c hc
  have quo : ∀ {u : Str}, okS u = true → okS (quoS u) = true := fun hu => ap (ap (by decide +kernel) hu) (by decide +kernel)
  have item : ∀ {ls : List Str}, LsTx ls → okS (itemS ls) = true := fun hl => ap (ap (by decide +kernel) (jn (by decide +kernel) fun y hy => by
    obtain ⟨z, hz, rfl⟩ := List.mem_map.mp hy
    exact quo (hl.tx z hz).ok)) (by decide +kernel)
  have pl : ∀ {z : Str}, okS z = true → okS (placeS z) = true := fun hz => by
    unfold placeS
    split
    · decide +kernel
    · exact hz
  have nine : ∀ z ∈ ([PySem.Str.ofString "read", "kind", "list", "find", "count", "write", "remove", "move", "splice"] : List Str), okS z = true := by decide +kernel
  refine ap (ap (by decide +kernel) (jn (by decide +kernel) ?_)) (by decide +kernel)
  cases x with
  | read p =>
    intro y hy
    simp only [Action.parts, List.mem_cons, List.not_mem_nil, or_false] at hy
    rcases hy with rfl | rfl
    · exact nine _ (by simp)
    · exact pl hx.ok
  | kind p =>
    intro y hy
    simp only [Action.parts, List.mem_cons, List.not_mem_nil, or_false] at hy
    rcases hy with rfl | rfl
    · exact nine _ (by simp)
    · exact pl hx.ok
  | list p =>
    intro y hy
    simp only [Action.parts, List.mem_cons, List.not_mem_nil, or_false] at hy
    rcases hy with rfl | rfl
    · exact nine _ (by simp)
    · exact pl hx.ok
  | count p =>
    intro y hy
    simp only [Action.parts, List.mem_cons, List.not_mem_nil, or_false] at hy
    rcases hy with rfl | rfl
    · exact nine _ (by simp)
    · exact pl hx.ok
  | remove p =>
    intro y hy
    simp only [Action.parts, List.mem_cons, List.not_mem_nil, or_false] at hy
    rcases hy with rfl | rfl
    · exact nine _ (by simp)
    · exact pl hx.ok
  | find p u =>
    intro y hy
    simp only [Action.parts, List.mem_cons, List.not_mem_nil, or_false] at hy
    rcases hy with rfl | rfl | rfl
    · exact nine _ (by simp)
    · exact pl hx.1.ok
    · exact quo hx.2.ok
  | move p u =>
    intro y hy
    simp only [Action.parts, List.mem_cons, List.not_mem_nil, or_false] at hy
    rcases hy with rfl | rfl | rfl
    · exact nine _ (by simp)
    · exact pl hx.1.ok
    · exact hx.2.ok
  | write p ls =>
    intro y hy
    simp only [Action.parts, List.mem_cons, List.not_mem_nil, or_false] at hy
    rcases hy with rfl | rfl | rfl
    · exact nine _ (by simp)
    · exact pl hx.1.ok
    · exact item hx.2
  | splice p o n =>
    intro y hy
    simp only [Action.parts, List.mem_cons, List.not_mem_nil, or_false] at hy
    rcases hy with rfl | rfl | rfl | rfl
    · exact nine _ (by simp)
    · exact pl hx.1.ok
    · exact item hx.2.1
    · exact item hx.2.2
theorem acts_small {acts : List Action} (hb : ∀ x ∈ acts, x.bad = none) : ((acts.map wrA).map (·.length)).sum ≤ acts.length * 700 := by
  have := sum_le (m := 700) (ns := acts.map wrA) fun y hy => by
    obtain ⟨x, hx, rfl⟩ := List.mem_map.mp hy
    exact wrA_len (hb x hx)
  rw [List.length_map] at this
  exact this
theorem wrAs_len {acts : List Action} (hb : ∀ x ∈ acts, x.bad = none) : (wrAs acts).length ≤ acts.length * 700 := by
  unfold wrAs
  have := join_most (s := PySem.Str.ofString "") (m := 700) (ys := acts.map wrA) fun y hy => by
    obtain ⟨x, hx, rfl⟩ := List.mem_map.mp hy
    exact wrA_len (hb x hx)
  rw [List.length_map, show (PySem.Str.ofString "").length = 0 from by decide +kernel] at this
  omega
theorem ls_ok : ∀ {q : Bool} {cs ds : List Nat}, Ls q cs ds → (∀ c ∈ cs, c < 1114112) → ∀ c ∈ ds, c < 1114112 := by
  intro q cs ds h
  have bl : ∀ {b : List Nat}, Bl b → ∀ c ∈ b, c < 1114112 := fun hb c hc => by rcases hb c hc with rfl | rfl <;> decide
  induction h with
  | nil => exact fun h => h
  | word _ _ ih =>
    intro h c hc
    rcases List.mem_cons.mp hc with rfl | hc
    · exact h _ (List.mem_cons_self ..)
    · exact ih (fun z hz => h z (List.mem_cons_of_mem _ hz)) c hc
  | blank _ hb _ ih =>
    intro h c hc
    rcases List.mem_append.mp hc with hc | hc
    · exact bl hb c hc
    rcases List.mem_cons.mp hc with rfl | hc
    · exact h _ (List.mem_cons_self ..)
    · exact ih (fun z hz => h z (List.mem_cons_of_mem _ hz)) c hc
  | sign _ ha hb _ ih =>
    intro h c hc
    rcases List.mem_append.mp hc with hc | hc
    · exact bl ha c hc
    rcases List.mem_cons.mp hc with rfl | hc
    · exact h _ (List.mem_cons_self ..)
    rcases List.mem_append.mp hc with hc | hc
    · exact bl hb c hc
    · exact ih (fun z hz => h z (List.mem_cons_of_mem _ hz)) c hc
  | opens hb _ ih =>
    intro h c hc
    rcases List.mem_append.mp hc with hc | hc
    · exact bl hb c hc
    rcases List.mem_cons.mp hc with rfl | hc
    · decide
    · exact ih (fun z hz => h z (List.mem_cons_of_mem _ hz)) c hc
  | inside _ _ ih =>
    intro h c hc
    rcases List.mem_cons.mp hc with rfl | hc
    · exact h _ (List.mem_cons_self ..)
    · exact ih (fun z hz => h z (List.mem_cons_of_mem _ hz)) c hc
  | closes hb _ ih =>
    intro h c hc
    rcases List.mem_cons.mp hc with rfl | hc
    · decide
    rcases List.mem_append.mp hc with hc | hc
    · exact bl hb c hc
    · exact ih (fun z hz => h z (List.mem_cons_of_mem _ hz)) c hc
theorem wrAs_ok {acts : List Action} (hb : ∀ x ∈ acts, x.bad = none) : ∀ c ∈ (wrAs acts).cps.toList, c < 1114112 := by
  rw [acts_cps]
  intro c hc
  obtain ⟨x, hx, hc⟩ := List.mem_flatMap.mp hc
  exact okS_iff.mp (wr_ok (hb x hx)) c hc
def spLaw (K : PySem.W.Frag) : Sp := fun vs H Q _ => ∃ (a : Addr) (ns : List Int), vs = [.ref a] ∧ SqL K H a (ns.map V.int) ∧ ∀ H', Q (.bl true) H'
theorem sc_law : FnScope ["_law_script", "_law_box", "_law_turn", "_law_files_here", "_law_actions", "_law_text", "_law_loose", "_law_k", "_law_action_here"] ["_law_script"] (defScope s_law) := ⟨rfl, rfl, rfl, by decide +kernel, rfl, by decide +kernel, by decide +kernel⟩
theorem bn_law : BindN "law" s_law ["_law_script"] := fun _ _ _ _ _ _ us hl => match us, hl with | [_], _ => rfl
theorem b_law (T : TX K mg) : BodyG P w K mg base "law" s_law ["_law_script", "_law_box", "_law_turn", "_law_files_here", "_law_actions", "_law_text", "_law_loose", "_law_k", "_law_action_here"] 8 (spLaw K) := by
  intro cdv A outer s H vs Q E h X hr hg
  obtain ⟨a, ns, rfl, hs, q⟩ := h
  have D__law_action := D__law_action (P := P) (w := w) (base := base) T; have D__law_alike := D__law_alike (P := P) (w := w) (base := base) T; have D__law_digits := D__law_digits (P := P) (w := w) (base := base) T; have D__law_draw := D__law_draw (P := P) (w := w) (base := base) T; have D__law_files := D__law_files (P := P) (w := w) (base := base) T; have D__law_loosen := D__law_loosen (P := P) (w := w) (base := base) T; have D__law_written := D__law_written (P := P) (w := w) (base := base) T; have D_read_actions := D_read_actions (P := P) (w := w) (base := base) T; have D_write_actions := D_write_actions (P := P) (w := w) (base := base) T
  refine ⟨_, (pss_cons (ps_set (i := 1) sc_law.nd rfl (Or.inr rfl) (pe_lst (pa_cons (pe_callA D__law_digits hr pass0 (pa_cons (pv 0) (pa_cons pe_int (pa_cons pe_int pa_nil)))) (pa_cons pe_int pa_nil)))) (pss_cons (ps_for PassesOwn.never rfl (pi_range1 rfl (T.free 23) (pa_cons pe_int pa_nil)) (pg_name (i := 2) sc_law.nd rfl (Or.inl rfl)) (pss_cons (ps_set (i := 3) sc_law.nd rfl (Or.inr rfl) (pe_callA D__law_files hr pass0 (pa_cons (pv 1) (pa_cons pe_int pa_nil)))) (pss_cons (ps_set (i := 4) sc_law.nd rfl (Or.inl rfl) (pe_callTy (cr_tuple (K := K)) rfl (T.free 17) (by decide +kernel) (pa_cons (pe_lc (own := [("_law_k", 7)]) rfl sc_law.nd (pi_range1 rfl (T.free 23) (pa_cons (pe_callA D__law_draw hr pass0 (pa_cons (pv 1) (pa_cons pe_int pa_nil))) pa_nil)) (blkOk_by (N := ["_law_script", "_law_box", "_law_turn", "_law_files_here", "_law_actions", "_law_text", "_law_loose", "_law_k", "_law_action_here"]) (sc := defScope s_law) (by decide +kernel)) (fun _ _ _ _ _ => (pg_name (i := 7) sc_law.nd rfl (Or.inl rfl))) (fun _ _ _ _ _ => pts_nil) (fun _ _ _ _ _ => (pe_callA D__law_action hr pass0 (pa_cons (pv 1) (pa_cons (pv 3) pa_nil))))) pa_nil))) (pss_cons (ps_set (i := 5) sc_law.nd rfl (Or.inl rfl) (pe_joinU (K := K) pe_str (pe_lc (own := [("_law_action_here", 8)]) rfl sc_law.nd (pi_tupU (K := K) (pv 4)) (blkOk_by (N := ["_law_script", "_law_box", "_law_turn", "_law_files_here", "_law_actions", "_law_text", "_law_loose", "_law_k", "_law_action_here"]) (sc := defScope s_law) (by decide +kernel)) (fun _ _ _ _ _ => (pg_name (i := 8) sc_law.nd rfl (Or.inl rfl))) (fun _ _ _ _ _ => pts_nil) (fun _ _ _ _ _ => (pe_op (op_addU (K := K)) (pe_callA D__law_written hr pass0 (pa_cons (pv 8) pa_nil)) pe_str))))) (pss_cons (ps_if (PW.pt (pw_or (pt_cmpR (op_neU (K := K) hr.units) (pe_callA D_write_actions hr pass0 (pa_cons (pv 4) pa_nil)) (pv 5) (nomark _)) (pw_or1 (pt_not (pt_tru (K := K) (pe_callG D__law_alike hr hg (pa_cons (pe_callA D_read_actions hr passE0 (pa_cons (pv 5) pa_nil)) (pa_cons (pv 4) pa_nil)))))))) (pss_one (ps_ret pe_bl)) pss_nil) (pss_cons (ps_set (i := 6) sc_law.nd rfl (Or.inl rfl) (pe_callA D__law_loosen hr pass0 (pa_cons (pv 1) (pa_cons (pv 5) pa_nil)))) (pss_one (ps_if (PW.pt (pw_and (pt_cmpR op_leU (pe_callB (cr_len (K := K)) rfl (T.free 2) PySem.boot_len (pa_cons (pv 6) pa_nil)) pe_int (nomark _)) (pw_and1 (pt_not (pt_tru (K := K) (pe_callG D__law_alike hr hg (pa_cons (pe_callA D_read_actions hr passE0 (pa_cons (pv 6) pa_nil)) (pa_cons (pv 4) pa_nil)))))))) (pss_one (ps_ret pe_bl)) pss_nil)))))))) (pss_one (ps_ret (pe_and (pe_cmpR (op_eqU (K := K) hr.units) (pe_callA D_write_actions hr pass0 (pa_cons (pe_tup pa_nil) pa_nil)) pe_str (nomark _)) (pe_one (pe_cmpR (op_eqU (K := K) hr.units) (pe_callA D_read_actions hr passE0 (pa_cons pe_str pa_nil)) (pe_tup pa_nil) (nomark _)))))))), ?_⟩
  walk_at "st"
  refine ⟨a, ns, rfl, hs, fun d ds hd => ?_⟩
  walk_at "st"
  walk_at "nw"
  intro b H1 N1
  have B1 : Bx H1 b d := ⟨0, ds, N1.at_, N1.keep upd_same, by decide⟩
  walk_at "st"
  refine forR (fun i σ H' => ∃ v2 v3 v4 v5 v6 v7 v8, σ = [some (.ref a), some (.ref b), v2, v3, v4, v5, v6, v7, v8] ∧ Bx H' b d) ⟨_, _, _, _, _, _, _, rfl, B1⟩ ?_ ?_
  · rintro i σ H3 hi ⟨v2, v3, v4, v5, v6, v7, v8, rfl, B3⟩
    walk_at "st"
    refine ⟨b, d, 6, rfl, B3, by decide, by decide, fun f fs H4 G hfl F4 e4 B4 hfn => ?_⟩
    walk_at "st"
    refine ⟨b, d, 9, rfl, B4, by decide, fun n H5 h0 h1 e5 B5 => ?_⟩
    have F5 := F4.kb B4 e5
    walk_at "st"
    refine lcR (fun Dl i acc H' => Kp [b] H5 H' ∧ Bx H' b d ∧ ∃ acts : List Action, DtAll K H' acc (acts.map Action.d) ∧ acts.length = i ∧ ∀ x ∈ acts, x.bad = none) (fun Dl hD => ⟨Kp.new hD, B5.new hD, [], .nil, rfl, by simp⟩) ?_ ?_
    · rintro Dl i acc H' hD hi hacc hl ⟨e, B', acts, hda, hlen, hb⟩
      have nD := B5.ne_new hD
      walk_at "st"
      refine ⟨rfl, ?_⟩
      walk_at "st"
      refine ⟨b, d, f, fs, rfl, B', F5.kb B5 e, G, fun p x H6 hx _ e6 B6 hA => ?_⟩
      have hacc6 := e6.at1 nD.1 hacc
      have kt : Kt H6 (upd H6 Dl (.lst (acc ++ [.ref p]))) := Kt.upd1 (NoT.lst hacc6)
      refine lc_push hacc6 hl (by omega) ⟨(e.trans e6).fresh_mut hD, B6.other nD.1 nD.2, acts ++ [x], ?_, by rw [List.length_append, hlen]; rfl, fun y hy => ?_⟩
      · rw [List.map_append]
        exact dta_snoc (DtAll.kt kt (DtAll.kt (B'.kt e6) hda)) (Dt.kt kt hA.dt)
      · rcases List.mem_append.mp hy with h | h
        · exact hb y h
        · rw [List.mem_singleton.mp h]; exact hx
    rintro Dl acc H6 hD hacc hl ⟨e6, B6, acts, hda, hlen, hb⟩
    have al : acts.length ≤ 8 := by omega
    have alc := dta_len hda
    rw [List.length_map] at alc
    walk_at "st"
    refine c_tupleL (SqL.of hacc) fun pa H7 N7 => ?_
    have hda7 := hda.kp N7.kp
    have hpa7 : SqT K H7 pa acc := SqT.of N7.at_
    have B7 := B6.nw N7
    have em : (acc.zip acts).map Prod.fst = acc := List.map_fst_zip (by omega)
    have em2 : (acc.zip acts).map Prod.snd = acts := List.map_snd_zip (by omega)
    have hpz : SqT K H7 pa ((acc.zip acts).map fun z => z.1) := by rw [show ((acc.zip acts).map fun z => z.1) = acc from em]; exact hpa7
    have wl := wrAs_len hb
    have wsum := acts_small hb
    have rd := read_written hb
    have dt : ∀ {H' : Hp}, Kp [] H7 H' → DtAll K H' acc (acts.map Action.d) := fun k => hda7.kp k
    have htx : ∀ x ∈ acts, x.tx := fun x hx => bad_tx (hb x hx)
    have frf : Fit 3 (1013 * 8) (.tuple (acts.map Action.d)) := Fit.tup (fun d hd => by obtain ⟨x, hx, rfl⟩ := List.mem_map.mp hd; exact fit_action (hb x hx)) (by rw [List.length_map]; exact al)
    walk_at "st"
    refine lcT_map (u := fun z : V × Action => z.1) (fun z => .str (wrA z.2)) (fun _ => true) hpz (by rw [List.length_zip]; omega) (fun z H' R S hz e k1 k2 => ?_) (fun Dl2 H8 hD2 e8 hacc2 => ?_)
    · obtain ⟨c, ec, hc⟩ := ActAt.of (zip_dt hda7 z hz)
      have hbz : z.2.bad = none := hb _ (by rw [← em2]; exact List.mem_map_of_mem hz)
      walk_at "st"
      refine ⟨rfl, ?_⟩
      rw [ec]
      walk_at "st"
      refine ⟨c, z.2, rfl, hc.kp e, hbz, fun H4 e4 => ?_⟩
      have ll := lawW_len hbz
      walk_at "st"
      refine c_addS (by rw [sizeLine_eq, sep1.2.2.2]; omega) ?_
      rw [lawW_eq hbz]
      exact k1 rfl _ e4
    rw [List.filter_eq_self.mpr (fun _ _ => rfl)] at hacc2
    have e3 : ((acc.zip acts).map fun z => V.str (wrA z.2)) = (acts.map wrA).map V.str := by
      rw [show ((acc.zip acts).map fun z => V.str (wrA z.2)) = (((acc.zip acts).map Prod.snd).map wrA).map V.str from by rw [List.map_map, List.map_map]; rfl, em2]
    rw [e3] at hacc2
    walk_at "st"
    refine c_join (ys := acts.map wrA) (SqL.of hacc2) (by rw [show (PySem.Str.ofString "").length = 0 from by decide +kernel]; omega) ?_
    walk_at "st"
    refine ⟨pa, acc, acts, rfl, SqT.kp e8 hpa7, dt e8, htx, by omega, by omega, fun H9 e9 => ?_⟩
    walk_at "st"
    refine c_iteN (fun g => absurd rfl g) (fun _ => ?_)
    have k79 : Kp [] H7 H9 := e8.trans e9
    have okw := wrAs_ok hb
    have nice : Nice (.tuple (acts.map Action.d)) := frf.nice (by decide) (by decide)
    have dpa : ∀ {H' : Hp}, Kp [] H7 H' → Dp K H' (.ref pa) (.tuple (acts.map Action.d)) := fun k => (Dt.tup (SqT.kp k hpa7) (dt k)).dp
    walk_at "st"
    refine ⟨wrAs acts, rfl, by omega, okS_iff.mpr okw, fun h => absurd h (by omega), fun _ => ⟨(fun fl e => by rw [rd] at e; cases e), fun acts2 ea _ H10 pr xs e10 hpr hdr => ?_⟩⟩
    rw [rd] at ea
    injection ea with ea
    subst ea
    walk_at "st"
    refine ⟨_, _, _, rfl, (Dt.tup hpr hdr).dp, dpa (k79.trans e10), nice, ?_⟩
    walk_at "dc"
    have B10 := (B7.kp0 k79).kp0 e10
    refine ⟨b, d, wrAs acts, rfl, B10, by omega, fun y H11 hls hyl e11 B11 => ?_⟩
    have rl := read_loose hb hls
    have hs2 : y.length ≤ sizeLine := by rw [sizeLine_eq]; omega
    walk_at "st"
    refine c_ite (fun g => ?_) (fun g => ?_)
    · walk_at "st"
      refine ⟨y, rfl, by omega, okS_iff.mpr (ls_ok hls okw), fun h => absurd h (by omega), fun _ => ⟨(fun fl e => by rw [rl] at e; cases e), fun acts3 ea _ H12 pr2 xs2 e12 hpr2 hdr2 => ?_⟩⟩
      rw [rl] at ea
      injection ea with ea
      subst ea
      have kt11 := B10.kt e11
      have d11 : Dt K H11 (.ref pa) (.tuple (acts.map Action.d)) := Dt.kt kt11 (Dt.tup (SqT.kp (k79.trans e10) hpa7) (dt (k79.trans e10)))
      walk_at "st"
      refine ⟨_, _, _, rfl, (Dt.tup hpr2 hdr2).dp, (d11.kp e12).dp, nice, ?_⟩
      walk_at "dc"
      exact ⟨_, _, _, _, _, _, _, rfl, B11.kp0 e12⟩
    · walk_at "st"
      exact ⟨_, _, _, _, _, _, _, rfl, B11⟩
  · rintro σ H7 ⟨v2, v3, v4, v5, v6, v7, v8, rfl, B7⟩
    walk_at "st"
    walk_at "nw"
    intro p1 H8 N8
    walk_at "st"
    refine ⟨p1, [], [], rfl, SqT.of N8.at_, .nil, (fun _ h => by cases h), Nat.zero_le _, Nat.zero_le _, fun H9 e9 => ?_⟩
    walk_at "st"
    refine c_iteT (by rw [decide_eq_true_eq]; unfold wrAs; rw [tjoin]; rfl) ?_
    have rd : readTx (PySem.Str.ofString " \n ") = .ok [] := read_lx (acts := []) (by decide +kernel) (by simp)
    walk_at "st"
    refine ⟨_, rfl, by decide +kernel, by decide +kernel, fun h => absurd h (by decide +kernel), fun _ => ⟨(fun fl e => by rw [rd] at e; cases e), fun acts3 ea _ H10 pr xs e10 hpr hdr => ?_⟩⟩
    rw [rd] at ea
    injection ea with ea
    subst ea
    walk_at "st"
    walk_at "nw"
    intro p2 H11 N11
    refine c_eqD (Dt.tup hpr hdr |>.kp N11.kp).dp (Dt.tup (SqT.of N11.at_) .nil).dp (by decide +kernel) (by decide +kernel) ?_
    walk_at "dc"
    exact q _
end
end K06



namespace K06
open PySem L2 Sa
theorem atEnd {P : Program} {w : World} {K : PySem.W.Frag} {h : Heap} {mg : Str → Option Value} {f : Addr} (KX : K.In h) (G : h.Ns mainGlobals mg) (hf : mg "law" = some (.ref f)) (c : He.SaysD fa fn K) (cx : exs fx K = true) :
    ∃ fd : FuncData, (∀ (s : Shared) (v : Value), BindsTo s fd ⟨[v], []⟩ [("_law_script", v)]) ∧ ∀ base : Heap, K.In base → base.Ns mainGlobals mg → FnG P w K mg base CX0 9 f fd ["_law_script"] (spLaw K) :=
  lawG_of KX G c hf 30 47 sc_law bn_law (fun vs H Q E z => by obtain ⟨a, ns, rfl, _⟩ := z; rfl) fun base => b_law ⟨h, KX, G, c, cx⟩
end K06
open PySem PySem.W PySem.Calls PyProof.Rows
set_option maxRecDepth 100000 in
set_option maxHeartbeats 0 in
theorem PySem.Challenge.cw_sameanswers_k06_actions_written_and_read_holds : PySem.Challenge.rw_sameanswers_k06_actions_written_and_read.Holds := by
  w_on; o_law
  refine HandSHeadRun.head_any (r := OpenLaw.row PySem.Challenge.rw_sameanswers_k06_actions_written_and_read) (q := K06.qv) (H := K06.hk) (ob := K06.ob) (M := 4000) (loose := K06.loose) (d := HandSHeadRun.topDef (OpenLaw.row PySem.Challenge.rw_sameanswers_k06_actions_written_and_read).prog 51) (kwd := []) K06.ob_eq
    (by kernel_rfl) (fun s => by kernel_rfl) K06.run (by kernel_rfl) (by kernel_rfl) (by kernel_rfl) (by rfl) (by first | assumption | decide +kernel) (by decide +kernel) ⟨rfl, rfl, rfl, rfl, rfl, by decide +kernel⟩ ?hw ?hc
  case hw => w_witness2
  case hc =>
    refine Sa.law_end (l := PySem.Challenge.rw_sameanswers_k06_actions_written_and_read) (n := 63) (k := 9) (x := "_law_script") rfl (by decide) (by kernel_rfl) ⟨rfl, by decide, by decide⟩ ?F
    intro w mg fa h Y G hmg0
    obtain ⟨K, KX, c⟩ := Y
    have cd := c.t.d
    have cx := c.more
    have hmg : mg ("law" : PySem.Str) = some (.ref fa) := by
      have e : (HandSHeadRun.topDef (OpenLaw.row PySem.Challenge.rw_sameanswers_k06_actions_written_and_read).prog 51).name = ("law" : PySem.Str) := by kernel_rfl
      rw [← e]
      exact hmg0
    obtain ⟨fd, hb, hF⟩ := K06.atEnd (P := (PySem.Challenge.rw_sameanswers_k06_actions_written_and_read).prog) (w := w) KX G hmg cd cx
    exact ⟨K, fd, K06.spLaw K, KX, hb, fun H a ns hS => ⟨a, ns, rfl, hS, fun _ => rfl⟩, hF⟩
#print axioms PySem.Challenge.cw_sameanswers_k06_actions_written_and_read_holds



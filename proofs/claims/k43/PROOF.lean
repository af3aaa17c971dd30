import PyProof.Rows.All
import Wide.All
import OpenK.AllK
import Wide.FinOn
import HandS.ForMost
import HandS.ForExc
import HandS.Evl
import HandS.TupAny
import HandS.TupMul
import HandS.TryMany
import HandS.ExcField
import HandS.ExcInit
import HandS.Zip
import HandS.DictComp
import HandS.Defaults
import HandS.More
import HandS.SetKeys
import HandS.Deep
import HandS.Codes
import HandS.HeadHook2
import HandS.HeadHook4
import HandS.HeadEnd
import HandS.Head2
import KE.KEqSeq
import PyProof.StrLawsChain
import PyProof.StrLawsTight
import PyProof.StrLawsAffix
import HandS.IsInst
import KE.BitLaws
import PySem.Challenge.RW_sameanswers_k43_records_in_pieces
set_option Elab.async false
set_option linter.all false
set_option maxRecDepth 100000
set_option maxHeartbeats 4000000
namespace Sa
open PySem PySem.Spec PyProof.Rows L2

/-! ## operators whatever the operands are -/
section
variable {X : Cx}
def orR (r r' : R2) : R2 := fun x y H Q => r x y H Q ∨ r' x y H Q
def rAddS : R2 := fun x y H Q => ∃ i j, x = .str i ∧ y = .str j ∧ i.length + j.length ≤ sizeLine ∧ Q (.str (i ++ j)) H
def rAddU (K : PySem.W.Frag) : R2 := orR (rI0 fun i j => .int (i + j)) (orR rAddS (orR rCat (rCatA K)))
theorem op_addU {K : PySem.W.Frag} (hK : X.K = K := by rfl) : OpR X (binaryOp .Add) (rAddU K) := hK ▸ op_add.or (op_add_str.or (op_cat.or op_catA))
/-- a text n times -/
def rptS (z : Str) (n : Int) : Str := ⟨(List.replicate n.toNat z.cps.toList).flatten.toArray⟩
theorem foldl_cps (a : Array Nat) : ∀ (m : Nat) (b : Array Nat), (List.replicate m a).foldl (fun x y => x ++ y) b = (b.toList ++ (List.replicate m a.toList).flatten).toArray
  | 0, b => by simp
  | m + 1, b => by
    rw [List.replicate_succ, List.foldl_cons, foldl_cps a m (b ++ a), List.replicate_succ, List.flatten_cons, Array.toList_append, List.append_assoc]
def rMulS : R2 := fun x y H Q => ∃ (z : Str) (n : Int), x = .str z ∧ y = .int n ∧ -(2 ^ 63) ≤ n ∧ n < 2 ^ 63 ∧ z.length * n.toNat ≤ sizeLine ∧ Q (.str (rptS z n)) H
theorem rptS_len (z : Str) (n : Int) : (rptS z n).length = z.length * n.toNat := by
  show ((List.replicate n.toNat z.cps.toList).flatten.toArray).size = z.cps.size * n.toNat
  rw [List.size_toArray, List.length_flatten, List.map_replicate, List.sum_replicate_nat, Array.length_toList, Nat.mul_comm]
theorem rptS_one {z : Str} : rptS z 1 = z := by
  show Str.mk _ = z
  cases z
  simp [rptS]
theorem op_mulS : OpR X (binaryOp .Mult) rMulS := by
  intro pins s σ H x y v u Q I rx ry h
  obtain ⟨z, n, rfl, rfl, h1, h2, hl, q⟩ := h
  obtain ⟨t, rfl⟩ := rx
  obtain ⟨t', rfl⟩ := ry
  have fin : ∀ t tk, EP X pins σ Q (.str (rptS z n) t) { s with toks := tk } := fun t tk => ⟨.str (rptS z n), H, I.tok _, ⟨_, rfl⟩, q⟩
  have e63 : (2 : Int) ^ 63 = 9223372036854775808 := by decide
  rw [e63] at h1 h2
  refine PySem.P.mul_str (by rw [e63, decide_eq_false (by omega), decide_eq_false (by omega)]; rfl) (fun hn hz hgt => ?_) (fun _ _ => decide_eq_false (by omega)) ?_
  · rw [sizeLine_eq] at hl
    have hz1 : n ≠ 1 ∧ z.length ≠ 0 := by simpa using hz
    have e : ((z.length * n.toNat : Nat) : Int) = (z.length : Int) * n := by rw [Int.natCast_mul]; congr 1; omega
    have g : (z.length : Int) ≤ 9223372036854775807 / n := (Int.le_ediv_iff_mul_le (by omega)).mpr (by omega)
    rw [e63] at hgt
    have g2 : (9223372036854775808 - 1 : Int) / n = 9223372036854775807 / n := rfl
    omega
  · by_cases hn : n < 1
    · rw [if_pos hn]
      refine ⟨by decide, ?_⟩
      have e : rptS z n = Str.empty := by
        have : n.toNat = 0 := by omega
        unfold rptS
        rw [this]
        rfl
      rw [← e]
      exact fin _ _
    · rw [if_neg hn]
      by_cases h : (n == 1 || z.length == 0) = true
      · rw [if_pos h]
        have e : rptS z n = z := by
          rcases Bool.or_eq_true _ _ |>.mp h with h | h
          · rw [eq_of_beq h, rptS_one]
          · have hl0 : z.cps = #[] := Array.size_eq_zero_iff.mp (eq_of_beq h)
            have hz : z = ⟨#[]⟩ := by cases z; simp_all
            subst hz
            simp [rptS]
        have f := fin t s.toks
        rw [e] at f
        exact f
      · rw [if_neg h]
        have e : (⟨(List.replicate n.toNat z.cps).foldl (· ++ ·) #[]⟩ : Str) = rptS z n := by
          rw [foldl_cps]
          simp [rptS]
        rw [e]
        exact ⟨by rw [rptS_len]; exact hl, fin _ _⟩
def rMulU (K : PySem.W.Frag) : R2 := orR (rI CMul fun i j => .int (i * j)) (orR rRep (orR (rRepT K) rMulS))
theorem op_mulU {K : PySem.W.Frag} (hK : X.K = K := by rfl) : OpR X (binaryOp .Mult) (rMulU K) := hK ▸ op_mul.or (op_rep.or (op_repT.or op_mulS))
def rSubU : R2 := rI0 fun i j => .int (i - j)
theorem op_subU : OpR X (binaryOp .Sub) rSubU := op_sub
def rDivU : R2 := rI CDiv fun i j => .int (i / j)
theorem op_divU : OpR X (binaryOp .FloorDiv) rDivU := op_fdiv
def rModU : R2 := rI (fun _ j => 0 < j) fun i j => .int (i % j)
theorem op_modU : OpR X (binaryOp .Mod) rModU := op_mod
def rBandU : R2 := rI0 fun i j => .int (Builtin.bitAnd i j)
theorem op_bandU : OpR X (binaryOp .BitAnd) rBandU := op_and
def rOrdS (p : List Nat → List Nat → Bool) : R2 := fun x y H Q => ∃ i j, x = .str i ∧ y = .str j ∧ Q (.bl (p i.cps.toList j.cps.toList)) H
def rLtU : R2 := orR (rI0 fun i j => .bl (decide (i < j))) (rOrdS fun a b => decide (a < b))
def rLeU : R2 := orR (rI0 fun i j => .bl (decide (i ≤ j))) (rOrdS fun a b => !decide (b < a))
def rGtU : R2 := orR (rI0 fun i j => .bl (decide (j < i))) (rOrdS fun a b => decide (b < a))
def rGeU : R2 := orR (rI0 fun i j => .bl (decide (j ≤ i))) (rOrdS fun a b => !decide (a < b))
theorem op_ltU : OpR X (compareOp .Lt) rLtU := op_lt.or op_lt_str
theorem op_leU : OpR X (compareOp .LtE) rLeU := op_le.or op_le_str
theorem op_gtU : OpR X (compareOp .Gt) rGtU := op_gt.or op_gt_str
theorem op_geU : OpR X (compareOp .GtE) rGeU := op_ge.or op_ge_str
def rEqU (K : PySem.W.Frag) : R2 := orR rEq (rEqD K)
def rNeU (K : PySem.W.Frag) : R2 := orR rNe (rNeD K)
theorem op_eqU {K : PySem.W.Frag} {A : Around} (hu : A.units + 64 < cLine) (hA : X.A = A := by rfl) (hK : X.K = K := by rfl) : OpR X (compareOp .Eq) (rEqU K) := hK ▸ op_eq.or (op_eqD (by rw [hA]; exact hu))
theorem op_neU {K : PySem.W.Frag} {A : Around} (hu : A.units + 64 < cLine) (hA : X.A = A := by rfl) (hK : X.K = K := by rfl) : OpR X (compareOp .NotEq) (rNeU K) := hK ▸ op_ne.or (op_neD (by rw [hA]; exact hu))
def rIsU : R2 := fun x y H Q => y = .non ∧ Q (.bl (decide (x = .non))) H
def rIsNotU : R2 := fun x y H Q => y = .non ∧ Q (.bl (!decide (x = .non))) H
theorem op_isU : OpR X (compareOp .Is) rIsU := op_isN
theorem op_isNotU : OpR X (compareOp .IsNot) rIsNotU := op_notN
def rInC : R2 := fun x y H Q => ∃ (c : Nat) (z : Str), x = .str ⟨#[c]⟩ ∧ y = .str z ∧ Q (.bl (decide (c ∈ z.cps.toList))) H
def rInT : R2 := fun x y H Q => ∃ i j, x = .str i ∧ y = .str j ∧ Q (.bl (!(Builtin.Str.occurrences j i 0 j.length 1).isEmpty)) H
def rNotInC : R2 := fun x y H Q => ∃ (c : Nat) (z : Str), x = .str ⟨#[c]⟩ ∧ y = .str z ∧ Q (.bl (!decide (c ∈ z.cps.toList))) H
def rNotInT : R2 := fun x y H Q => ∃ i j, x = .str i ∧ y = .str j ∧ Q (.bl (!(!(Builtin.Str.occurrences j i 0 j.length 1).isEmpty))) H
def rInU (K : PySem.W.Frag) : R2 := orR rInC (orR rInT (rIn K false))
def rNotInU (K : PySem.W.Frag) : R2 := orR rNotInC (orR rNotInT (rIn K true))
theorem op_inU {K : PySem.W.Frag} (hK : X.K = K := by rfl) : OpR X (compareOp .In) (rInU K) := hK ▸ op_in_sign.or (op_in_str.or op_in_seq)
theorem op_notInU {K : PySem.W.Frag} (hK : X.K = K := by rfl) : OpR X (compareOp .NotIn) (rNotInU K) := hK ▸ op_notIn_sign.or (op_notin_str.or op_notIn_seq)
def rSlU (K : PySem.W.Frag) : V → Option Int → Option Int → Hp → VK → Prop := fun x lo hi H Q => rSlL K x lo hi H Q ∨ rSlS x lo hi H Q ∨ rSlA K x lo hi H Q
theorem ix_U {K : PySem.W.Frag} (hK : X.K = K := by rfl) : IxR X (rIx K) := hK ▸ ix_seq
theorem sl_U {K : PySem.W.Frag} (hK : X.K = K := by rfl) : SlR X (rSlU K) := hK ▸ L2.SlR.or sl_list (L2.SlR.or sl_str sl_tupA)
/-! any of whole numbers -/
def rAnyI (K : PySem.W.Frag) : List V → Hp → VK → Prop := fun vs H Q => ∃ (a : Addr) (ns : List Int), vs = [V.ref a] ∧ SqL K H a (ns.map V.int) ∧ Q (.bl (ns.any (· != 0))) H
theorem any_rangeI : ∀ ns : List Int, ((List.range ns.length).any fun i => ns.getD i 0 != 0) = ns.any (· != 0)
  | [] => rfl
  | n :: ns => by
    have ih := any_rangeI ns
    rw [List.length_cons, List.range_succ_eq_map, List.any_cons, List.any_map, List.any_cons, ← ih]
    rfl
theorem cr_anyI (hc : X.calm = true) : CallR X (.builtin "any") (rAnyI X.K) := by
  intro pins s σ H vs us Q I r h
  obtain ⟨a, ns, rfl, hs, q⟩ := h
  obtain ⟨its, rv, hl, _⟩ := I.list hs
  have hi := rv.ints
  have hlen : its.length = ns.length := by rw [← rv.length, List.length_map]
  rw [Vals.ref1 r]
  refine call_any_walk (iter_any hl.isList fun s₂ e2 st hne => ?_)
  cases e2
  refine ⟨_, _, _, _, _, _, fun i => ns.getD i 0 != 0, rfl, Walks.list (A := X.A.in1) (I.ok.hd hc) _ a hne its.toArray, st, fun i v s Q E hv hq => ?_, fun h' tk hk => ?_⟩
  · have hv' : its[i]? = some v := by simpa using hv
    obtain ⟨n, hn⟩ : ∃ n, ns[i]? = some n := by
      have hlt := (List.getElem?_eq_some_iff.mp hv').1
      exact ⟨ns[i]'(by omega), List.getElem?_eq_getElem (by omega)⟩
    obtain ⟨u, hu, ru⟩ := rv.get (i := i) (x := V.int n) (by rw [List.getElem?_map, hn]; rfl)
    rw [hv'] at hu
    cases hu
    obtain ⟨t, rfl⟩ := ru
    have e : ns.getD i 0 = n := by rw [List.getD_eq_getElem?_getD, hn]; rfl
    have hq' : Q (ns.getD i 0 != 0) s := hq
    rw [e] at hq'
    exact truthy_int hq'
  · refine ⟨.bl _, H, I.kept fun b o eo => hk b o (fun hmem => ?_) (Heap.get?_push_of_some _ eo), ?_, q⟩
    · rcases List.mem_cons.mp hmem with e1 | hmem
      · exact absurd (e1 ▸ Heap.lt_size eo) (Nat.lt_irrefl _)
      · cases hmem
    · show Value.bool _ = Value.bool _
      rw [List.size_toArray, hlen, any_rangeI]
def rAnyU (K : PySem.W.Frag) : List V → Hp → VK → Prop := fun vs H Q => rAny K vs H Q ∨ rAnyI K vs H Q
theorem CallR.or2 {f : Value} {r r' : List V → Hp → VK → Prop} (h : CallR X f r) (h' : CallR X f r') : CallR X f (fun vs H Q => r vs H Q ∨ r' vs H Q) := by
  intro pins s σ H vs us Q I rr q
  exact q.elim (fun q => h pins s σ H vs us Q I rr q) (fun q => h' pins s σ H vs us Q I rr q)
theorem cr_anyU {K : PySem.W.Frag} (hc : X.calm = true) (hK : X.K = K := by rfl) : CallR X (.builtin "any") (rAnyU K) := hK ▸ CallR.or2 (cr_any hc) (cr_anyI hc)
end
end Sa

namespace Sa
open PySem L2

/-! ## the text's facts -/
def dOf (x : Str) (st : Stmt) : He.DefD := ⟨(x, none), x, x, defArgs st, defBody st, defScope st, [], []⟩
/-- further facts of classes: an error class with an __init__ of its own, whose fields are read -/
inductive Fx where
  | oex (x : Str)
  | xf (x : Str)
def oexB (K : PySem.W.Frag) (C : Addr) : Bool :=
  (match K.lookup C with
  | some ⟨.type t, _, .cls cd, sl⟩ => (match cd.mro, sl.toList with
    | .ref D :: bm, [_, _, _, _, some (.builtin n), _] => decide (t = "type") && (decide (D = C) && (decide (n = "ValueError.__new__") && (!cd.hasDel && (cd.hasDict && PySem.HandSPX.refsVE bm))))
    | _, _ => false)
  | _ => false) && (decide (PySem.W.findIn K (.ref C) "__setattr__" = some (some (.builtin "object.__setattr__"))) && (decide (PySem.W.subIn K (.ref C) (.type "BaseException") = some true) &&
    (decide (PySem.W.typeIn K (.ref C) = some (.type "type")) && PySem.W.keepIn K (.ref C))))
theorem oexB_ok {K : PySem.W.Frag} {C : Addr} (h : oexB K C = true) : OexC K C := by
  unfold oexB at h
  rw [Bool.and_eq_true] at h
  obtain ⟨h1, h2⟩ := h
  simp only [Bool.and_eq_true, decide_eq_true_eq] at h2
  obtain ⟨h3, h4, h5, h6⟩ := h2
  refine ⟨?_, h3, h4, h5, h6⟩
  cases q : K.lookup C with
  | none => rw [q] at h1; cases h1
  | some o =>
    rw [q] at h1
    obtain ⟨oc, dd, dt, sl⟩ := o
    cases oc <;> try (cases h1; done)
    cases dt <;> try (cases h1; done)
    rename_i t cd
    obtain ⟨nm, bs, mro, ns, qn, hd, sn, sub, ab, col, dl⟩ := cd
    obtain ⟨l⟩ := sl
    dsimp only at h1
    split at h1
    · rename_i m1 l1 D bm k0 k1 k2 k3 n k5
      simp only [Bool.and_eq_true, decide_eq_true_eq, Bool.not_eq_true'] at h1
      obtain ⟨rfl, rfl, rfl, hdel, rfl, hr⟩ := h1
      subst hdel
      exact ⟨nm, qn, ns, bs, bm, sn, sub, ab, col, dd, k0, k1, k2, k3, k5, rfl, hr⟩
    · cases h1
def Fx.ok (K : PySem.W.Frag) : Fx → Bool
  | .oex x => oexB K (He.ga K x)
  | .xf x => xfB K (He.ga K x)
def exs (fx : List Fx) (K : PySem.W.Frag) : Bool := fx.all fun f => f.ok K
def Tx (fa : List He.Fa) (fn : List He.DefD) (fx : List Fx) (K : PySem.W.Frag) (mg : Str → Option Value) : Prop := ∃ h : Heap, K.In h ∧ h.Ns mainGlobals mg ∧ He.SaysD fa fn K ∧ exs fx K = true
section
variable {fa : List He.Fa} {fn : List He.DefD} {fx : List Fx} {K : PySem.W.Frag} {mg : Str → Option Value}
theorem Tx.free (T : Tx fa fn fx K mg) (i : Nat) {x : Str} (h : fa[i]? = some (.free x) := by rfl) : mg x = none := by
  obtain ⟨hp, X, G, c, _⟩ := T
  exact He.free_ok X G (c.fact i h)
theorem Tx.glo (T : Tx fa fn fx K mg) (i : Nat) {x : Str} (h : fa[i]? = some (.glo x) := by rfl) : mg x = some (.ref (He.ga K x)) := by
  obtain ⟨hp, X, G, c, _⟩ := T
  exact He.glo_ok X G (c.fact i h)
theorem Tx.int (T : Tx fa fn fx K mg) (i : Nat) {x : Str} {n : Int} (h : fa[i]? = some (.int x n) := by rfl) : ∃ t, mg x = some (.int n t) := by
  obtain ⟨hp, X, G, c, _⟩ := T
  exact He.int_ok X G (c.fact i h)
theorem Tx.str (T : Tx fa fn fx K mg) (i : Nat) {x z : Str} (h : fa[i]? = some (.str x z) := by rfl) : ∃ t, mg x = some (.str z t) := by
  obtain ⟨hp, X, G, c, _⟩ := T
  exact He.str_ok X G (c.fact i h)
end
theorem Tx.fact {fa : List He.Fa} {fn : List He.DefD} {fx : List Fx} {K : PySem.W.Frag} {mg : Str → Option Value} (T : Tx fa fn fx K mg) (i : Nat) {f : He.Fa} (h : fa[i]? = some f := by rfl) : f.ok K = true := by
  obtain ⟨hp, X, G, c, _⟩ := T
  exact c.fact i h
theorem Tx.fx {fa : List He.Fa} {fn : List He.DefD} {fx : List Fx} {K : PySem.W.Frag} {mg : Str → Option Value} (T : Tx fa fn fx K mg) (i : Nat) {f : Fx} (h : fx[i]? = some f := by rfl) : f.ok K = true := by
  obtain ⟨hp, X, G, c, e⟩ := T
  exact List.all_eq_true.mp e f (List.mem_of_getElem? h)
/-- a def that stands under the module's name x and keeps sp -/
structure DefAt (P : Program) (w : World) (K : PySem.W.Frag) (mg : Str → Option Value) (base : Heap) (CX : CXT) (x : Str) (k : Nat) (ps : List Str) (sp : Sp) : Prop where
  gl : mg x = some (.ref (He.ga K x))
  kp : PySem.W.keepIn K (.ref (He.ga K x)) = true
  ok : ∃ fd, FnOk P w K mg base CX k (He.ga K x) fd ps sp ∧ Binds K fd ps []
/-- how a def without defaults binds its parameters -/
def BindN (x : Str) (st : Stmt) (ps : List Str) : Prop := ∀ (kV doc pm : Value) (an : Option Addr) (cdv ct : Value) (us : List Value), us.length = ps.length →
  bindArgs (PySem.W.fnOf x x (defArgs st) (defBody st) (defScope st) .none kV doc pm an cdv ct) ⟨us, []⟩ = pure (ps.zip us)
section
variable {fa : List He.Fa} {fn : List He.DefD} {fx : List Fx} {P : Program} {w : World} {K : PySem.W.Frag} {mg : Str → Option Value} {base : Heap}
/-- what a body owes -/
def Body (P : Program) (w : World) (K : PySem.W.Frag) (mg : Str → Option Value) (base : Heap) (x : Str) (st : Stmt) (N : List Str) (k : Nat) (sp : Sp) : Prop :=
  ∀ (cdv : Value) (A : Around) (outer : List Env) (s : Shared) (H : Hp) (vs : List V) (Q : VK) (E : XK), sp vs H Q E → let X : Cx := (cxOf CX0 P w K mg base N x (defScope st) (He.ga K x) cdv A outer s H E).nox
    Room k X.A → ∃ t, PSs X (defBody st) t ∧ t { nx := fun _ H' => Q .non H', rt := Q } (start N vs) H
theorem def_of (T : Tx fa fn fx K mg) (i j : Nat) {x : Str} {st : Stmt} {N ps : List Str} {k : Nat} {sp : Sp} (S : FnScope N ps (defScope st)) (B : BindN x st ps) (len : ∀ vs H Q E, sp vs H Q E → vs.length = ps.length)
    (body : Body P w K mg base x st N k sp) (hd : fn[i]? = some (dOf x st) := by rfl) (hg : fa[j]? = some (.glo x) := by rfl) : DefAt P w K mg base CX0 x (k + 1) ps sp := by
  have gl := T.glo j hg
  obtain ⟨hp, X, G, c, _⟩ := T
  obtain ⟨fd, F⟩ := c.def_ i hd
  refine ⟨gl, F.kp, fd, F.ok S len fun cdv A outer s H vs Q E hr h => ?_, F.bindsN B⟩
  obtain ⟨t, h1, h2⟩ := body cdv A outer s H vs Q E h hr
  exact ⟨t, h1.nox, h2⟩
end
/-- the law's own def, for the end -/
theorem law_of {fa : List He.Fa} {fn : List He.DefD} {P : Program} {w : World} {K : PySem.W.Frag} {mg : Str → Option Value} {h : Heap} {f : Addr} {N : List Str} {x : Str} {st : Stmt} {k : Nat} {sp : Sp} (KX : K.In h) (G : h.Ns mainGlobals mg) (c : He.SaysD fa fn K)
    (hf : mg "law" = some (.ref f)) (i j : Nat) (S : FnScope N [x] (defScope st)) (B : BindN "law" st [x]) (len : ∀ vs H Q E, sp vs H Q E → vs.length = 1) (body : ∀ base, Body P w K mg base "law" st N k sp)
    (hd : fn[i]? = some (dOf "law" st) := by rfl) (hg : fa[j]? = some (.glo "law") := by rfl) :
    ∃ fd : FuncData, (∀ (s : Shared) (v : Value), BindsTo s fd ⟨[v], []⟩ [(x, v)]) ∧ ∀ base : Heap, K.In base → base.Ns mainGlobals mg → FnOk P w K mg base CX0 (k + 1) f fd [x] sp := by
  obtain ⟨fd, F⟩ := c.def_ i hd
  have gl := He.glo_ok KX G (c.fact j hg)
  cases hf.symm.trans gl
  have b := F.bindsA (ps := [x]) B
  refine ⟨fd, fun s v => b s [v] rfl, fun base _ _ => F.ok S len fun cdv A outer s H vs Q E hr h => ?_⟩
  obtain ⟨t, h1, h2⟩ := body base cdv A outer s H vs Q E h hr
  exact ⟨t, h1.nox, h2⟩
theorem DefAt.up {P : Program} {w : World} {K : PySem.W.Frag} {mg : Str → Option Value} {base : Heap} {CX : CXT} {x : Str} {j k : Nat} {ps : List Str} {sp : Sp} (D : DefAt P w K mg base CX x j ps sp) (h : j ≤ k) : DefAt P w K mg base CX x k ps sp :=
  ⟨D.gl, D.kp, let ⟨fd, F, B⟩ := D.ok; ⟨fd, F.mono h, B⟩⟩
section
variable {X : Cx} {CX : CXT} {x : Str} {k j : Nat} {ps : List Str} {sp : Sp} {E : XK} {p pos : Pos} {e : Expr} {es : List Expr} {t : TA}
def tCallA (sp : Sp) (E : XK) (t : TA) : TE := fun σ H Q => t σ H fun vs H1 => sp vs H1 Q E
theorem pe_callA (D : DefAt X.prog X.w X.K X.mg X.base CX x j ps sp) (hr : Room k X.A) (hx : Passes CX X E) (ha : PA X (e :: es) t) (hjk : j ≤ k := by decide) (hg : Gl X x := by rfl)
    (hdb : (x == ("__debug__" : Str)) = false := by decide) (he : starEach (e :: es) X.env = (false, eval e X.env) :: starEach es X.env := by rfl) (hpl : (backTo pos (starEach es X.env)).any (·.1) = false := by rfl) :
    PE X (.Call (.Name x p) (e :: es) [] pos) (tCallA sp E t) := by
  obtain ⟨fd, F, B⟩ := D.ok
  have h := pe_call (F.mono hjk) hr hg D.gl D.kp B .nil hx ha hdb he hpl (p := p)
  have e : tCall sp [] E t = tCallA sp E t := by
    funext σ H Q
    unfold tCall tCallA
    simp only [List.append_nil]
  rw [← e]
  exact h
theorem pe_gInt {i : Int} (hm : ∃ t, X.mg x = some (.int i t)) (hg : Gl X x := by rfl) (hd : (x == ("__debug__" : Str)) = false := by decide) : PE X (.Name x pos) (tC (.int i)) :=
  let ⟨t, h⟩ := hm; pe_glob hg h ⟨t, rfl⟩ hd
theorem pe_gStr {z : Str} (hm : ∃ t, X.mg x = some (.str z t)) (hg : Gl X x := by rfl) (hd : (x == ("__debug__" : Str)) = false := by decide) : PE X (.Name x pos) (tC (.str z)) :=
  let ⟨t, h⟩ := hm; pe_glob hg h ⟨t, rfl⟩ hd
end

/-! ## readings, one step at a time -/
/-- a new object o at p: all else is as it was -/
structure New (H : Hp) (p : Addr) (o : HO) (H' : Hp) : Prop where
  fr : H p = none
  eq : H' = upd H p o
section
variable {K : PySem.W.Frag} {σ : St} {H : Hp} {D : Ends} {Q : VK} {i j : Int} {n : Nat} {v x y : V} {te ta tb tc : TE} {t u : TS} {g : TG} {tt tA tB1 : TT} {r r' : R2} {a b p : Addr} {xs ys : List V} {s z : Str}
theorem c_seq (h : t { D with nx := u D } σ H) : tSeq t u D σ H := h
theorem c_next (h : D.nx σ H) : tNext D σ H := h
theorem c_ret (h : te σ H D.rt) : tRet te D σ H := h
theorem c_retN (h : D.rt .non H) : tRetN D σ H := h
theorem c_asg (h : te σ H fun x H1 => g x σ H1 D.nx) : tAsg te g D σ H := h
theorem c_gName {R : St → Hp → Prop} (h : R (σ.set n (some v)) H) : gName n v σ H R := h
theorem c_drop (h : te σ H fun _ H1 => D.nx σ H1) : tDrop te D σ H := h
theorem c_ifs (h : tt σ H fun b H1 => if b = true then t D σ H1 else u D σ H1) : tIfS tt t u D σ H := h
theorem c_var (e : σ[n]? = some (some v)) (q : Q v H) : tVar n σ H Q := ⟨v, e, q⟩
theorem c_c (q : Q v H) : tC v σ H Q := q
theorem c_op (h : ta σ H fun x H1 => tb σ H1 fun y H2 => r x y H2 Q) : tOp r ta tb σ H Q := h
theorem c_chain (h : ta σ H fun x H1 => tb σ H1 fun y H2 => r x y H2 fun z H3 => ∃ k, z = .bl k ∧ (if k = true then tc σ H3 fun w' H4 => r' y w' H4 Q else Q (.bl false) H3)) : tChain r r' ta tb tc σ H Q := h
theorem c_test {R : Bool → Hp → Prop} (h : te σ H fun x H1 => ∃ k, x = .bl k ∧ R k H1) : tTest te σ H R := h
theorem c_tB {R : Bool → Hp → Prop} (h : te σ H fun x H1 => ∃ k, x = .bl k ∧ R k H1) : tB te σ H R := h
theorem c_not {R : Bool → Hp → Prop} (h : tt σ H fun c H1 => R (!c) H1) : tNot tt σ H R := h
theorem c_and {R : Bool → Hp → Prop} (h : tA σ H fun c H1 => if c = true then tB1 σ H1 R else R false H1) : tAnd tA tB1 σ H R := h
theorem c_or {R : Bool → Hp → Prop} (h : tA σ H fun c H1 => if c = true then R true H1 else tB1 σ H1 R) : tOr tA tB1 σ H R := h
theorem c_andV (h : ta σ H fun x H1 => ∃ c, x = .bl c ∧ if c = true then tb σ H1 Q else Q (.bl false) H1) : tAndV ta tb σ H Q := h
theorem c_orV (h : ta σ H fun x H1 => ∃ c, x = .bl c ∧ if c = true then Q (.bl true) H1 else tb σ H1 Q) : tOrV ta tb σ H Q := h
theorem c_notV (h : ta σ H fun x H1 => ∃ c, x = .bl c ∧ Q (.bl (!c)) H1) : tNotV ta σ H Q := h
theorem c_if (h : tt σ H fun c H1 => if c = true then ta σ H1 Q else tb σ H1 Q) : tIf tt ta tb σ H Q := h
theorem c_nil {R : List V → Hp → Prop} (h : R [] H) : tNil σ H R := h
theorem c_cons {tr : TA} {R : List V → Hp → Prop} (h : te σ H fun x H1 => tr σ H1 fun xs H2 => R (x :: xs) H2) : tCons te tr σ H R := h
theorem c_call {sp : Sp} {E : XK} {tr : TA} (h : tr σ H fun vs H1 => sp vs H1 Q E) : tCallA sp E tr σ H Q := h
theorem c_cb {rr : List V → Hp → VK → Prop} {tr : TA} (h : tr σ H fun vs H1 => rr vs H1 Q) : tCB rr tr σ H Q := h
def Ret (Q : VK) (v : V) (H : Hp) : Prop := Q v H
theorem c_nw {A : Prop} {o : HO} (hl : A) (h : ∀ p H', New H p o H' → Q (.ref p) H') : A ∧ ∀ p, H p = none → Ret Q (.ref p) (upd H p o) := ⟨hl, fun p hp => h p _ ⟨hp, rfl⟩⟩
theorem c_tup {tr : TA} (h : tr σ H fun xs H1 => xs.length ≤ sizeLine ∧ ∀ p, H1 p = none → Ret Q (.ref p) (upd H1 p (.tup xs))) : tTup tr σ H Q := h
theorem c_lst {tr : TA} (h : tr σ H fun xs H1 => xs.length ≤ sizeLine ∧ ∀ p, H1 p = none → Ret Q (.ref p) (upd H1 p (.lst xs))) : tLst tr σ H Q := h
theorem c_sl {rr : V → Option Int → Option Int → Hp → VK → Prop} {tl th : TO} (h : te σ H fun x H1 => tl σ H1 fun l H2 => th σ H2 fun u H3 => rr x l u H3 Q) : tSl rr te tl th σ H Q := h
theorem c_noPart {R : Option Int → Hp → Prop} (h : R none H) : tNoPart σ H R := h
theorem c_part {R : Option Int → Hp → Prop} (h : te σ H fun x H1 => ∃ i, x = .int i ∧ R (some i) H1) : tPart te σ H R := h
theorem c_bm {T : String} {rr : V → List V → Hp → VK → Prop} {tr : TA} (h : te σ H fun x H1 => tyV K T x H1 ∧ tr σ H1 fun xs H2 => rr x xs H2 Q) : tBM K T rr te tr σ H Q := h
theorem c_bm0 {T : String} {rr : V → List V → Hp → VK → Prop} (h : te σ H fun x H1 => tyV K T x H1 ∧ rr x [] H1 Q) : tBM0 K T rr te σ H Q := h
/-! answers of operators -/
theorem c_bl {b : Bool} {R : Bool → Prop} (h : R b) : ∃ k, V.bl b = V.bl k ∧ R k := ⟨b, rfl, h⟩
theorem c_int {R : Int → Prop} (h : R i) : ∃ k, V.int i = V.int k ∧ R k := ⟨i, rfl, h⟩
theorem c_addI (q : Q (.int (i + j)) H) : rAddU K (.int i) (.int j) H Q := .inl ⟨i, j, rfl, rfl, q⟩
theorem c_addS (hl : s.length + z.length ≤ sizeLine) (q : Q (.str (s ++ z)) H) : rAddU K (.str s) (.str z) H Q := .inr (.inl ⟨s, z, rfl, rfl, hl, q⟩)
theorem c_addL (ha : H a = some (.lst xs)) (hb : H b = some (.lst ys)) (hl : xs.length + ys.length ≤ sizeLine) (q : ∀ p H', New H p (.lst (xs ++ ys)) H' → Q (.ref p) H') : rAddU K (.ref a) (.ref b) H Q :=
  .inr (.inr (.inl ⟨a, b, xs, ys, rfl, rfl, ha, hb, hl, fun p hp => q p _ ⟨hp, rfl⟩⟩))
theorem c_subI (q : Q (.int (i - j)) H) : rSubU (.int i) (.int j) H Q := ⟨i, j, rfl, rfl, q⟩
theorem c_mulI (hc : (-(2 ^ 64) < i ∧ i < 2 ^ 64) ∨ (-(2 ^ 64) < j ∧ j < 2 ^ 64)) (q : Q (.int (i * j)) H) : rMulU K (.int i) (.int j) H Q := .inl ⟨i, j, rfl, rfl, hc, q⟩
theorem c_mulL (ha : H a = some (.lst xs)) (h0 : -(2 ^ 63) ≤ j) (h1 : j < 2 ^ 63) (hl : xs.length * j.toNat ≤ sizeLine) (q : ∀ p H', New H p (.lst (List.replicate j.toNat xs).flatten) H' → Q (.ref p) H') : rMulU K (.ref a) (.int j) H Q :=
  .inr (.inl ⟨a, j, xs, rfl, rfl, ha, h0, h1, hl, fun p hp => q p _ ⟨hp, rfl⟩⟩)
theorem c_mulT (ha : SqT K H a xs) (hne : xs ≠ []) (h0 : 2 ≤ j) (h1 : j ≤ 1000) (hl : xs.length ≤ 1000) (q : ∀ p H', New H p (.tup (List.replicate j.toNat xs).flatten) H' → Q (.ref p) H') : rMulU K (.ref a) (.int j) H Q :=
  .inr (.inr (.inl ⟨a, j, xs, rfl, rfl, ha, hne, h0, h1, hl, fun p hp => q p _ ⟨hp, rfl⟩⟩))
theorem c_mulS (h0 : -9223372036854775808 ≤ j) (h1 : j < 9223372036854775808) (hl : z.length * j.toNat ≤ sizeLine) (q : Q (.str (rptS z j)) H) : rMulU K (.str z) (.int j) H Q :=
  .inr (.inr (.inr ⟨z, j, rfl, rfl, by simpa using h0, by simpa using h1, hl, q⟩))
theorem c_divI (hc : 0 < j ∧ j < 1073741824) (q : Q (.int (i / j)) H) : rDivU (.int i) (.int j) H Q := ⟨i, j, rfl, rfl, hc, q⟩
theorem c_modI (hc : 0 < j) (q : Q (.int (i % j)) H) : rModU (.int i) (.int j) H Q := ⟨i, j, rfl, rfl, hc, q⟩
theorem c_bandI (q : Q (.int (Builtin.bitAnd i j)) H) : rBandU (.int i) (.int j) H Q := ⟨i, j, rfl, rfl, q⟩
theorem c_ltI (q : Q (.bl (decide (i < j))) H) : rLtU (.int i) (.int j) H Q := .inl ⟨i, j, rfl, rfl, q⟩
theorem c_leI (q : Q (.bl (decide (i ≤ j))) H) : rLeU (.int i) (.int j) H Q := .inl ⟨i, j, rfl, rfl, q⟩
theorem c_gtI (q : Q (.bl (decide (j < i))) H) : rGtU (.int i) (.int j) H Q := .inl ⟨i, j, rfl, rfl, q⟩
theorem c_geI (q : Q (.bl (decide (j ≤ i))) H) : rGeU (.int i) (.int j) H Q := .inl ⟨i, j, rfl, rfl, q⟩
theorem dI : decide (V.int i = V.int j) = decide (i = j) := by rw [dec_int]; exact Bool.beq_eq_decide_eq _ _
theorem dS : decide (V.str s = V.str z) = decide (s = z) := by rw [dec_str]; exact Bool.beq_eq_decide_eq _ _
theorem c_eqI (q : Q (.bl (decide (i = j))) H) : rEqU K (.int i) (.int j) H Q := .inl ⟨rfl, by rw [dI]; exact q⟩
theorem c_neI (q : Q (.bl (!decide (i = j))) H) : rNeU K (.int i) (.int j) H Q := .inl ⟨rfl, by rw [dI]; exact q⟩
theorem c_eqS (q : Q (.bl (decide (s = z))) H) : rEqU K (.str s) (.str z) H Q := .inl ⟨rfl, by rw [dS]; exact q⟩
theorem c_neS (q : Q (.bl (!decide (s = z))) H) : rNeU K (.str s) (.str z) H Q := .inl ⟨rfl, by rw [dS]; exact q⟩
theorem c_eqB {b c : Bool} (q : Q (.bl (b == c)) H) : rEqU K (.bl b) (.bl c) H Q := .inl ⟨rfl, by rw [dec_bl]; exact q⟩
theorem c_neB {b c : Bool} (q : Q (.bl (b != c)) H) : rNeU K (.bl b) (.bl c) H Q := .inl ⟨rfl, by rw [dec_bl]; exact q⟩
theorem c_eqD {d e : PyData} (hx : Dp K H x d) (hy : Dp K H y e) (sd : SeqAt.shaped d = true) (se : SeqAt.shaped e = true) (q : Q (.bl (PyData.eqv d e)) H) : rEqU K x y H Q := .inr ⟨d, e, hx, hy, sd, se, q⟩
theorem c_neD {d e : PyData} (hx : Dp K H x d) (hy : Dp K H y e) (sd : SeqAt.shaped d = true) (se : SeqAt.shaped e = true) (q : Q (.bl (!PyData.eqv d e)) H) : rNeU K x y H Q := .inr ⟨d, e, hx, hy, sd, se, q⟩
theorem c_isN (q : Q (.bl (decide (x = .non))) H) : rIsU x .non H Q := ⟨rfl, q⟩
theorem c_notN (q : Q (.bl (!decide (x = .non))) H) : rIsNotU x .non H Q := ⟨rfl, q⟩
theorem c_inC {c : Nat} (q : Q (.bl (decide (c ∈ z.cps.toList))) H) : rInU K (.str ⟨#[c]⟩) (.str z) H Q := .inl ⟨c, z, rfl, rfl, q⟩
theorem c_notInC {c : Nat} (q : Q (.bl (!decide (c ∈ z.cps.toList))) H) : rNotInU K (.str ⟨#[c]⟩) (.str z) H Q := .inl ⟨c, z, rfl, rfl, q⟩
theorem c_ixL (h : SqL K H a xs) (e : atI xs i = some v) (q : Q v H) : rIx K (.ref a) (.int i) H Q := .inl ⟨a, xs, i, v, rfl, rfl, h, e, q⟩
theorem c_ixT (h : SqT K H a xs) (e : atI xs i = some v) (q : Q v H) : rIx K (.ref a) (.int i) H Q := .inr (.inl ⟨a, xs, i, v, rfl, rfl, h, e, q⟩)
theorem c_ixS {c : Nat} (h : z.length ≤ sizeLine) (e : atI z.cps.toList i = some c) (q : Q (.str ⟨#[c]⟩) H) : rIx K (.str z) (.int i) H Q := .inr (.inr ⟨z, i, c, rfl, rfl, h, e, q⟩)
theorem c_slL {lo hi : Option Int} (h : SqL K H a xs) (q : ∀ p H', New H p (.lst (cutV xs lo hi)) H' → Q (.ref p) H') : rSlU K (.ref a) lo hi H Q := .inl ⟨a, xs, rfl, h, fun p hp => q p _ ⟨hp, rfl⟩⟩
theorem c_slS {lo hi : Option Int} (h : z.length ≤ sizeLine) (q : Q (.str (cutS z lo hi)) H) : rSlU K (.str z) lo hi H Q := .inr (.inl ⟨z, rfl, h, q⟩)
theorem c_append {l : Addr} (h : H l = some (.lst xs)) (hl : xs.length < sizeLine) (q : Q .non (upd H l (.lst (xs ++ [y])))) : rAppend (.ref l) [y] H Q := ⟨l, xs, y, rfl, rfl, h, hl, q⟩
theorem c_tyL (h : SqL K H a xs) : tyV K "list" (.ref a) H := Or.inl ⟨rfl, _, h⟩
theorem c_tyA {B : Prop} (h : SqL K H a xs) (q : B) : tyV K "list" (.ref a) H ∧ B := ⟨c_tyL h, q⟩
theorem c_setL {l : Addr} {k : Nat} {R : Hp → Prop} (h : H l = some (.lst xs)) (e : ixN xs.length i = some k) (q : R (upd H l (.lst (xs.set k v)))) : rSetL (.ref l) (.int i) v H R := ⟨l, xs, i, k, rfl, rfl, h, e, q⟩
theorem c_gSub {to ti : TE} {ts : TSet} {R : St → Hp → Prop} (h : to σ H fun o H1 => ti σ H1 fun i H2 => ts o i v H2 fun H3 => R σ H3) : gSub to ti ts v σ H R := h
theorem lt_one {c d : Nat} : decide ((⟨#[c]⟩ : Str).cps.toList < (⟨#[d]⟩ : Str).cps.toList) = decide (c < d) := by
  show decide ([c] < [d]) = _
  congr 1
  simp [List.cons_lt_cons_iff]
theorem q_of {b c : Bool} (e : b = c) (q : Q (.bl c) H) : Q (.bl b) H := e ▸ q
theorem ge_one {c d : Nat} : (!decide ((⟨#[d]⟩ : Str).cps.toList < (⟨#[c]⟩ : Str).cps.toList)) = decide (c ≤ d) := by rw [lt_one]; by_cases h : c ≤ d <;> simp [h] <;> omega
theorem c_leC {c d : Nat} (q : Q (.bl (decide (c ≤ d))) H) : rLeU (.str ⟨#[c]⟩) (.str ⟨#[d]⟩) H Q := .inr ⟨_, _, rfl, rfl, q_of ge_one q⟩
theorem c_ltC {c d : Nat} (q : Q (.bl (decide (c < d))) H) : rLtU (.str ⟨#[c]⟩) (.str ⟨#[d]⟩) H Q := .inr ⟨_, _, rfl, rfl, q_of lt_one q⟩
theorem c_gtC {c d : Nat} (q : Q (.bl (decide (d < c))) H) : rGtU (.str ⟨#[c]⟩) (.str ⟨#[d]⟩) H Q := .inr ⟨_, _, rfl, rfl, q_of lt_one q⟩
theorem c_geC {c d : Nat} (q : Q (.bl (decide (d ≤ c))) H) : rGeU (.str ⟨#[c]⟩) (.str ⟨#[d]⟩) H Q := .inr ⟨_, _, rfl, rfl, q_of ge_one q⟩
/-! tests of values -/
theorem c_truB {b : Bool} {R : Bool → Prop} (q : R b) : ∃ k, TruV K (.bl b) H k ∧ R k := ⟨b, rfl, q⟩
theorem c_truL {R : Bool → Prop} (h : SqL K H a xs) (q : R (!xs.isEmpty)) : ∃ k, TruV K (.ref a) H k ∧ R k := ⟨_, .inl ⟨xs, h, rfl⟩, q⟩
theorem c_truS {R : Bool → Prop} (h : s.length ≤ sizeLine) (q : R ((s.length : Int) != 0)) : ∃ k, TruV K (.str s) H k ∧ R k := ⟨_, ⟨h, rfl⟩, q⟩
/-! conditions -/
theorem c_ite {c : Prop} [Decidable c] {A B : Prop} (h1 : c → A) (h2 : ¬ c → B) : if decide c = true then A else B := by
  by_cases h : c
  · rw [decide_eq_true h, if_pos rfl]; exact h1 h
  · rw [decide_eq_false h, if_neg Bool.false_ne_true]; exact h2 h
theorem c_iteN {c : Prop} [Decidable c] {A B : Prop} (h1 : ¬ c → A) (h2 : c → B) : if (!decide c) = true then A else B := by
  by_cases h : c
  · rw [decide_eq_true h, Bool.not_true, if_neg Bool.false_ne_true]; exact h2 h
  · rw [decide_eq_false h, Bool.not_false, if_pos rfl]; exact h1 h
theorem c_iteT {b : Bool} {A B : Prop} (hb : b = true) (h : A) : if b = true then A else B := by rw [if_pos hb]; exact h
theorem c_iteF {b : Bool} {A B : Prop} (hb : b = false) (h : B) : if b = true then A else B := by rw [hb, if_neg Bool.false_ne_true]; exact h
theorem c_it1 {A B : Prop} (h : A) : if true = true then A else B := c_iteT rfl h
theorem c_it2 {A B : Prop} (h : B) : if false = true then A else B := c_iteF rfl h
theorem c_it3 {A B : Prop} (h : A) : if (!false) = true then A else B := c_iteT rfl h
theorem c_it4 {A B : Prop} (h : B) : if (!true) = true then A else B := c_iteF rfl h
theorem c_iteB {b : Bool} {A B : Prop} (h1 : b = true → A) (h2 : b = false → B) : if b = true then A else B := by
  cases b with
  | true => exact c_iteT rfl (h1 rfl)
  | false => exact c_iteF rfl (h2 rfl)
theorem c_iteNB {b : Bool} {A B : Prop} (h1 : b = false → A) (h2 : b = true → B) : if (!b) = true then A else B := by
  cases b with
  | true => exact c_iteF rfl (h2 rfl)
  | false => exact c_iteT rfl (h1 rfl)
end
end Sa

namespace Sa
open PySem L2

/-! ## built-ins by names of their readings -/
section
variable {X : Cx} {K : PySem.W.Frag} {H : Hp} {Q : VK} {i j : Int} {a : Addr} {xs : List V} {s z : Str}
def rLenU (K : PySem.W.Frag) : List V → Hp → VK → Prop := fun xs H Q => ∃ x n, xs = [x] ∧ LenV K x H n ∧ Q (.int n) H
theorem cr_len {K : PySem.W.Frag} (hK : X.K = K := by rfl) : CallR X (.builtin "len") (rLenU K) := hK ▸ call_len
theorem c_lenL (h : SqL K H a xs) (q : Q (.int xs.length) H) : rLenU K [.ref a] H Q := ⟨_, _, rfl, .inl ⟨xs, h, rfl⟩, q⟩
theorem c_lenT (h : SqT K H a xs) (q : Q (.int xs.length) H) : rLenU K [.ref a] H Q := ⟨_, _, rfl, .inr ⟨xs, h, rfl⟩, q⟩
theorem c_lenS (h : s.length ≤ sizeLine) (q : Q (.int s.length) H) : rLenU K [.str s] H Q := ⟨_, _, rfl, ⟨h, rfl⟩, q⟩
def rIntU : List V → Hp → VK → Prop := fun xs H Q => (∃ i, xs = [.int i] ∧ Q (.int i) H) ∨ ∃ k, xs = [.bl k] ∧ Q (.int (if k then 1 else 0)) H
theorem cr_int : CallR X (.type "int") rIntU := call_int1
theorem c_intI (q : Q (.int i) H) : rIntU [.int i] H Q := .inl ⟨i, rfl, q⟩
def rOrdU : List V → Hp → VK → Prop := fun xs H Q => ∃ x, xs = [.str x] ∧ x.length = 1 ∧ Q (.int (x.cps.getD 0 0 : Nat)) H
theorem cr_ord : CallR X (.builtin "ord") rOrdU := call_ord
theorem c_ord {c : Nat} (q : Q (.int c) H) : rOrdU [.str ⟨#[c]⟩] H Q := ⟨_, rfl, rfl, q⟩
def rMax2U : List V → Hp → VK → Prop := fun xs H Q => ∃ i j, xs = [.int i, .int j] ∧ Q (.int (if j > i then j else i)) H
def rMin2U : List V → Hp → VK → Prop := fun xs H Q => ∃ i j, xs = [.int i, .int j] ∧ Q (.int (if j < i then j else i)) H
theorem cr_max2 (hc : X.calm = true) : CallR X (.builtin "max") rMax2U := call_max2 hc
theorem cr_min2 (hc : X.calm = true) : CallR X (.builtin "min") rMin2U := call_min2 hc
theorem c_max2 (q : Q (.int (max i j)) H) : rMax2U [.int i, .int j] H Q := ⟨i, j, rfl, by
  have e : (if j > i then j else i) = max i j := by split <;> omega
  rw [e]; exact q⟩
theorem c_min2 (q : Q (.int (min i j)) H) : rMin2U [.int i, .int j] H Q := ⟨i, j, rfl, by
  have e : (if j < i then j else i) = min i j := by split <;> omega
  rw [e]; exact q⟩
def rListU (K : PySem.W.Frag) : List V → Hp → VK → Prop := fun xs H Q => ∃ p ys, xs = [.ref p] ∧ (SqL K H p ys ∨ SqT K H p ys) ∧ ∀ l, H l = none → Q (.ref l) (upd H l (.lst ys))
theorem cr_list {K : PySem.W.Frag} (hK : X.K = K := by rfl) : CallR X (.type "list") (rListU K) := hK ▸ call_list_of
theorem c_listL (h : SqL K H a xs) (q : ∀ l H', New H l (.lst xs) H' → Q (.ref l) H') : rListU K [.ref a] H Q := ⟨a, xs, rfl, .inl h, fun p hp => q p _ ⟨hp, rfl⟩⟩
theorem c_listT (h : SqT K H a xs) (q : ∀ l H', New H l (.lst xs) H' → Q (.ref l) H') : rListU K [.ref a] H Q := ⟨a, xs, rfl, .inr h, fun p hp => q p _ ⟨hp, rfl⟩⟩
def rTupU (K : PySem.W.Frag) : List V → Hp → VK → Prop := fun xs H Q => ∃ p ys, xs = [.ref p] ∧ ((SqL K H p ys ∧ ∀ l, H l = none → Q (.ref l) (upd H l (.tup ys))) ∨ (SqT K H p ys ∧ Q (.ref p) H))
theorem cr_tuple {K : PySem.W.Frag} (hK : X.K = K := by rfl) : CallR X (.type "tuple") (rTupU K) := hK ▸ call_tuple_of
theorem c_tupleL (h : SqL K H a xs) (q : ∀ l H', New H l (.tup xs) H' → Q (.ref l) H') : rTupU K [.ref a] H Q := ⟨a, xs, rfl, .inl ⟨h, fun p hp => q p _ ⟨hp, rfl⟩⟩⟩
theorem c_tupleT (h : SqT K H a xs) (q : Q (.ref a) H) : rTupU K [.ref a] H Q := ⟨a, xs, rfl, .inr ⟨h, q⟩⟩
theorem c_anyI {ns : List Int} (h : SqL K H a (ns.map V.int)) (q : Q (.bl (ns.any (· != 0))) H) : rAnyU K [.ref a] H Q := .inr ⟨a, ns, rfl, h, q⟩
theorem c_anyB {bs : List Bool} (h : SqL K H a (bs.map V.bl)) (q : Q (.bl (bs.any id)) H) : rAnyU K [.ref a] H Q := .inl ⟨a, bs, rfl, h, q⟩
def rAllU (K : PySem.W.Frag) : List V → Hp → VK → Prop := rAll K
theorem cr_allU {K : PySem.W.Frag} (hc : X.calm = true) (hK : X.K = K := by rfl) : CallR X (.builtin "all") (rAllU K) := hK ▸ cr_all hc
theorem c_allB {bs : List Bool} (h : SqL K H a (bs.map V.bl)) (q : Q (.bl (bs.all id)) H) : rAllU K [.ref a] H Q := ⟨a, bs, rfl, h, q⟩
end
section
variable {X : Cx} {K : PySem.W.Frag} {σ : St} {H : Hp} {Q : VK} {a : Addr} {s z : Str} {ys : List Str} {to te : TE} {o e : Expr}
/-- a text's method of one argument -/
def tM1U (r : V → List V → Hp → VK → Prop) (to te : TE) : TE := fun σ H Q => to σ H fun x H1 => (∃ a, x = .str a) ∧ te σ H1 fun y H2 => r x [y] H2 Q
theorem c_m1 {r : V → List V → Hp → VK → Prop} (h : to σ H fun x H1 => (∃ a, x = .str a) ∧ te σ H1 fun y H2 => r x [y] H2 Q) : tM1 r to te σ H Q := h
theorem c_isStr {A : Prop} (h : A) : (∃ b, V.str s = V.str b) ∧ A := ⟨⟨s, rfl⟩, h⟩
def rJoin (K : PySem.W.Frag) : V → List V → Hp → VK → Prop := fun x xs H Q => ∃ a p, ∃ ys : List Str, x = .str a ∧ xs = [.ref p] ∧ (SqL K H p (ys.map V.str) ∨ SqT K H p (ys.map V.str)) ∧
  (ys.map (·.length)).sum + ys.length * a.length ≤ 16777216 ∧ Q (.str (Txt.join a ys)) H
theorem pe_joinU {K : PySem.W.Frag} {apos pos : Pos} (ho : PE X o to) (he : PE X e te) (hK : X.K = K := by rfl) (hs : starEach [e] X.env = [(false, eval e X.env)] := by rfl) (hbase : attributeBase o "join" X.env (eval o X.env) = eval o X.env := by rfl) (hline : (apos.endLine == pos.line) = true := by rfl) :
    PE X (.Call (.Attribute o "join" apos) [e] [] pos) (tM1 (rJoin K) to te) := hK ▸ pe_join ho he hs hbase hline
theorem c_join (h : SqL K H a (ys.map V.str)) (hl : (ys.map (·.length)).sum + ys.length * s.length ≤ 16777216) (q : Q (.str (Txt.join s ys)) H) : rJoin K (.str s) [.ref a] H Q := ⟨s, a, ys, rfl, rfl, .inl h, hl, q⟩
end

/-! ## rules that name the written part -/
section
variable {X : Cx} {K : PySem.W.Frag} {e o : Expr} {es : List Expr} {te to ta : TE} {tr : TA} {tg : Expr} {x : Str}
theorem pt_tru {a : Expr} (ha : PE X a ta) (hK : X.K = K := by rfl) (he : ∀ whole, isTrue a X.env whole = (do let v ← whole; standAt a.pos; holding [v] (truthy v)) := by intro _; rfl) :
    PT X a (fun σ H Q => ta σ H fun x H' => ∃ k, TruV K x H' k ∧ Q k H') := hK ▸ pt_truth ha he
theorem pi_listU (hl : PE X e te) (hK : X.K = K := by rfl) : PI X tg e (iList K te) := hK ▸ pi_list hl
theorem pi_tupU (hl : PE X e te) (hK : X.K = K := by rfl) : PI X tg e (iTup K te) := hK ▸ pi_tup hl
theorem pg_tupU {pos : Pos} {k n : Nat} {t : TGs} (hc : X.calm = true) (h : PGs X es t) (hK : X.K = K := by rfl) (hn : (assignEach es X.env).length = n := by rfl) (hst : (assignEach es X.env).findIdx? (·.1) = none := by rfl) : PG X (.Tuple es k pos) (gTup K n t) := hK ▸ pg_tup hc h hn hst
theorem pg_lstU {pos : Pos} {k n : Nat} {t : TGs} (hc : X.calm = true) (h : PGs X es t) (hK : X.K = K := by rfl) (hn : (assignEach es X.env).length = n := by rfl) (hst : (assignEach es X.env).findIdx? (·.1) = none := by rfl) : PG X (.Tuple es k pos) (gLst K n t) := hK ▸ pg_lst hc h hn hst
theorem pe_appendU {apos cpos : Pos} (ho : PE X o to) (he : PE X e te) (hK : X.K = K := by rfl) (hbase : attributeBase o "append" X.env (eval o X.env) = eval o X.env := by rfl)
    (hfew : ((backTo cpos (starEach [e] X.env)).all (fun x => !x.1) && (backToKw cpos (keywordEach [] X.env)).all (fun x => x.1.isSome)
      && decide (([e] : List Expr).length + ([] : List Keyword).length + (if ([] : List Keyword).isEmpty then 0 else 1) < 30)) = true := by rfl)
    (hline : (apos.endLine == cpos.line) = true := by rfl) (hs : starEach [e] X.env = (false, eval e X.env) :: starEach [] X.env := by rfl) (hplain : (backTo cpos (starEach [] X.env)).any (·.1) = false := by rfl) :
    PE X (.Call (.Attribute o "append" apos) [e] [] cpos) (tBM K "list" rAppend to (tCons te tNil)) :=
  hK ▸ pe_bm PySem.F.plainAttrs_list PySem.F.slot_list_append PySem.F.type_list_append mt_append ho (pa_cons he pa_nil hs) hbase hfew hline hs hplain
theorem pe_extendU {apos cpos : Pos} (ho : PE X o to) (he : PE X e te) (hK : X.K = K := by rfl) (hbase : attributeBase o "extend" X.env (eval o X.env) = eval o X.env := by rfl)
    (hfew : ((backTo cpos (starEach [e] X.env)).all (fun x => !x.1) && (backToKw cpos (keywordEach [] X.env)).all (fun x => x.1.isSome)
      && decide (([e] : List Expr).length + ([] : List Keyword).length + (if ([] : List Keyword).isEmpty then 0 else 1) < 30)) = true := by rfl)
    (hline : (apos.endLine == cpos.line) = true := by rfl) (hs : starEach [e] X.env = (false, eval e X.env) :: starEach [] X.env := by rfl) (hplain : (backTo cpos (starEach [] X.env)).any (·.1) = false := by rfl) :
    PE X (.Call (.Attribute o "extend" apos) [e] [] cpos) (tBM K "list" rExtend to (tCons te tNil)) :=
  hK ▸ pe_bm PySem.F.plainAttrs_list PySem.F.slot_list_extend PySem.F.type_list_extend mt_extend ho (pa_cons he pa_nil hs) hbase hfew hline hs hplain
end

/-! ## what is kept of a heap -/
/-- all that was tracked is kept, but for the objects at ms -/
def Kp (ms : List Addr) (H H' : Hp) : Prop := ∀ a o, a ∉ ms → H a = some o → H' a = some o
section
variable {K : PySem.W.Frag} {H H1 H2 : Hp} {a b p : Addr} {o u : HO} {ms ns : List Addr} {xs : List V}
theorem Kp.refl : Kp ms H H := fun _ _ _ h => h
theorem Kp.trans (e : Kp ms H H1) (f : Kp ms H1 H2) : Kp ms H H2 := fun a o n h => f a o n (e a o n h)
theorem Kp.mono (e : Kp [] H H1) : Kp ms H H1 := fun a o _ h => e a o (by simp) h
theorem Kp.new (hp : H p = none) : Kp ms H (upd H p o) := fun a u _ h => by rw [upd_ne (ne_of_none h hp)]; exact h
theorem Kp.mut (hp : p ∈ ms) : Kp ms H (upd H p o) := fun a u n h => by rw [upd_ne (fun e : a = p => n (by rw [e]; exact hp))]; exact h
theorem Kp.at0 (e : Kp [] H H1) (h : H a = some o) : H1 a = some o := e a o (by simp) h
theorem Kp.at1 (e : Kp [b] H H1) (n : a ≠ b) (h : H a = some o) : H1 a = some o := e a o (by simpa using n) h
/-- an object that H did not know may change -/
theorem Kp.fresh_mut (e : Kp ms H H1) (hp : H p = none) : Kp ms H (upd H1 p o) := fun a u n h => by rw [upd_ne (ne_of_none h hp)]; exact e a u n h
theorem Kp.drop_fresh (e : Kp (p :: ms) H H1) (hp : H p = none) : Kp ms H H1 := fun a u n h => e a u (by simp only [List.mem_cons, not_or]; exact ⟨ne_of_none h hp, n⟩) h
theorem upd_new (hp : H p = none) (h : H a = some o) : upd H p u a = some o := by rw [upd_ne (ne_of_none h hp)]; exact h
theorem upd_other (n : a ≠ p) (h : H a = some o) : upd H p u a = some o := by rw [upd_ne n]; exact h
theorem upd_free (n : a ≠ p) (h : H a = none) : upd H p u a = none := by rw [upd_ne n]; exact h
theorem free0 (e : Kp [] H H1) (h : H1 a = none) : H a = none := by
  cases q : H a with
  | none => rfl
  | some o => rw [e.at0 q] at h; cases h
theorem free1 (e : Kp [b] H H1) (n : a ≠ b) (h : H1 a = none) : H a = none := by
  cases q : H a with
  | none => rfl
  | some o => rw [e.at1 n q] at h; cases h
theorem free_upd (h : upd H p u a = none) : H a = none := by
  by_cases e : a = p
  · subst e; rw [upd_same] at h; cases h
  · rw [upd_ne e] at h; exact h
theorem rd_at (e : ∀ o, H a = some o → H1 a = some o) (h : Rd H a u) : Rd H1 a u := by
  rcases h with h | ⟨o, h⟩
  · exact .inl (e _ h)
  · exact .inr ⟨o, e _ h⟩
theorem SqL.at (e : ∀ o, H a = some o → H1 a = some o) (h : SqL K H a xs) : SqL K H1 a xs := h.elim (fun h => .inl (rd_at e h)) .inr
theorem SqT.at (e : ∀ o, H a = some o → H1 a = some o) (h : SqT K H a xs) : SqT K H1 a xs := h.elim (fun h => .inl (rd_at e h)) .inr
theorem SqL.kp (e : Kp [] H H1) (h : SqL K H a xs) : SqL K H1 a xs := SqL.at (fun _ => e.at0) h
theorem SqT.kp (e : Kp [] H H1) (h : SqT K H a xs) : SqT K H1 a xs := SqT.at (fun _ => e.at0) h
theorem SqL.kp1 (e : Kp [b] H H1) (n : a ≠ b) (h : SqL K H a xs) : SqL K H1 a xs := SqL.at (fun _ => e.at1 n) h
theorem SqT.kp1 (e : Kp [b] H H1) (n : a ≠ b) (h : SqT K H a xs) : SqT K H1 a xs := SqT.at (fun _ => e.at1 n) h
theorem SqL.new (hp : H p = none) (h : SqL K H a xs) : SqL K (upd H p u) a xs := SqL.at (fun _ => upd_new hp) h
theorem SqT.new (hp : H p = none) (h : SqT K H a xs) : SqT K (upd H p u) a xs := SqT.at (fun _ => upd_new hp) h
theorem SqL.other (n : a ≠ p) (h : SqL K H a xs) : SqL K (upd H p u) a xs := SqL.at (fun _ => upd_other n) h
theorem SqT.other (n : a ≠ p) (h : SqT K H a xs) : SqT K (upd H p u) a xs := SqT.at (fun _ => upd_other n) h
theorem New.kp (N : New H p o H1) : Kp ms H H1 := by rw [N.eq]; exact Kp.new N.fr
theorem New.at_ (N : New H p o H1) : H1 p = some o := by rw [N.eq]; exact upd_same
theorem New.keep (N : New H p o H1) (h : H a = some u) : H1 a = some u := by rw [N.eq]; exact upd_new N.fr h
theorem New.free (N : New H p o H1) (h : H1 a = none) : H a = none := by rw [N.eq] at h; exact free_upd h
theorem New.ne (N : New H p o H1) (h : H a = some u) : p ≠ a := (ne_of_none h N.fr).symm
theorem New.sqL (N : New H p o H1) (h : SqL K H a xs) : SqL K H1 a xs := SqL.kp N.kp h
theorem New.sqT (N : New H p o H1) (h : SqT K H a xs) : SqT K H1 a xs := SqT.kp N.kp h
theorem ne_of2 (h : H a = some o) (h' : H b = none) : a ≠ b := ne_of_none h h'
end

/-! ## items -/
theorem atI_at {xs : List V} {i : Int} (h0 : 0 ≤ i) (h1 : i < xs.length) : atI xs i = some (xs.getD i.toNat .non) := by
  have e : i = ((i.toNat : Nat) : Int) := by omega
  have h : xs[i.toNat]? = some (xs.getD i.toNat .non) := by
    rw [List.getD_eq_getElem?_getD, List.getElem?_eq_getElem (by omega)]
    rfl
  exact e ▸ atI_nat h
theorem atI_ints {ns : List Int} {i : Int} (h0 : 0 ≤ i) (h1 : i < ns.length) : atI (ns.map V.int) i = some (.int (ns.getD i.toNat 0)) := by
  rw [atI_at h0 (by rw [List.length_map]; exact h1)]
  congr 1
  rw [List.getD_eq_getElem?_getD, List.getD_eq_getElem?_getD, List.getElem?_map, List.getElem?_eq_getElem (by omega)]
  rfl
theorem atI_strs {ns : List Str} {i : Int} (h0 : 0 ≤ i) (h1 : i < ns.length) : atI (ns.map V.str) i = some (.str (ns.getD i.toNat Str.empty)) := by
  rw [atI_at h0 (by rw [List.length_map]; exact h1)]
  congr 1
  rw [List.getD_eq_getElem?_getD, List.getD_eq_getElem?_getD, List.getElem?_map, List.getElem?_eq_getElem (by omega)]
  rfl
theorem atI_codes {z : Str} {i : Int} (h0 : 0 ≤ i) (h1 : i < z.length) : atI z.cps.toList i = some (z.cps.getD i.toNat 0) := by
  have e : i = ((i.toNat : Nat) : Int) := by omega
  have hl : i.toNat < z.cps.size := by have : z.length = z.cps.size := rfl; omega
  unfold atI
  have q : ixN z.cps.toList.length i = some i.toNat := by
    unfold ixN
    rw [if_pos h0, if_pos (by rw [Array.length_toList]; omega)]
  rw [q]
  show z.cps.toList[i.toNat]? = _
  rw [Array.getElem?_toList, Array.getElem?_eq_getElem hl, Array.getD, dif_pos hl]
  rfl

/-! ## the law's box: its digits at d, its place -/
structure Bx (H : Hp) (b d : Addr) : Prop where
  ex : ∃ (at_ : Int) (ds : List Int), H b = some (.lst [.ref d, .int at_]) ∧ H d = some (.lst (ds.map V.int)) ∧ 0 ≤ at_
section
variable {H H1 : Hp} {b d p : Addr} {o : HO}
theorem Bx.ne (h : Bx H b d) : d ≠ b := by
  obtain ⟨at_, ds, h1, h2, _⟩ := h.ex
  intro e
  subst e
  rw [h1] at h2
  cases ds with
  | nil => cases h2
  | cons n r => simp at h2
theorem Bx.kp0 (h : Bx H b d) (e : Kp [] H H1) : Bx H1 b d := by
  obtain ⟨at_, ds, h1, h2, h3⟩ := h.ex
  exact ⟨at_, ds, e.at0 h1, e.at0 h2, h3⟩
theorem Bx.new (h : Bx H b d) (hp : H p = none) : Bx (upd H p o) b d := h.kp0 (Kp.new hp)
theorem Bx.other (h : Bx H b d) (n1 : p ≠ b) (n2 : p ≠ d) : Bx (upd H p o) b d := by
  obtain ⟨at_, ds, h1, h2, h3⟩ := h.ex
  exact ⟨at_, ds, upd_other (Ne.symm n1) h1, upd_other (Ne.symm n2) h2, h3⟩
theorem Bx.nw (h : Bx H b d) (N : New H p o H1) : Bx H1 b d := by rw [N.eq]; exact h.new N.fr
theorem Bx.ne_new (h : Bx H b d) (hp : H p = none) : p ≠ b ∧ p ≠ d := by
  obtain ⟨at_, ds, h1, h2, h3⟩ := h.ex
  exact ⟨fun e => ne_of_none h1 hp e.symm, fun e => ne_of_none h2 hp e.symm⟩
end
end Sa

namespace Sa
open PySem L2

/-! ## loops -/
section
variable {K : PySem.W.Frag} {σ : St} {H : Hp} {D : Ends} {wi : TI} {g : TG} {tb : TS} {ta : TA} {tl te : TE} {tt : TT} {R : It → Hp → Prop} {a : Addr} {xs : List V} {lo hi : Int} {n : Nat} {Q : VK} {vs : List Nat} {z : Str}
def ForJ (J : It) (g : TG) (tb : TS) (D : Ends) (σ : St) (H1 : Hp) : Prop := ∃ W : Nat → Nat → St → Hp → Prop, (∃ m, W 0 m σ H1) ∧ ∀ i m σ H, W i m σ H →
  (J.stop i H ∧ D.nx σ H) ∨ (J.go i H ∧ ∃ N : St → Hp → Prop, (∀ σ' H', N σ' H' → ∃ m', m' < m ∧ W (i + 1) m' σ' H') ∧ ∀ x H', J.yld i H x H' → g x σ H' fun σ2 H2 => tb { D with nx := N, ct := N, bk := D.nx } σ2 H2)
def LcJ (J : It) (g : TG) (tt : TT) (te : TE) (vs : List Nat) (σ : St) (H1 : Hp) (Q : VK) : Prop := ∀ D, H1 D = none → ∃ W : Nat → Nat → Hp → Prop, (∃ m, W 0 m (upd H1 D (.lst []))) ∧ ∀ i m H, W i m H →
  (J.stop i H ∧ Q (.ref D) H) ∨ (J.go i H ∧ ∃ Nx : Hp → Prop, (∀ H', Nx H' → ∃ m', m' < m ∧ W (i + 1) m' H') ∧ ∀ x H', J.yld i H x H' → g x (wipe σ vs) H' fun σ2 H2 => wipe σ2 vs = wipe σ vs ∧ tt σ2 H2 fun b H3 =>
    if b = true then te σ2 H3 fun y H4 => ∃ acc, H4 D = some (.lst acc) ∧ acc.length < sizeLine ∧ Nx (upd H4 D (.lst (acc ++ [y]))) else Nx H3)
theorem c_for (h : wi σ H fun J H1 => ForJ J g tb D σ H1) : tFor wi g tb D σ H := h
theorem c_lc (h : wi σ H fun J H1 => LcJ J g tt te vs σ H1 Q) : tLc wi g tt te vs σ H Q := h
theorem c_rng1 (h : ta σ H fun vs H1 => ∃ j : Int, vs = [.int j] ∧ -(2 ^ 62) ≤ j ∧ j < 2 ^ 62 ∧ R (Itr 0 j.toNat) H1) : iRng1 ta σ H R := h
theorem c_rng2 (h : ta σ H fun vs H1 => ∃ i j : Int, vs = [.int i, .int j] ∧ (-(2 ^ 62) ≤ i ∧ i < 2 ^ 62 ∧ -(2 ^ 62) ≤ j ∧ j < 2 ^ 62) ∧ R (Itr i (j - i).toNat) H1) : iRng2 ta σ H R := h
theorem c_r1F (h1 : -4611686018427387904 ≤ hi ∧ hi < 4611686018427387904) (h : ForJ (Itr 0 hi.toNat) g tb D σ H) : ∃ j : Int, [V.int hi] = [.int j] ∧ -(2 ^ 62) ≤ j ∧ j < 2 ^ 62 ∧ ForJ (Itr 0 j.toNat) g tb D σ H := ⟨hi, rfl, by omega, by omega, h⟩
theorem c_r2F (h1 : -4611686018427387904 ≤ hi ∧ hi < 4611686018427387904 ∧ -4611686018427387904 ≤ lo ∧ lo < 4611686018427387904) (h : ForJ (Itr lo (hi - lo).toNat) g tb D σ H) : ∃ i j : Int, [V.int lo, V.int hi] = [.int i, .int j] ∧ (-(2 ^ 62) ≤ i ∧ i < 2 ^ 62 ∧ -(2 ^ 62) ≤ j ∧ j < 2 ^ 62) ∧ ForJ (Itr i (j - i).toNat) g tb D σ H :=
  ⟨lo, hi, rfl, by omega, h⟩
theorem c_itLF (h : SqL K H a xs) (q : ForJ (Itl K a) g tb D σ H) : ∃ b, V.ref a = .ref b ∧ (∃ xs, SqL K H b xs) ∧ ForJ (Itl K b) g tb D σ H := ⟨a, rfl, ⟨xs, h⟩, q⟩
theorem c_itTF (h : SqT K H a xs) (q : ForJ (Itt K a) g tb D σ H) : ∃ b, V.ref a = .ref b ∧ (∃ xs, SqT K H b xs) ∧ ForJ (Itt K b) g tb D σ H := ⟨a, rfl, ⟨xs, h⟩, q⟩
theorem c_itSF (q : ForJ (Its z) g tb D σ H) : ∃ x, V.str z = .str x ∧ ForJ (Its x) g tb D σ H := ⟨z, rfl, q⟩
theorem c_r1C (h1 : -4611686018427387904 ≤ hi ∧ hi < 4611686018427387904) (h : LcJ (Itr 0 hi.toNat) g tt te vs σ H Q) : ∃ j : Int, [V.int hi] = [.int j] ∧ -(2 ^ 62) ≤ j ∧ j < 2 ^ 62 ∧ LcJ (Itr 0 j.toNat) g tt te vs σ H Q := ⟨hi, rfl, by omega, by omega, h⟩
theorem c_r2C (h1 : -4611686018427387904 ≤ hi ∧ hi < 4611686018427387904 ∧ -4611686018427387904 ≤ lo ∧ lo < 4611686018427387904) (h : LcJ (Itr lo (hi - lo).toNat) g tt te vs σ H Q) : ∃ i j : Int, [V.int lo, V.int hi] = [.int i, .int j] ∧ (-(2 ^ 62) ≤ i ∧ i < 2 ^ 62 ∧ -(2 ^ 62) ≤ j ∧ j < 2 ^ 62) ∧ LcJ (Itr i (j - i).toNat) g tt te vs σ H Q :=
  ⟨lo, hi, rfl, by omega, h⟩
theorem c_itLC (h : SqL K H a xs) (q : LcJ (Itl K a) g tt te vs σ H Q) : ∃ b, V.ref a = .ref b ∧ (∃ xs, SqL K H b xs) ∧ LcJ (Itl K b) g tt te vs σ H Q := ⟨a, rfl, ⟨xs, h⟩, q⟩
theorem c_itTC (h : SqT K H a xs) (q : LcJ (Itt K a) g tt te vs σ H Q) : ∃ b, V.ref a = .ref b ∧ (∃ xs, SqT K H b xs) ∧ LcJ (Itt K b) g tt te vs σ H Q := ⟨a, rfl, ⟨xs, h⟩, q⟩
theorem c_itSC (q : LcJ (Its z) g tt te vs σ H Q) : ∃ x, V.str z = .str x ∧ LcJ (Its x) g tt te vs σ H Q := ⟨z, rfl, q⟩
theorem c_iList (h : tl σ H fun x H1 => ∃ a, x = .ref a ∧ (∃ xs, SqL K H1 a xs) ∧ R (Itl K a) H1) : iList K tl σ H R := h
theorem c_iTup (h : tl σ H fun x H1 => ∃ a, x = .ref a ∧ (∃ xs, SqT K H1 a xs) ∧ R (Itt K a) H1) : iTup K tl σ H R := h
theorem c_iStr (h : tl σ H fun v H1 => ∃ x, v = .str x ∧ R (Its x) H1) : iStr tl σ H R := h
/-- for .. in range: the word Pv by the turn -/
theorem forR (Pv : Nat → St → Hp → Prop) (h0 : Pv 0 σ H) (hs : ∀ i σ H, i < n → Pv i σ H → g (.int (lo + i)) σ H fun σ2 H2 => tb { D with nx := Pv (i + 1), ct := Pv (i + 1), bk := D.nx } σ2 H2) (hd : ∀ σ H, Pv n σ H → D.nx σ H) : ForJ (Itr lo n) g tb D σ H := for_range Pv h0 hs hd
theorem forL (xs : List V) (Pv : Nat → St → Hp → Prop) (h0 : Pv 0 σ H) (hl : ∀ i σ H, i ≤ xs.length → Pv i σ H → SqL K H a xs)
    (hs : ∀ i x σ H, xs[i]? = some x → Pv i σ H → g x σ H fun σ2 H2 => tb { D with nx := Pv (i + 1), ct := Pv (i + 1), bk := D.nx } σ2 H2) (hd : ∀ σ H, Pv xs.length σ H → D.nx σ H) : ForJ (Itl K a) g tb D σ H := for_list Pv h0 hl hs hd
theorem forT (xs : List V) (Pv : Nat → St → Hp → Prop) (h0 : Pv 0 σ H) (hl : ∀ i σ H, i ≤ xs.length → Pv i σ H → SqT K H a xs)
    (hs : ∀ i x σ H, xs[i]? = some x → Pv i σ H → g x σ H fun σ2 H2 => tb { D with nx := Pv (i + 1), ct := Pv (i + 1), bk := D.nx } σ2 H2) (hd : ∀ σ H, Pv xs.length σ H → D.nx σ H) : ForJ (Itt K a) g tb D σ H := for_tup Pv h0 hl hs hd
theorem forS (Pv : Nat → St → Hp → Prop) (h0 : Pv 0 σ H)
    (hs : ∀ (i : Nat) (c : Nat) σ H, z.cps.toList[i]? = some c → Pv i σ H → g (.str ⟨#[c]⟩) σ H fun σ2 H2 => tb { D with nx := Pv (i + 1), ct := Pv (i + 1), bk := D.nx } σ2 H2) (hd : ∀ σ H, Pv z.cps.toList.length σ H → D.nx σ H) : ForJ (Its z) g tb D σ H := by
  refine ⟨fun i m σ H => m = z.cps.size - i ∧ i ≤ z.cps.size ∧ Pv i σ H, ⟨_, rfl, Nat.zero_le _, h0⟩, ?_⟩
  rintro i m σ H ⟨rfl, hi, p⟩
  by_cases hlt : i < z.cps.size
  · refine .inr ⟨hlt, Pv (i + 1), fun σ' H' p' => ⟨_, by omega, rfl, hlt, p'⟩, fun x H' y => ?_⟩
    obtain ⟨e, c, hc, e2⟩ := y
    subst e e2
    exact hs i c σ _ (by rw [Array.getElem?_toList]; exact hc) p
  · have e : i = z.cps.toList.length := by rw [Array.length_toList]; omega
    subst e
    exact .inl ⟨by rw [Array.length_toList] at hlt; exact Nat.le_of_not_lt hlt, hd σ H p⟩

/-! comprehensions: the word Pv by the new list's place, the turn, what the list holds, the heap -/
def LcN (Pv : Addr → Nat → List V → Hp → Prop) (Dl : Addr) (i : Nat) (H : Hp) : Prop := ∃ acc, H Dl = some (.lst acc) ∧ acc.length ≤ i ∧ Pv Dl i acc H
abbrev LcT (g : TG) (tt : TT) (te : TE) (vs : List Nat) (σ : St) (Pv : Addr → Nat → List V → Hp → Prop) (Dl : Addr) (i : Nat) (x : V) (H' : Hp) : Prop :=
  g x (wipe σ vs) H' fun σ2 H2 => wipe σ2 vs = wipe σ vs ∧ tt σ2 H2 fun b H3 =>
    if b = true then te σ2 H3 fun y H4 => ∃ acc, H4 Dl = some (.lst acc) ∧ acc.length < sizeLine ∧ LcN Pv Dl (i + 1) (upd H4 Dl (.lst (acc ++ [y]))) else LcN Pv Dl (i + 1) H3
theorem lc_push {Pv : Addr → Nat → List V → Hp → Prop} {Dl : Addr} {i : Nat} {H4 : Hp} {acc : List V} {y : V} (h : H4 Dl = some (.lst acc)) (hl : acc.length ≤ i) (hi : i < 16777216) (p : Pv Dl (i + 1) (acc ++ [y]) (upd H4 Dl (.lst (acc ++ [y])))) :
    ∃ acc, H4 Dl = some (.lst acc) ∧ acc.length < sizeLine ∧ LcN Pv Dl (i + 1) (upd H4 Dl (.lst (acc ++ [y]))) :=
  ⟨acc, h, by rw [sizeLine_eq]; omega, acc ++ [y], upd_same, by rw [List.length_append, List.length_singleton]; omega, p⟩
theorem lc_skip {Pv : Addr → Nat → List V → Hp → Prop} {Dl : Addr} {i : Nat} {H3 : Hp} {acc : List V} (h : H3 Dl = some (.lst acc)) (hl : acc.length ≤ i) (p : Pv Dl (i + 1) acc H3) : LcN Pv Dl (i + 1) H3 := ⟨acc, h, by omega, p⟩
theorem lcR (Pv : Addr → Nat → List V → Hp → Prop) (h0 : ∀ Dl, H Dl = none → Pv Dl 0 [] (upd H Dl (.lst [])))
    (hs : ∀ Dl i acc H', H Dl = none → i < n → H' Dl = some (.lst acc) → acc.length ≤ i → Pv Dl i acc H' → LcT g tt te vs σ Pv Dl i (.int (lo + i)) H')
    (hd : ∀ Dl acc H', H Dl = none → H' Dl = some (.lst acc) → acc.length ≤ n → Pv Dl n acc H' → Q (.ref Dl) H') : LcJ (Itr lo n) g tt te vs σ H Q := fun Dl hD =>
  lc_range (LcN Pv Dl) ⟨[], upd_same, Nat.zero_le _, h0 Dl hD⟩ (fun i H' hi ⟨acc, h1, h2, h3⟩ => hs Dl i acc H' hD hi h1 h2 h3) fun H' ⟨acc, h1, h2, h3⟩ => hd Dl acc H' hD h1 h2 h3
theorem lcL (xs : List V) (Pv : Addr → Nat → List V → Hp → Prop) (h0 : ∀ Dl, H Dl = none → Pv Dl 0 [] (upd H Dl (.lst []))) (hl : ∀ Dl i acc H', H Dl = none → Pv Dl i acc H' → SqL K H' a xs)
    (hs : ∀ Dl i x acc H', H Dl = none → xs[i]? = some x → H' Dl = some (.lst acc) → acc.length ≤ i → Pv Dl i acc H' → LcT g tt te vs σ Pv Dl i x H')
    (hd : ∀ Dl acc H', H Dl = none → H' Dl = some (.lst acc) → acc.length ≤ xs.length → Pv Dl xs.length acc H' → Q (.ref Dl) H') : LcJ (Itl K a) g tt te vs σ H Q := fun Dl hD =>
  lc_list (xs := xs) (LcN Pv Dl) ⟨[], upd_same, Nat.zero_le _, h0 Dl hD⟩ (fun i H' _ ⟨acc, _, _, h3⟩ => hl Dl i acc H' hD h3) (fun i x H' hi ⟨acc, h1, h2, h3⟩ => hs Dl i x acc H' hD hi h1 h2 h3) fun H' ⟨acc, h1, h2, h3⟩ => hd Dl acc H' hD h1 h2 h3
theorem lcT (xs : List V) (Pv : Addr → Nat → List V → Hp → Prop) (h0 : ∀ Dl, H Dl = none → Pv Dl 0 [] (upd H Dl (.lst []))) (hl : ∀ Dl i acc H', H Dl = none → Pv Dl i acc H' → SqT K H' a xs)
    (hs : ∀ Dl i x acc H', H Dl = none → xs[i]? = some x → H' Dl = some (.lst acc) → acc.length ≤ i → Pv Dl i acc H' → LcT g tt te vs σ Pv Dl i x H')
    (hd : ∀ Dl acc H', H Dl = none → H' Dl = some (.lst acc) → acc.length ≤ xs.length → Pv Dl xs.length acc H' → Q (.ref Dl) H') : LcJ (Itt K a) g tt te vs σ H Q := fun Dl hD =>
  lc_tup (xs := xs) (LcN Pv Dl) ⟨[], upd_same, Nat.zero_le _, h0 Dl hD⟩ (fun i H' _ ⟨acc, _, _, h3⟩ => hl Dl i acc H' hD h3) (fun i x H' hi ⟨acc, h1, h2, h3⟩ => hs Dl i x acc H' hD hi h1 h2 h3) fun H' ⟨acc, h1, h2, h3⟩ => hd Dl acc H' hD h1 h2 h3
theorem c_unL {K : PySem.W.Frag} {ys : List V} {gs : TGs} {R : St → Hp → Prop} (h : SqL K H a ys) (hl : ys.length = n) (q : gs ys σ H R) : gLst K n gs (.ref a) σ H R := ⟨a, ys, rfl, h, hl, q⟩
theorem c_unT {K : PySem.W.Frag} {ys : List V} {gs : TGs} {R : St → Hp → Prop} (h : SqT K H a ys) (hl : ys.length = n) (q : gs ys σ H R) : gTup K n gs (.ref a) σ H R := ⟨a, ys, rfl, h, hl, q⟩
theorem c_gCons {v : V} {r : List V} {gs : TGs} {R : St → Hp → Prop} (q : g v σ H fun σ' H' => gs r σ' H' R) : gCons g gs (v :: r) σ H R := ⟨v, r, rfl, q⟩
theorem c_gNil {R : St → Hp → Prop} (q : R σ H) : gNil [] σ H R := ⟨rfl, q⟩
theorem c_cut {t u : TS} (Mid : St → Hp → Prop) (h1 : t { D with nx := Mid } σ H) (h2 : ∀ σ' H', Mid σ' H' → u D σ' H') : Evl.tCut t u D σ H := ⟨Mid, h1, h2⟩
theorem c_yes {R : Bool → Hp → Prop} (h : R true H) : tYes σ H R := h
end
end Sa

namespace Sa
open PySem L2

/-! ## texts by their codes -/
def txt (cs : List Nat) : Str := ⟨cs.toArray⟩
theorem txt_len (cs : List Nat) : (txt cs).length = cs.length := by show cs.toArray.size = _; simp
theorem txt_cps (cs : List Nat) : (txt cs).cps.toList = cs := by show cs.toArray.toList = _; simp
theorem txt_of (s : Str) : s = txt s.cps.toList := by cases s; simp [txt]
theorem txt_app (cs ds : List Nat) : txt cs ++ txt ds = txt (cs ++ ds) := by
  show Str.append _ _ = _
  simp [Str.append, txt]
theorem txt_inj {cs ds : List Nat} : txt cs = txt ds ↔ cs = ds := by
  constructor
  · intro h
    have e := congrArg (fun s : Str => s.cps.toList) h
    simpa [txt] using e
  · intro h; rw [h]
theorem txt_one (c : Nat) : (⟨#[c]⟩ : Str) = txt [c] := rfl
theorem cutS_txt (cs : List Nat) (lo hi : Option Int) : cutS (txt cs) lo hi = txt ((cs.drop (HT.sIx cs.length 0 lo)).take (HT.sIx cs.length cs.length hi - HT.sIx cs.length 0 lo)) := by
  unfold cutS
  rw [txt_len, txt_cps]
  rfl
theorem join_ones : ∀ cs : List Nat, Str.join (txt []) (cs.map fun c => txt [c]) = txt cs
  | [] => rfl
  | [c] => rfl
  | c :: d :: r => by
    have ih := join_ones (d :: r)
    show txt [c] ++ txt [] ++ Str.join (txt []) ((d :: r).map fun c => txt [c]) = txt (c :: d :: r)
    rw [ih, txt_app, txt_app]
    rfl
theorem tjoin (s : Str) (ys : List Str) : Txt.join s ys = Str.join s ys := StrLaws.glued_eq_join s ys
theorem tjoin_ones (cs : List Nat) : Txt.join (txt []) (cs.map fun c => txt [c]) = txt cs := by rw [tjoin, join_ones]
theorem sum_ones (cs : List Nat) : (((cs.map fun c => txt [c])).map (·.length)).sum = cs.length := by
  induction cs with
  | nil => rfl
  | cons c r ih =>
    simp only [List.map_cons, List.sum_cons, ih, List.length_cons, txt_len]
    simp
    omega
/-! ## slices -/
def cutL {α : Type} (xs : List α) (lo hi : Option Int) : List α := (xs.drop (HT.sIx xs.length 0 lo)).take (HT.sIx xs.length xs.length hi - HT.sIx xs.length 0 lo)
theorem cutV_eq (xs : List V) (lo hi : Option Int) : cutV xs lo hi = cutL xs lo hi := rfl
theorem cutL_map {α β : Type} (f : α → β) (xs : List α) (lo hi : Option Int) : cutL (xs.map f) lo hi = (cutL xs lo hi).map f := by
  unfold cutL
  rw [List.length_map, List.map_take, List.map_drop]
theorem cutV_ints (ns : List Int) (lo hi : Option Int) : cutV (ns.map V.int) lo hi = (cutL ns lo hi).map V.int := by rw [cutV_eq, cutL_map]
theorem sIx_of {n d : Nat} {i : Int} (h : 0 ≤ i) : HT.sIx n d (some i) = min i.toNat n := by
  obtain ⟨k, rfl⟩ := Int.eq_ofNat_of_zero_le h
  exact HT.sIx_nat n d k
theorem cutL_lt {α : Type} {xs : List α} {i j : Int} (h0 : 0 ≤ i) (h1 : i ≤ j) (h2 : j ≤ xs.length) : cutL xs (some i) (some j) = (xs.drop i.toNat).take (j.toNat - i.toNat) := by
  unfold cutL
  rw [sIx_of h0, sIx_of (by omega), Nat.min_eq_left (by omega), Nat.min_eq_left (by omega)]
theorem cutL_to {α : Type} {xs : List α} {j : Int} (h1 : 0 ≤ j) (h2 : j ≤ xs.length) : cutL xs none (some j) = xs.take j.toNat := by
  unfold cutL
  rw [sIx_of h1, Nat.min_eq_left (by omega)]
  simp [HT.sIx]
theorem cutL_from {α : Type} {xs : List α} {i : Int} (h0 : 0 ≤ i) (h1 : i ≤ xs.length) : cutL xs (some i) none = xs.drop i.toNat := by
  unfold cutL
  rw [sIx_of h0, Nat.min_eq_left (by omega)]
  show (xs.drop i.toNat).take (xs.length - i.toNat) = _
  rw [List.take_of_length_le (by rw [List.length_drop]; omega)]
/-! ## lists of whole numbers compared -/
section
variable {K : PySem.W.Frag} {H : Hp} {Q : VK} {a b : Addr} {ns ms : List Int}
theorem dpAll_ints : ∀ ns : List Int, DpAll K H (ns.map V.int) (ns.map PyData.int)
  | [] => .nil
  | n :: r => .cons (.int n) (dpAll_ints r)
theorem dp_ints (h : SqL K H a (ns.map V.int)) : Dp K H (.ref a) (.list (ns.map PyData.int)) := .lst h (dpAll_ints ns)
theorem eqvAll_ints : ∀ ns ms : List Int, PyData.eqvAll (ns.map PyData.int) (ms.map PyData.int) = decide (ns = ms)
  | [], [] => by simp [PyData.eqvAll]
  | [], _ :: _ => by simp [PyData.eqvAll]
  | _ :: _, [] => by simp [PyData.eqvAll]
  | a :: r, b :: t => by
    simp only [List.map_cons, PyData.eqvAll, PyData.eqv, eqvAll_ints r t]
    by_cases h : a = b <;> by_cases h' : r = t <;> simp [h, h']
theorem c_eqLI (ha : SqL K H a (ns.map V.int)) (hb : SqL K H b (ms.map V.int)) (q : Q (.bl (decide (ns = ms))) H) : rEqU K (.ref a) (.ref b) H Q :=
  c_eqD (dp_ints ha) (dp_ints hb) (PySem.W.ke_shaped_ints ns) (PySem.W.ke_shaped_ints ms) (by rw [PyData.eqv, eqvAll_ints]; exact q)
theorem c_neLI (ha : SqL K H a (ns.map V.int)) (hb : SqL K H b (ms.map V.int)) (q : Q (.bl (!decide (ns = ms))) H) : rNeU K (.ref a) (.ref b) H Q :=
  c_neD (dp_ints ha) (dp_ints hb) (PySem.W.ke_shaped_ints ns) (PySem.W.ke_shaped_ints ms) (by rw [PyData.eqv, eqvAll_ints]; exact q)
end
theorem map_snocI (ds : List Int) (z : Int) : ds.map V.int ++ [V.int z] = (ds ++ [z]).map V.int := by rw [List.map_append]; rfl
theorem take_succ' {α : Type} {xs : List α} {i : Nat} {x : α} (h : xs[i]? = some x) : xs.take (i + 1) = xs.take i ++ [x] := by
  rw [List.take_succ, h]; rfl
end Sa

/-! Defs whose promise is kept where no repr is under way around them (the law's defs that call repr). -/
namespace Sa
open PySem PySem.Spec PyProof.Rows L2
structure FnG (P : Program) (w : World) (K : PySem.W.Frag) (mg : Str → Option Value) (base : Heap) (CX : CXT) (k : Nat) (f : Addr) (fd : FuncData) (ps : List Str) (sp : Sp) : Prop where
  len : ∀ vs H Q E, sp vs H Q E → vs.length = ps.length
  go : ∀ (A : Around) (fs : List Env) (s : Shared) (H : Hp) (args : Args) (us : List Value) (vs : List V) (Q : VK) (E : XK),
    A.guards = some [] ∧ Room k A ∧ Env0 P w K mg base A fs s H ∧ BindsTo s fd args (ps.zip us) ∧ Vals vs us ∧ sp vs H Q E → codeAny (model P w) A (.call (.ref f) args) (CR CX fs P w H s Q E) s
theorem FnG.mono {P : Program} {w : World} {K : PySem.W.Frag} {mg : Str → Option Value} {base : Heap} {CX : CXT} {j k : Nat} {f : Addr} {fd : FuncData} {ps : List Str} {sp : Sp} (F : FnG P w K mg base CX j f fd ps sp) (h : j ≤ k) : FnG P w K mg base CX k f fd ps sp :=
  ⟨F.len, fun A fs s H args us vs Q E z => F.go A fs s H args us vs Q E ⟨z.1, z.2.1.mono h, z.2.2⟩⟩
section
variable {P : Program} {w : World} {K : PySem.W.Frag} {mg : Str → Option Value} {base : Heap} {CX : CXT} {k : Nat} {f : Addr} {x : Str} {st : Stmt} {N ps : List Str} {sp : Sp}
/-- what such a body owes -/
def BodyG (P : Program) (w : World) (K : PySem.W.Frag) (mg : Str → Option Value) (base : Heap) (x : Str) (st : Stmt) (N : List Str) (k : Nat) (sp : Sp) : Prop :=
  ∀ (cdv : Value) (A : Around) (fs : List Env) (s : Shared) (H : Hp) (vs : List V) (Q : VK) (E : XK), sp vs H Q E → let X : Cx := (cxOf CX0 P w K mg base N x (defScope st) (He.ga K x) cdv A fs s H E).nox
    Room k X.A → X.A.guards = some [] → ∃ t, PSs X (defBody st) t ∧ t { nx := fun _ H' => Q .non H', rt := Q } (start N vs) H
theorem fnG_of {fd : FuncData} (F : FunD K x x (defArgs st) (defBody st) (defScope st) [] [] (He.ga K x) fd) (S : FnScope N ps (defScope st)) (len : ∀ vs H Q E, sp vs H Q E → vs.length = ps.length) (body : BodyG P w K mg base x st N k sp) :
    FnG P w K mg base CX0 (k + 1) (He.ga K x) fd ps sp := by
  obtain ⟨oc, od, dV, kV, doc, pm, an, cdv, ct, osl, rfl, lk, hcd, _, _⟩ := F.ex
  refine ⟨len, ?_⟩
  rintro A fs s H args us vs Q E ⟨hg, hr, e0, hb, rv, hsp⟩
  have hlen := len _ _ _ _ hsp
  have inK : K.In s.heap := e0.mod.kin.keeps (fun b o e => (e0.bs b o e).1)
  have noL : s.heap.NoLimit := e0.mod.nolimit.keeps (fun b o e => (e0.bs b o e).1)
  have loc : ∀ y ∈ ps.zip us, (defScope st).names.lookup y.1 = some .local ∨ ((defScope st).names.lookup y.1 = some .cell ∧ ((cellsFrom (s.heap.objs.size + 1) (defScope st).names []).lookup y.1).isSome = true) := by
    rintro ⟨n, v⟩ hy
    exact (S.par n (List.of_mem_zip hy).1).imp id (fun q => ⟨q, PySem.W.cellsFrom_some _ _ _ (.inl q)⟩)
  refine codeAny_call_function hr.depth (inK _ _ lk) rfl S.co S.gen rfl (PySem.W.codeRec_of inK hcd) (hb _ _ _ _ (wpAny_newFunctionEnv_cells S.kind loc (fun env he s1 ic => ?_)))
  cases he
  refine ⟨noL.keeps ic.toInCall.keep, codeAny_func ?_⟩
  obtain ⟨t, ht, hq⟩ := body cdv A fs s H vs Q E hsp (hr.deeper _) hg
  have I := inv_start (CX := CX0) (P := P) (w := w) (K := K) (mg := mg) (base := base) (E := E) S hr.hd e0 hlen rv ic
  refine wpAny_mono (ht.nox.run [] s1 (start N vs) H _ I hq) (fun fl s' hs => ?_) (fun e s' hs => hs)
  have fin : ∀ {σ' H' v u}, Inv (cxOf CX0 P w K mg base N x (defScope st) (He.ga K x) cdv A fs s H E) [] σ' H' s' → RelV v u → Q v H' → CE fs P w H s Q u s' := by
    intro σ' H' v u J rv q
    exact ⟨v, H', J.os, J.bare, J.base, J.hok, rv, q⟩
  cases fl with
  | ret u => obtain ⟨v, σ', H', J, rv, q⟩ := hs; exact fin J rv q
  | next => obtain ⟨σ', H', J, q⟩ := hs; exact fin (v := V.non) (u := Value.none) J rfl q
  | brk => obtain ⟨_, _, _, q⟩ := hs; exact q.elim
  | cont => obtain ⟨_, _, _, q⟩ := hs; exact q.elim
end
/-- a def under the module's name x that keeps sp where no repr is under way -/
structure DefG (P : Program) (w : World) (K : PySem.W.Frag) (mg : Str → Option Value) (base : Heap) (x : Str) (k : Nat) (ps : List Str) (sp : Sp) : Prop where
  gl : mg x = some (.ref (He.ga K x))
  kp : PySem.W.keepIn K (.ref (He.ga K x)) = true
  ok : ∃ fd, FnG P w K mg base CX0 k (He.ga K x) fd ps sp ∧ Binds K fd ps []
theorem defG_of {fa : List He.Fa} {fn : List He.DefD} {fx : List Fx} {P : Program} {w : World} {K : PySem.W.Frag} {mg : Str → Option Value} {base : Heap} (T : Tx fa fn fx K mg) (i j : Nat) {x : Str} {st : Stmt} {N ps : List Str} {k : Nat} {sp : Sp} (S : FnScope N ps (defScope st)) (B : BindN x st ps)
    (len : ∀ vs H Q E, sp vs H Q E → vs.length = ps.length) (body : BodyG P w K mg base x st N k sp) (hd : fn[i]? = some (dOf x st) := by rfl) (hg : fa[j]? = some (.glo x) := by rfl) : DefG P w K mg base x (k + 1) ps sp := by
  have gl := T.glo j hg
  obtain ⟨hp, X, G, c, _⟩ := T
  obtain ⟨fd, F⟩ := c.def_ i hd
  exact ⟨gl, F.kp, fd, fnG_of F S len body, F.bindsN B⟩
section
variable {X : Cx} {x : Str} {k j : Nat} {ps : List Str} {sp : Sp} {p pos : Pos} {e : Expr} {es : List Expr} {t : TA}
theorem pe_callG (D : DefG X.prog X.w X.K X.mg X.base x j ps sp) (hr : Room k X.A) (hgd : X.A.guards = some []) (ha : PA X (e :: es) t) (hjk : j ≤ k := by decide) (hg : Gl X x := by rfl)
    (hdb : (x == ("__debug__" : Str)) = false := by decide) (he : starEach (e :: es) X.env = (false, eval e X.env) :: starEach es X.env := by rfl) (hpl : (backTo pos (starEach es X.env)).any (·.1) = false := by rfl) :
    PE X (.Call (.Name x p) (e :: es) [] pos) (tCallA sp E0 t) := by
  obtain ⟨fd, F0, B⟩ := D.ok
  have F := F0.mono hjk
  refine ⟨fun pins s σ H Q I h => ?_⟩
  refine wpAny_Call_Name_kw (ld_glob I hg D.gl ?_ hdb)
  refine PySem.W.callWith_K (h₀ := X.base) I.ok.mod.kin D.kp (thn (ha.run pos pins s σ H _ I h) (fun us s1 z => ?_)) he hpl
  obtain ⟨vs, H1, I1, r, q⟩ := z
  refine ⟨I1.kIn, ?_⟩
  have n : (us ++ []).length = ps.length := by rw [List.append_nil, ← r.length]; exact F.len _ _ _ _ q
  have b := B s1 us I1.kIn n
  rw [List.append_nil] at b
  refine wpAny_call (codeAny_mono (F.go X.A X.stack s1 H1 ⟨us, []⟩ us vs Q E0 ⟨hgd, hr, I1.env0, b, r, q⟩) (fun r s' hq => ?_))
  cases r with
  | error e => exact False.elim hq
  | ok fl =>
    cases fl with
    | ret u => exact I1.after hq
    | next => exact False.elim hq
    | brk => exact False.elim hq
    | cont => exact False.elim hq
end
/-! ## repr of data -/
structure Nice (d : PyData) : Prop where
  lay : PyData.layable0 d = true
  shrt : PyData.intsShort 13 d = true
  show_ : PyData.showable d = true
theorem Nice.size {d : PyData} (h : Nice d) : d.shown.length ≤ sizeLine := by
  have z := shown_le13 h.lay h.shrt
  rw [sizeLine_eq]
  omega
theorem Nice.depth {d : PyData} (h : Nice d) : d.depth ≤ 64 := by
  have z := h.lay
  unfold PyData.layable0 at z
  simp only [Bool.and_eq_true, decide_eq_true_eq] at z
  exact z.1.2
def rReprD (K : PySem.W.Frag) : List V → Hp → VK → Prop := fun vs H Q => ∃ (x : V) (d : PyData), vs = [x] ∧ Dp K H x d ∧ Nice d ∧ Q (.str d.shown) H
theorem cr_reprD {X : Cx} {K : PySem.W.Frag} {A : Around} (hg : A.guards = some []) (hu : A.units + 100 < cLine) (hA : X.A = A := by rfl) (hK : X.K = K := by rfl) : CallR X (.builtin "repr") (rReprD K) := by
  subst hA hK
  intro pins s σ H vs us Q I r h
  obtain ⟨x, d, rfl, hd, nd, q⟩ := h
  obtain ⟨u, rfl, ru⟩ := vals1 r
  have hdp := nd.depth
  cases hd with
  | non => cases ru; exact PySem.P.repr_of_none ⟨.str _, H, I.tok _, ⟨_, rfl⟩, q⟩
  | bl b => cases ru; exact PySem.P.repr_of_bool ⟨.str _, H, I.tok _, ⟨_, rfl⟩, q⟩
  | int i => obtain ⟨t, rfl⟩ := ru; exact PySem.P.repr_of_int (of_decide_eq_true nd.show_) ⟨.str _, H, I.tok _, ⟨_, rfl⟩, q⟩
  | str z => obtain ⟨t, rfl⟩ := ru; exact PySem.P.repr_of_str ⟨.str _, H, I.tok _, ⟨_, rfl⟩, q⟩ nd.size
  | lst h1 h2 =>
    cases ru
    obtain ⟨as, hr⟩ := Dp.reads I _ _ _ (Dp.lst h1 h2) rfl
    exact repr_of_reads' hr nd.show_ (PyData.noDict_hsm (PyData.hasDict_of_layable nd.lay)) hg (by omega) (fun _ _ e => e) (fun h' u tk hk => ⟨.str _, H, I.kept hk, ⟨_, rfl⟩, q⟩) nd.size
  | tup h1 h2 =>
    cases ru
    obtain ⟨as, hr⟩ := Dp.reads I _ _ _ (Dp.tup h1 h2) rfl
    exact repr_of_reads' hr nd.show_ (PyData.noDict_hsm (PyData.hasDict_of_layable nd.lay)) hg (by omega) (fun _ _ e => e) (fun h' u tk hk => ⟨.str _, H, I.kept hk, ⟨_, rfl⟩, q⟩) nd.size
theorem c_repr {K : PySem.W.Frag} {H : Hp} {Q : VK} {x : V} {d : PyData} (h : Dp K H x d) (n : Nice d) (q : Q (.str d.shown) H) : rReprD K [x] H Q := ⟨x, d, rfl, h, n, q⟩

/-! ## the end of a law whose def is such -/
theorem run_end {P : Program} {w : World} {K : PySem.W.Frag} {mg mb : Str → Option Value} {k : Nat} {f a : Addr} {fd : FuncData} {x : Str} {sp : Sp} {s : Shared} {H : Hp}
    (KX : K.In s.heap) (hns : s.heap.Ns mainGlobals mg) (hb : s.heap.Ns builtinsNs mb) (hbb : ∀ x : Str, x ≠ "__name__" → mb x = bootBuiltins x) (hlim : s.heap.NoLimit) (hg : s.gens = #[]) (hr : Room k callerA)
    (F : ∀ base : Heap, K.In base → base.Ns mainGlobals mg → FnG P w K mg base CX0 k f fd [x] sp) (bind : BindsTo s fd ⟨[.ref a], []⟩ [(x, .ref a)]) (hsp : sp [.ref a] H (fun v _ => v = .bl true) fun _ _ _ => False)
    (only : Only H) (hok : HOk P w H s.heap) (one : ∀ b, H b ≠ none → b = a ∧ K.lookup a = none ∧ ∀ o, s.heap.get? a = some o → ∀ es ep, o.data ≠ .dict es ep) :
    codeAny (model P w) callerA (.call (.ref f) ⟨[.ref a], []⟩) (fun r s' => r = .ok (.ret (.bool true)) ∧ OldK s.heap s'.heap ∧ s'.os = s.os ∧ AllBare s'.gens) s := by
  have free : ∀ {b o es ep}, s.heap.get? b = some o → o.data = .dict es ep → H b = none := by
    intro b o es ep e d
    cases z : H b with
    | none => rfl
    | some u =>
      obtain ⟨e1, _, e3⟩ := one b (by rw [z]; intro q; cases q)
      subst e1
      exact absurd d (e3 o e es ep)
  have ns : ∀ {b m}, s.heap.Ns b m → (hidT s.heap H).Ns b m := by
    rintro b m ⟨o, es, ep, e, d, r⟩
    exact ⟨o, es, ep, hidT_get e (free e d), d, r⟩
  have KB : K.In (hidT s.heap H) := by
    intro b o e
    refine hidT_get (KX b o e) ?_
    cases z : H b with
    | none => rfl
    | some u =>
      obtain ⟨e1, e2, _⟩ := one b (by rw [z]; intro q; cases q)
      subst e1
      rw [e2] at e
      cases e
  have M : Mod K mg (hidT s.heap H) := ⟨KB, ns hns, ⟨mb, ns hb, hbb⟩, by obtain ⟨mc, h1, h2⟩ := hlim; exact ⟨mc, ns h1, h2⟩⟩
  have e0 : Env0 P w K mg (hidT s.heap H) callerA [] s H := ⟨rfl, M, fun b o e => of_hidT e, Nat.le_of_eq (hidT_size _ _), trivial, fun b hb => absurd hb (by simp [frs]), hok, .of_eq hg⟩
  refine codeAny_mono ((F _ KB (ns hns)).go callerA [] s H ⟨[.ref a], []⟩ [.ref a] [.ref a] _ _ ⟨rfl, hr, e0, bind, .cons rfl .nil, hsp⟩) (fun r s' z => ?_)
  cases r with
  | error e => exact False.elim z
  | ok fl =>
    cases fl with
    | next => exact False.elim z
    | brk => exact False.elim z
    | cont => exact False.elim z
    | ret u =>
      obtain ⟨v, H', os, bare, un, hok', rv, q⟩ := z
      cases (show v = .bl true from q)
      cases rv
      refine ⟨rfl, OldK.of_keep (fun b o e => ?_), os, bare⟩
      rcases only b with z | ⟨ob, xs, z⟩
      · exact un.keep b o e z (by simp [frs]) (by simp)
      · have e1 := (hok b _ z).1
        have e2 := (hok' b _ (un.frzs b ob _ z)).1
        rw [e] at e1
        cases e1
        exact e2
theorem law_end {l : PySem.W.OpenLaw} {n k : Nat} {q : Program} {loose : List Str} {XP : (Str → Option Value) → Heap → Prop} {YP : World → Heap → Prop} {d : DefRec} {x : Str}
    (hn : l.most = some n) (hn2 : n ≤ sizeLine) (hdf : d.params.defaults = []) (hr : Room k callerA)
    (F : ∀ (w : World) (mg : Str → Option Value) (fa : Addr) (h : Heap), YP w h → h.Ns mainGlobals mg → mg d.name = some (.ref fa) →
      ∃ (K : PySem.W.Frag) (fd : FuncData) (sp : Sp), K.In h ∧ (∀ (s : Shared) (u : Value), BindsTo s fd ⟨[u], []⟩ [(x, u)]) ∧
        (∀ (H : Hp) (a : Addr) (ns : List Int), SqL K H a (ns.map V.int) → sp [.ref a] H (fun v _ => v = .bl true) fun _ _ _ => False) ∧
        ∀ base : Heap, K.In base → base.Ns mainGlobals mg → FnG l.prog w K mg base CX0 k fa fd [x] sp) :
    PySem.W.WalkO q loose XP YP l.row.toRowW d [] (fun f vs => PySem.call f vs) := by
  refine Att.attach_call hn hdf (fun w s0 s mg mb fa o pm cd doc a vs ns G Y ho hd hcd hmg hobj hints hlen hg => ?_)
  obtain ⟨K, fd, sp, KX, bind, hsp, hF⟩ := F w mg fa _ Y G.T.g hmg
  have rv := vals_ints hints
  have len := hints.length
  have hz : ns.length ≤ sizeLine := Nat.le_trans hlen hn2
  cases hk : K.lookup a with
  | some ob =>
    have e := KX a ob hk
    rw [hobj] at e
    cases e
    exact run_end (H := fun _ => none) KX G.T.g G.T.b G.T.builtins G.T.nolimit hg hr hF (bind s _) (hsp _ a ns (.inr ⟨_, vs.toArray, _, hk, rfl, rfl, rfl, by rw [List.size_toArray, len]; exact hz, by simpa using rv⟩)) (fun _ => .inl rfl) (fun b u z => by cases z) (fun b z => absurd rfl z)
  | none =>
    have at_ : (fun b => if b = a then some (HO.frz { cls := .type "list", data := .seq vs.toArray } (.lst (ns.map V.int))) else none : Hp) a = some (HO.frz { cls := .type "list", data := .seq vs.toArray } (.lst (ns.map V.int))) := if_pos rfl
    refine run_end (H := fun b => if b = a then some (HO.frz { cls := .type "list", data := .seq vs.toArray } (.lst (ns.map V.int))) else none) KX G.T.g G.T.b G.T.builtins G.T.nolimit hg hr hF (bind s _) (hsp _ a ns (.inl (.inr ⟨_, at_⟩))) (fun b => ?_) (fun b u z => ?_) (fun b z => ?_)
    · by_cases h : b = a
      · exact .inr ⟨_, _, if_pos h⟩
      · exact .inl (if_neg h)
    · by_cases h : b = a
      · cases h
        cases (if_pos rfl).symm.trans z
        exact ⟨hobj, by rw [List.length_map]; exact hz, vs, _, rv, hobj⟩
      · cases (if_neg h).symm.trans z
    · by_cases h : b = a
      · refine ⟨h, hk, fun o2 e es ep dd => ?_⟩
        rw [hobj] at e
        cases e
        cases dd
      · exact absurd (if_neg h) z
/-- the law's own def, for this end -/
theorem lawG_of {fa : List He.Fa} {fn : List He.DefD} {P : Program} {w : World} {K : PySem.W.Frag} {mg : Str → Option Value} {h : Heap} {f : Addr} {N : List Str} {x : Str} {st : Stmt} {k : Nat} {sp : Sp} (KX : K.In h) (G : h.Ns mainGlobals mg) (c : He.SaysD fa fn K)
    (hf : mg "law" = some (.ref f)) (i j : Nat) (S : FnScope N [x] (defScope st)) (B : BindN "law" st [x]) (len : ∀ vs H Q E, sp vs H Q E → vs.length = 1) (body : ∀ base, BodyG P w K mg base "law" st N k sp)
    (hd : fn[i]? = some (dOf "law" st) := by rfl) (hg : fa[j]? = some (.glo "law") := by rfl) :
    ∃ fd : FuncData, (∀ (s : Shared) (v : Value), BindsTo s fd ⟨[v], []⟩ [(x, v)]) ∧ ∀ base : Heap, K.In base → base.Ns mainGlobals mg → FnG P w K mg base CX0 (k + 1) f fd [x] sp := by
  obtain ⟨fd, F⟩ := c.def_ i hd
  have gl := He.glo_ok KX G (c.fact j hg)
  cases hf.symm.trans gl
  have b := F.bindsA (ps := [x]) B
  exact ⟨fd, fun s v => b s [v] rfl, fun base _ _ => fnG_of F S len (body base)⟩
end Sa

/-! Texts: split, startswith, the tie. -/
namespace Sa
open PySem L2
section
variable {X : Cx} {K : PySem.W.Frag} {σ : St} {H : Hp} {Q : VK} {a : Addr} {s z : Str} {to te : TE} {o e : Expr}
/-- a text parted by another one -/
def rSplitU : V → List V → Hp → VK → Prop := fun x xs H Q => ∃ a b, x = .str a ∧ xs = [.str b] ∧ (b.length == 0) = false ∧ a.length + 2 ≤ sizeLine ∧ ∀ p, H p = none → Q (.ref p) (upd H p (.lst ((Txt.split a b).map V.str)))
theorem pe_splitU {apos pos : Pos} (ho : PE X o to) (he : PE X e te) (hs : starEach [e] X.env = [(false, eval e X.env)] := by rfl) (hbase : attributeBase o "split" X.env (eval o X.env) = eval o X.env := by rfl) (hline : (apos.endLine == pos.line) = true := by rfl) :
    PE X (.Call (.Attribute o "split" apos) [e] [] pos) (tM1 rSplitU to te) := pe_split ho he hs hbase hline
theorem c_split (h0 : (z.length == 0) = false) (hl : s.length + 2 ≤ sizeLine) (q : ∀ p H', New H p (.lst ((Txt.split s z).map V.str)) H' → Q (.ref p) H') : rSplitU (.str s) [.str z] H Q :=
  ⟨s, z, rfl, rfl, h0, hl, fun p hp => q p _ ⟨hp, rfl⟩⟩
def rStartsU : V → List V → Hp → VK → Prop := fun x xs H Q => ∃ a b, x = .str a ∧ xs = [.str b] ∧ Q (.bl (Txt.startswith a b)) H
theorem mt_startsU : MtR X "str.startswith" rStartsU := mt_startswith
theorem c_starts (q : Q (.bl (Txt.startswith s z)) H) : rStartsU (.str s) [.str z] H Q := ⟨s, z, rfl, rfl, q⟩
end
/-! ## the parts of a text -/
theorem join_len (y : Str) : ∀ ys : List Str, (ys.map (·.length)).sum + (ys.length - 1) * y.length = (Str.join y ys).length
  | [] => by show 0 + 0 * y.length = 0; omega
  | [x] => by show x.length + 0 + 0 * y.length = x.length; omega
  | x :: z :: r => by
    have ih := join_len y (z :: r)
    show _ = (x ++ y ++ Str.join y (z :: r)).length
    have l2 : ∀ a b : Str, (a ++ b).length = a.length + b.length := fun a b => by show (a.cps ++ b.cps).size = _; rw [Array.size_append]; rfl
    rw [l2, l2, ← ih]
    simp only [List.map_cons, List.sum_cons, List.length_cons, Nat.add_sub_cancel, Nat.add_mul, Nat.one_mul]
    omega
theorem split_len (x y : Str) : ((Txt.split x y).map (·.length)).sum + ((Txt.split x y).length - 1) * y.length = x.length := by
  rw [join_len, StrLaws.join_split]
theorem sum_mem {n : Nat} : ∀ {ns : List Nat}, n ∈ ns → n ≤ ns.sum
  | m :: r, h => by
    rw [List.sum_cons]
    rcases List.mem_cons.mp h with e | h
    · omega
    · have := sum_mem h
      omega
theorem split_part {x y z : Str} (h : z ∈ Txt.split x y) : z.length ≤ x.length := by
  have e := split_len x y
  have := sum_mem (List.mem_map_of_mem (f := fun s : Str => s.length) h)
  omega
theorem split_many {x : Str} (y : Str) (hy : 0 < y.length) : (Txt.split x y).length ≤ x.length + 1 := by
  have e := split_len x y
  have : (Txt.split x y).length - 1 ≤ ((Txt.split x y).length - 1) * y.length := Nat.le_mul_of_pos_right _ hy
  omega
theorem join_take (y : Str) (n : Nat) (ys : List Str) : (Str.join y (ys.take n)).length ≤ (Str.join y ys).length := by
  rw [← join_len, ← join_len]
  have h1 : ((ys.take n).map (·.length)).sum ≤ (ys.map (·.length)).sum := by
    conv => rhs; rw [← List.take_append_drop n ys, List.map_append, List.sum_append]
    omega
  have h2 : ((ys.take n).length - 1) * y.length ≤ (ys.length - 1) * y.length := Nat.mul_le_mul_right _ (by rw [List.length_take]; omega)
  omega
/-- text[:len(y)] is y just where text begins with it -/
theorem cut_starts (x y : Str) : decide (cutS x none (some (y.length : Int)) = y) = Txt.startswith x y := by
  rw [txt_of x, txt_of y, cutS_txt, txt_len]
  generalize x.cps.toList = xs
  generalize y.cps.toList = ys
  rw [sIx_of (by omega), Int.toNat_natCast]
  show decide (txt ((xs.drop (HT.sIx xs.length 0 none)).take (min ys.length xs.length - HT.sIx xs.length 0 none)) = txt ys) = _
  have e0 : HT.sIx xs.length 0 none = 0 := rfl
  rw [e0, List.drop_zero, Nat.sub_zero]
  unfold Txt.startswith
  rw [StrLaws.subAt_eq, txt_cps, txt_cps, txt_len, txt_len, List.drop_zero, Nat.zero_add]
  have e1 : xs.take (min ys.length xs.length) = xs.take ys.length := by
    by_cases h : ys.length ≤ xs.length
    · rw [Nat.min_eq_left h]
    · rw [Nat.min_eq_right (by omega), List.take_of_length_le (Nat.le_refl _), List.take_of_length_le (by omega)]
  rw [e1]
  by_cases h : xs.take ys.length = ys
  · have hl : ys.length ≤ xs.length := by have := congrArg List.length h; rw [List.length_take] at this; omega
    rw [h]
    simp [hl]
  · have hn : txt (xs.take ys.length) ≠ txt ys := fun e => h (txt_inj.mp e)
    simp [h, hn]
theorem getD_app_l {xs ys : List Int} {i : Nat} (h : i < xs.length) : (xs ++ ys).getD i 0 = xs.getD i 0 := by
  rw [List.getD_eq_getElem?_getD, List.getD_eq_getElem?_getD, List.getElem?_append_left h]
theorem getD_app_r {xs ys : List Int} {i : Nat} (h : xs.length ≤ i) : (xs ++ ys).getD i 0 = ys.getD (i - xs.length) 0 := by
  rw [List.getD_eq_getElem?_getD, List.getD_eq_getElem?_getD, List.getElem?_append_right h]
theorem getD_rep (n i : Nat) : (List.replicate n (0 : Int)).getD i 0 = 0 := by
  rw [List.getD_eq_getElem?_getD, List.getElem?_replicate]
  split <;> rfl
theorem str_app_len (a b : Str) : (a ++ b).length = a.length + b.length := by show (a.cps ++ b.cps).size = _; rw [Array.size_append]; rfl
theorem un100 {k : Nat} {A : Around} (r : Room k A) : A.units + 100 < cLine := by have := r.un; omega
/-! ## comprehensions whose parts only make things -/
section
variable {K : PySem.W.Frag} {σ : St} {H : Hp} {g : TG} {tt : TT} {te : TE} {a b d : Addr} {z : Str} {lo : Int} {n : Nat} {Q : VK} {vs : List Nat} {xs : List V}
theorem lcS (Pv : Addr → Nat → List V → Hp → Prop) (h0 : ∀ Dl, H Dl = none → Pv Dl 0 [] (upd H Dl (.lst [])))
    (hs : ∀ Dl i c acc H', H Dl = none → z.cps.toList[i]? = some c → H' Dl = some (.lst acc) → acc.length ≤ i → Pv Dl i acc H' → LcT g tt te vs σ Pv Dl i (.str ⟨#[c]⟩) H')
    (hd : ∀ Dl acc H', H Dl = none → H' Dl = some (.lst acc) → acc.length ≤ z.cps.toList.length → Pv Dl z.cps.toList.length acc H' → Q (.ref Dl) H') : LcJ (Its z) g tt te vs σ H Q := by
  intro Dl hD
  refine ⟨fun i m H' => m = z.cps.size - i ∧ i ≤ z.cps.size ∧ LcN Pv Dl i H', ⟨_, rfl, Nat.zero_le _, [], upd_same, Nat.zero_le _, h0 Dl hD⟩, ?_⟩
  rintro i m H1 ⟨rfl, hi, acc, h1, h2, h3⟩
  by_cases hlt : i < z.cps.size
  · refine .inr ⟨hlt, LcN Pv Dl (i + 1), fun H' p' => ⟨_, by omega, rfl, hlt, p'⟩, fun x H' y => ?_⟩
    obtain ⟨e, c, hc, e2⟩ := y
    subst e e2
    exact hs Dl i c acc _ hD (by rw [Array.getElem?_toList]; exact hc) h1 h2 h3
  · have e : i = z.cps.toList.length := by rw [Array.length_toList]; omega
    subst e
    exact .inl ⟨by rw [Array.length_toList] at hlt; exact Nat.le_of_not_lt hlt, hd Dl acc _ hD h1 h2 h3⟩
/-- the turn of such a comprehension -/
abbrev LcM (g : TG) (tt : TT) (te : TE) (vs : List Nat) (σ : St) (R : VK) (S : Hp → Prop) (x : V) (H' : Hp) : Prop :=
  g x (wipe σ vs) H' fun σ2 H2 => wipe σ2 vs = wipe σ vs ∧ tt σ2 H2 fun b H3 => if b = true then te σ2 H3 R else S H3
theorem lcS_map (f : Nat → V) (p : Nat → Bool) (hz : z.length ≤ 16777216)
    (hs : ∀ c H' R S, c ∈ z.cps.toList → Kp [] H H' → (p c = true → ∀ H4, Kp [] H' H4 → R (f c) H4) → (p c = false → ∀ H4, Kp [] H' H4 → S H4) → LcM g tt te vs σ R S (.str ⟨#[c]⟩) H')
    (hd : ∀ Dl H', H Dl = none → Kp [] H H' → H' Dl = some (.lst ((z.cps.toList.filter p).map f)) → Q (.ref Dl) H') : LcJ (Its z) g tt te vs σ H Q := by
  refine lcS (fun Dl i acc H' => Kp [] H H' ∧ acc = ((z.cps.toList.take i).filter p).map f) (fun Dl hD => ⟨Kp.new hD, rfl⟩) ?_ ?_
  · rintro Dl i c acc H' hD hc hacc hl ⟨e, rfl⟩
    have hi : i < z.cps.toList.length := (List.getElem?_eq_some_iff.mp hc).1
    have hz2 : z.cps.toList.length ≤ 16777216 := by rw [Array.length_toList]; exact hz
    refine hs c H' _ _ (List.mem_of_getElem? hc) e (fun hp H4 e4 => ?_) (fun hp H4 e4 => ?_)
    · exact lc_push (e4.at0 hacc) hl (by omega) ⟨(e.trans e4).fresh_mut hD, by rw [take_succ' hc, List.filter_append, List.map_append]; simp [hp]⟩
    · exact lc_skip (e4.at0 hacc) hl ⟨e.trans e4, by rw [take_succ' hc, List.filter_append, List.map_append]; simp [hp]⟩
  · rintro Dl acc H' hD hacc hl ⟨e, rfl⟩
    rw [List.take_length] at hacc
    exact hd Dl H' hD e hacc
theorem lcL_map {α : Type} {ys : List α} {u : α → V} (f : α → V) (p : α → Bool) (h : SqL K H a (ys.map u)) (hz : ys.length ≤ 16777216)
    (hs : ∀ y H' R S, y ∈ ys → Kp [] H H' → (p y = true → ∀ H4, Kp [] H' H4 → R (f y) H4) → (p y = false → ∀ H4, Kp [] H' H4 → S H4) → LcM g tt te vs σ R S (u y) H')
    (hd : ∀ Dl H', H Dl = none → Kp [] H H' → H' Dl = some (.lst ((ys.filter p).map f)) → Q (.ref Dl) H') : LcJ (Itl K a) g tt te vs σ H Q := by
  refine lcL (ys.map u) (fun Dl i acc H' => Kp [] H H' ∧ acc = ((ys.take i).filter p).map f) (fun Dl hD => ⟨Kp.new hD, rfl⟩) (fun Dl i acc H' hD e => SqL.kp e.1 h) ?_ ?_
  · rintro Dl i x acc H' hD hx hacc hl ⟨e, rfl⟩
    rw [List.getElem?_map] at hx
    obtain ⟨c, hc, rfl⟩ := Option.map_eq_some_iff.mp hx
    have hi : i < ys.length := (List.getElem?_eq_some_iff.mp hc).1
    refine hs c H' _ _ (List.mem_of_getElem? hc) e (fun hp H4 e4 => ?_) (fun hp H4 e4 => ?_)
    · exact lc_push (e4.at0 hacc) hl (by omega) ⟨(e.trans e4).fresh_mut hD, by rw [take_succ' hc, List.filter_append, List.map_append]; simp [hp]⟩
    · exact lc_skip (e4.at0 hacc) hl ⟨e.trans e4, by rw [take_succ' hc, List.filter_append, List.map_append]; simp [hp]⟩
  · rintro Dl acc H' hD hacc hl ⟨e, rfl⟩
    rw [List.length_map, List.take_length] at hacc
    exact hd Dl H' hD e hacc
theorem lcT_map {α : Type} {ys : List α} {u : α → V} (f : α → V) (p : α → Bool) (h : SqT K H a (ys.map u)) (hz : ys.length ≤ 16777216)
    (hs : ∀ y H' R S, y ∈ ys → Kp [] H H' → (p y = true → ∀ H4, Kp [] H' H4 → R (f y) H4) → (p y = false → ∀ H4, Kp [] H' H4 → S H4) → LcM g tt te vs σ R S (u y) H')
    (hd : ∀ Dl H', H Dl = none → Kp [] H H' → H' Dl = some (.lst ((ys.filter p).map f)) → Q (.ref Dl) H') : LcJ (Itt K a) g tt te vs σ H Q := by
  refine lcT (ys.map u) (fun Dl i acc H' => Kp [] H H' ∧ acc = ((ys.take i).filter p).map f) (fun Dl hD => ⟨Kp.new hD, rfl⟩) (fun Dl i acc H' hD e => SqT.kp e.1 h) ?_ ?_
  · rintro Dl i x acc H' hD hx hacc hl ⟨e, rfl⟩
    rw [List.getElem?_map] at hx
    obtain ⟨c, hc, rfl⟩ := Option.map_eq_some_iff.mp hx
    have hi : i < ys.length := (List.getElem?_eq_some_iff.mp hc).1
    refine hs c H' _ _ (List.mem_of_getElem? hc) e (fun hp H4 e4 => ?_) (fun hp H4 e4 => ?_)
    · exact lc_push (e4.at0 hacc) hl (by omega) ⟨(e.trans e4).fresh_mut hD, by rw [take_succ' hc, List.filter_append, List.map_append]; simp [hp]⟩
    · exact lc_skip (e4.at0 hacc) hl ⟨e.trans e4, by rw [take_succ' hc, List.filter_append, List.map_append]; simp [hp]⟩
  · rintro Dl acc H' hD hacc hl ⟨e, rfl⟩
    rw [List.length_map, List.take_length] at hacc
    exact hd Dl H' hD e hacc
/-- each turn draws -/
theorem lcR_draw {α : Type} (f : α → V) (Pa : α → Prop) (B : Bx H b d) (hz : n ≤ 16777216)
    (hs : ∀ i H' R S, i < n → Kp [b] H H' → Bx H' b d → (∀ x H4, Pa x → Kp [b] H' H4 → Bx H4 b d → R (f x) H4) → LcM g tt te vs σ R S (.int (lo + (i : Nat))) H')
    (hd : ∀ Dl H' (as : List α), H Dl = none → as.length = n → (∀ x ∈ as, Pa x) → Kp [b] H H' → Bx H' b d → H' Dl = some (.lst (as.map f)) → Q (.ref Dl) H') : LcJ (Itr lo n) g tt te vs σ H Q := by
  refine lcR (fun Dl i acc H' => Kp [b] H H' ∧ Bx H' b d ∧ ∃ as : List α, acc = as.map f ∧ as.length = i ∧ ∀ x ∈ as, Pa x) (fun Dl hD => ⟨Kp.new hD, B.new hD, [], rfl, rfl, by simp⟩) ?_ ?_
  · rintro Dl i acc H' hD hi hacc hl ⟨e, B1, as, rfl, hlen, hP⟩
    have nD := B.ne_new hD
    refine hs i H' _ _ hi e B1 (fun x H4 hx e4 B4 => ?_)
    refine lc_push (e4.at1 nD.1 hacc) hl (by omega) ⟨(e.trans e4).fresh_mut hD, B4.other nD.1 nD.2, as ++ [x], by rw [List.map_append]; rfl, by rw [List.length_append, hlen]; rfl, fun y hy => ?_⟩
    rcases List.mem_append.mp hy with h | h
    · exact hP y h
    · rw [List.mem_singleton.mp h]; exact hx
  · rintro Dl acc H' hD hacc hl ⟨e, B1, as, rfl, hlen, hP⟩
    exact hd Dl H' as hD hlen hP e B1 hacc
end
theorem Bx.pick {H H1 H2 : Hp} {b d p : Addr} {xs : List V} {K : PySem.W.Frag} (B : Bx H b d) (N : New H p (.lst xs) H1) (e : Kp [b] H1 H2) : SqL K H2 p xs := .of (e.at1 (B.ne_new N.fr).1 N.at_)
theorem c_pick {K : PySem.W.Frag} {H : Hp} {a : Addr} {i : Int} {Q : VK} {xs : List V} (h : SqL K H a xs) (h0 : 0 ≤ i) (h1 : i < xs.length) (q : ∀ v ∈ xs, Q v H) : rIx K (.ref a) (.int i) H Q :=
  c_ixL h (atI_at h0 h1) (q _ (by
    rw [List.getD_eq_getElem?_getD, List.getElem?_eq_getElem (by omega)]
    exact List.getElem_mem _))
theorem c_pickM {α : Type} {K : PySem.W.Frag} {H : Hp} {a : Addr} {i : Int} {Q : VK} {u : α → V} (ys : List α) (h : SqL K H a (ys.map u)) (h0 : 0 ≤ i) (h1 : i < ys.length) (q : ∀ y ∈ ys, Q (u y) H) : rIx K (.ref a) (.int i) H Q :=
  c_pick h h0 (by rw [List.length_map]; exact h1) (fun v hv => by obtain ⟨y, hy, rfl⟩ := List.mem_map.mp hv; exact q y hy)
/-! ## values compared, shown -/
section
variable {K : PySem.W.Frag} {H : Hp} {Q : VK} {a b : Addr} {ns ms : List Int}
theorem dp_intsT (h : SqT K H a (ns.map V.int)) : Dp K H (.ref a) (.tuple (ns.map PyData.int)) := .tup h (dpAll_ints ns)
end
end Sa

/-! Data: rows of texts compared; what is small enough to be shown. -/
namespace Sa
open PySem L2
section
variable {K : PySem.W.Frag} {H : Hp} {Q : VK} {a b : Addr} {ys zs : List Str}
/-- all codes are codes -/
def okS (z : Str) : Bool := PyData.strOk z
theorem dpAll_strs : ∀ ys : List Str, DpAll K H (ys.map V.str) (ys.map PyData.str)
  | [] => .nil
  | n :: r => .cons (.str n) (dpAll_strs r)
theorem dp_strs (h : SqL K H a (ys.map V.str)) : Dp K H (.ref a) (.list (ys.map PyData.str)) := .lst h (dpAll_strs ys)
theorem dp_strsT (h : SqT K H a (ys.map V.str)) : Dp K H (.ref a) (.tuple (ys.map PyData.str)) := .tup h (dpAll_strs ys)
theorem eqvAll_strs : ∀ ys zs : List Str, PyData.eqvAll (ys.map PyData.str) (zs.map PyData.str) = decide (ys = zs)
  | [], [] => by simp [PyData.eqvAll]
  | [], _ :: _ => by simp [PyData.eqvAll]
  | _ :: _, [] => by simp [PyData.eqvAll]
  | a :: r, b :: t => by
    simp only [List.map_cons, PyData.eqvAll, PyData.eqv, eqvAll_strs r t]
    by_cases h : a = b <;> by_cases h' : r = t <;> simp [h, h']
theorem layAll_strs : ∀ {ys : List Str}, (∀ y ∈ ys, okS y = true) → PyData.canLayAll0 (ys.map PyData.str) = true
  | [], _ => rfl
  | y :: r, h => by
    simp only [List.map_cons, PyData.canLayAll0, PyData.canLay0, Bool.and_eq_true]
    exact ⟨h y (List.mem_cons_self ..), layAll_strs fun z hz => h z (List.mem_cons_of_mem _ hz)⟩
theorem depthAll_strs : ∀ ys : List Str, PyData.depthAll (ys.map PyData.str) = 0
  | [] => rfl
  | y :: r => by simp [PyData.depthAll, PyData.depth, depthAll_strs r]
theorem shaped_strsL (h : ∀ y ∈ ys, okS y = true) : SeqAt.shaped (.list (ys.map PyData.str)) = true := by
  simp only [SeqAt.shaped, PyData.canLay0, PyData.depth, depthAll_strs, Bool.and_eq_true, decide_eq_true_eq]
  exact ⟨layAll_strs h, by omega⟩
theorem shaped_strsT (h : ∀ y ∈ ys, okS y = true) : SeqAt.shaped (.tuple (ys.map PyData.str)) = true := by
  simp only [SeqAt.shaped, PyData.canLay0, PyData.depth, depthAll_strs, Bool.and_eq_true, decide_eq_true_eq]
  exact ⟨layAll_strs h, by omega⟩
theorem c_eqLS (ha : SqL K H a (ys.map V.str)) (hb : SqL K H b (zs.map V.str)) (h1 : ∀ y ∈ ys, okS y = true) (h2 : ∀ y ∈ zs, okS y = true) (q : Q (.bl (decide (ys = zs))) H) : rEqU K (.ref a) (.ref b) H Q :=
  c_eqD (dp_strs ha) (dp_strs hb) (shaped_strsL h1) (shaped_strsL h2) (by rw [PyData.eqv, eqvAll_strs]; exact q)
theorem c_eqTS (ha : SqT K H a (ys.map V.str)) (hb : SqT K H b (zs.map V.str)) (h1 : ∀ y ∈ ys, okS y = true) (h2 : ∀ y ∈ zs, okS y = true) (q : Q (.bl (decide (ys = zs))) H) : rEqU K (.ref a) (.ref b) H Q :=
  c_eqD (dp_strsT ha) (dp_strsT hb) (shaped_strsT h1) (shaped_strsT h2) (by rw [PyData.eqv, eqvAll_strs]; exact q)
theorem c_neTS (ha : SqT K H a (ys.map V.str)) (hb : SqT K H b (zs.map V.str)) (h1 : ∀ y ∈ ys, okS y = true) (h2 : ∀ y ∈ zs, okS y = true) (q : Q (.bl (!decide (ys = zs))) H) : rNeU K (.ref a) (.ref b) H Q :=
  c_neD (dp_strsT ha) (dp_strsT hb) (shaped_strsT h1) (shaped_strsT h2) (by rw [PyData.eqv, eqvAll_strs]; exact q)
theorem c_neTI {ns ms : List Int} (ha : SqT K H a (ns.map V.int)) (hb : SqT K H b (ms.map V.int)) (s1 : SeqAt.shaped (.tuple (ns.map PyData.int)) = true) (s2 : SeqAt.shaped (.tuple (ms.map PyData.int)) = true) (q : Q (.bl (!decide (ns = ms))) H) : rNeU K (.ref a) (.ref b) H Q :=
  c_neD (dp_intsT ha) (dp_intsT hb) s1 s2 (by rw [PyData.eqv, eqvAll_ints]; exact q)
end
theorem c_eqSame {K : PySem.W.Frag} {H : Hp} {Q : VK} {x y : V} {d : PyData} (hx : Dp K H x d) (hy : Dp K H y d) (sd : SeqAt.shaped d = true) (q : Q (.bl true) H) : rEqU K x y H Q :=
  c_eqD hx hy sd sd (by rw [SeqAt.eqv_refl d (SeqAt.canLay_of_shaped sd)]; exact q)
theorem c_neSame {K : PySem.W.Frag} {H : Hp} {Q : VK} {x y : V} {d : PyData} (hx : Dp K H x d) (hy : Dp K H y d) (sd : SeqAt.shaped d = true) (q : Q (.bl false) H) : rNeU K x y H Q :=
  c_neD hx hy sd sd (by rw [SeqAt.eqv_refl d (SeqAt.canLay_of_shaped sd)]; exact q)
theorem rptS_txt (c : Nat) (n : Int) : rptS (txt [c]) n = txt (List.replicate n.toNat c) := by
  unfold rptS
  rw [txt_cps]
  show txt _ = _
  congr 1
  induction n.toNat with
  | zero => rfl
  | succ n ih => rw [List.replicate_succ, List.flatten_cons, ih, List.replicate_succ]; rfl
/-! what stands in the parts of a text -/
theorem cps_app (a b : Str) : (a ++ b).cps.toList = a.cps.toList ++ b.cps.toList := by show (a.cps ++ b.cps).toList = _; rw [Array.toList_append]
theorem join_mem {y z : Str} {c : Nat} : ∀ {ys : List Str}, z ∈ ys → c ∈ z.cps.toList → c ∈ (Str.join y ys).cps.toList
  | [x], h, hc => by rw [List.mem_singleton.mp h] at hc; exact hc
  | x :: u :: r, h, hc => by
    show c ∈ (x ++ y ++ Str.join y (u :: r)).cps.toList
    rw [cps_app, cps_app, List.mem_append, List.mem_append]
    rcases List.mem_cons.mp h with e | h
    · subst e; exact .inl (.inl hc)
    · exact .inr (join_mem h hc)
theorem split_mem {x y z : Str} {c : Nat} (h : z ∈ Txt.split x y) (hc : c ∈ z.cps.toList) : c ∈ x.cps.toList := by
  have := join_mem (y := y) h hc
  rw [StrLaws.join_split] at this
  exact this
theorem okS_iff {z : Str} : okS z = true ↔ ∀ c ∈ z.cps.toList, c < 1114112 := by
  unfold okS PyData.strOk
  rw [Array.all_eq_true_iff_forall_mem]
  simp [Array.mem_toList_iff]
theorem split_ok {x y z : Str} (hx : okS x = true) (h : z ∈ Txt.split x y) : okS z = true := okS_iff.mpr fun c hc => okS_iff.mp hx c (split_mem h hc)
theorem rptS_mem {z : Str} {n : Int} {c : Nat} (h : c ∈ (rptS z n).cps.toList) : c ∈ z.cps.toList := by
  unfold rptS at h
  simp only [List.mem_flatten] at h
  obtain ⟨l, hl, hc⟩ := h
  rw [(List.mem_replicate.mp hl).2] at hc
  exact hc
/-! shown -/
theorem nice_bl (b : Bool) : Nice (.bool b) := by cases b <;> exact ⟨by decide +kernel, by decide +kernel, by decide +kernel⟩
theorem nice_bl2 (b c : Bool) : Nice (.tuple [.bool b, .bool c]) := by cases b <;> cases c <;> exact ⟨by decide +kernel, by decide +kernel, by decide +kernel⟩
/-! the value of an and, of an or, whose second part is known -/
section
variable {σ : St} {H : Hp} {Q : VK} {te : TE}
theorem c_andE {c : Bool} (b : Bool) (h : ∀ R : VK, R (.bl b) H → te σ H R) (q : Q (.bl (c && b)) H) : if c = true then te σ H Q else Q (.bl false) H := by
  cases c with
  | true => rw [if_pos rfl]; exact h Q q
  | false => rw [if_neg Bool.false_ne_true]; exact q
theorem c_andK {c : Bool} (b : Bool) (h : ∀ R : VK, (∀ H', Kp [] H H' → R (.bl b) H') → te σ H R) (q : ∀ H', Kp [] H H' → Q (.bl (c && b)) H') : if c = true then te σ H Q else Q (.bl false) H := by
  cases c with
  | true => rw [if_pos rfl]; exact h Q q
  | false => rw [if_neg Bool.false_ne_true]; exact q H Kp.refl
theorem c_orE {c : Bool} (b : Bool) (h : ∀ R : VK, R (.bl b) H → te σ H R) (q : Q (.bl (c || b)) H) : if c = true then Q (.bl true) H else te σ H Q := by
  cases c with
  | true => rw [if_pos rfl]; exact q
  | false => rw [if_neg Bool.false_ne_true]; exact h Q q
theorem c_orK {c : Bool} (b : Bool) (h : ∀ R : VK, (∀ H', Kp [] H H' → R (.bl b) H') → te σ H R) (q : ∀ H', Kp [] H H' → Q (.bl (c || b)) H') : if c = true then Q (.bl true) H else te σ H Q := by
  cases c with
  | true => rw [if_pos rfl]; exact q H Kp.refl
  | false => rw [if_neg Bool.false_ne_true]; exact h Q q
end
theorem dp_bl2 {K : PySem.W.Frag} {H : Hp} {p : Addr} {b c : Bool} (h : H p = some (.tup [.bl b, .bl c])) : Dp K H (.ref p) (.tuple [.bool b, .bool c]) := .tup (SqT.of h) (.cons (.bl b) (.cons (.bl c) .nil))
theorem le_int {a b : Nat} : decide ((a : Int) ≤ (b : Int)) = decide (a ≤ b) := by congr 1; exact propext Int.ofNat_le
end Sa

/-! Defs that may raise an error of a class of the program; methods; an error class with one field. -/
namespace Sa
open PySem L2
section
variable {P : Program} {w : World} {K : PySem.W.Frag} {mg : Str → Option Value} {base : Heap}
theorem Tx.oex {fa : List He.Fa} {fn : List He.DefD} {fx : List Fx} (T : Tx fa fn fx K mg) (i : Nat) {x : Str} (h : fx[i]? = some (.oex x) := by rfl) : OexC K (He.ga K x) := oexB_ok (T.fx i h)
theorem Tx.xfc {fa : List He.Fa} {fn : List He.DefD} {fx : List Fx} (T : Tx fa fn fx K mg) (i : Nat) {x : Str} (h : fx[i]? = some (.xf x) := by rfl) : XfC K (He.ga K x) := xfB_ok (T.fx i h)
/-- what the body of a def that may raise owes -/
def BodyX (P : Program) (w : World) (K : PySem.W.Frag) (mg : Str → Option Value) (base : Heap) (x : Str) (st : Stmt) (N : List Str) (k : Nat) (sp : Sp) : Prop :=
  ∀ (cdv : Value) (A : Around) (outer : List Env) (s : Shared) (H : Hp) (vs : List V) (Q : VK) (E : XK), sp vs H Q E → let X : Cx := cxOf (L2.CX P w) P w K mg base N x (defScope st) (He.ga K x) cdv A outer s H E
    Room k X.A → Takes X (fun cls d _ H => E cls d H) → ∃ t, PSs X (defBody st) t ∧ t { nx := fun _ H' => Q .non H', rt := Q } (start N vs) H
theorem def_ofX {fa : List He.Fa} {fn : List He.DefD} {fx : List Fx} (T : Tx fa fn fx K mg) (i j : Nat) {x : Str} {st : Stmt} {N ps : List Str} {k : Nat} {sp : Sp} (S : FnScope N ps (defScope st)) (B : BindN x st ps) (len : ∀ vs H Q E, sp vs H Q E → vs.length = ps.length)
    (body : BodyX P w K mg base x st N k sp) (hd : fn[i]? = some (dOf x st) := by rfl) (hg : fa[j]? = some (.glo x) := by rfl) : DefAt P w K mg base (L2.CX P w) x (k + 1) ps sp := by
  have gl := T.glo j hg
  obtain ⟨hp, X, G, c, _⟩ := T
  obtain ⟨fd, F⟩ := c.def_ i hd
  exact ⟨gl, F.kp, fd, F.ok S len fun cdv A outer s H vs Q E hr h => body cdv A outer s H vs Q E h hr (takes_of rfl rfl rfl rfl), F.bindsN B⟩
end
theorem passE0 {X : Cx} : Passes (L2.CX X.prog X.w) X E0 := fun pins σ H s e s' I h => by
  obtain ⟨_, _, _, _, _, _, _, _, _, _, _, _, z⟩ := h
  exact z.elim
theorem takes_never {X : Cx} : Takes X (fun _ _ _ _ => False) := fun u s' h => by
  obtain ⟨_, _, _, _, _, _, _, _, _, _, _, _, _, _, _, _, z⟩ := h
  exact z.elim
section
variable {X : Cx} {x : Str} {k j : Nat} {ps : List Str} {sp : Sp} {W : WX} {p pos : Pos} {e : Expr} {es : List Expr} {t : TA}
/-- a call of a def that may raise, where the error goes on -/
theorem pe_callX (D : DefAt X.prog X.w X.K X.mg X.base (L2.CX X.prog X.w) x j ps sp) (hr : Room k X.A) (tk : Takes X W) (ha : PA X (e :: es) t) (hjk : j ≤ k := by decide) (hg : Gl X x := by rfl)
    (hdb : (x == ("__debug__" : Str)) = false := by decide) (he : starEach (e :: es) X.env = (false, eval e X.env) :: starEach es X.env := by rfl) (hpl : (backTo pos (starEach es X.env)).any (·.1) = false := by rfl) :
    PE X (.Call (.Name x p) (e :: es) [] pos) (tCallS sp (WE W) t) := by
  obtain ⟨fd, F, B⟩ := D.ok
  exact pe_callS (F.mono hjk) hr hg D.gl D.kp B (fun σ => passAt tk σ) ha hdb he hpl
theorem names_glo {c : Addr} (h : X.mg x = some (.ref c)) (hg : Gl X x := by rfl) (hd : (x == ("__debug__" : Str)) = false := by decide) : Names X x (.ref c) := ⟨hg, hd, .inl h⟩
theorem c_callX {H : Hp} {σ : St} {Q : VK} {tr : TA} (h : tr σ H fun vs H1 => sp vs H1 Q (WE W σ)) : tCallS sp (WE W) tr σ H Q := h
end
/-! ## an error class whose __init__ keeps one field -/
def dOfM (C m q : Str) (st : Stmt) : He.DefD := ⟨(C, some m), m, q, defArgs st, defBody st, defScope st, [], []⟩
def BindM (m q : Str) (st : Stmt) (ps : List Str) : Prop := ∀ (kV doc pm : Value) (an : Option Addr) (cdv ct : Value) (us : List Value), us.length = ps.length →
  bindArgs (PySem.W.fnOf m q (defArgs st) (defBody st) (defScope st) .none kV doc pm an cdv ct) ⟨us, []⟩ = pure (ps.zip us)
/-- the statements of a class's body -/
def clsStmts : Stmt → List Stmt
  | .ClassDef (body := b) .. => b
  | _ => []
def subAt (st : Stmt) (i : Nat) : Stmt := (clsStmts st).getD i (.Pass ⟨0, 0, 0, 0⟩)
section
variable {P : Program} {w : World} {K : PySem.W.Frag} {mg : Str → Option Value} {base : Heap}
/-- a method of the class x that keeps sp -/
structure MethAt (P : Program) (w : World) (K : PySem.W.Frag) (mg : Str → Option Value) (base : Heap) (CX : CXT) (C m : Str) (k : Nat) (ps : List Str) (sp : Sp) : Prop where
  me : Meth K (He.ga K C) m (He.ma K (He.ga K C) m)
  ok : ∃ fd, FnOk P w K mg base CX k (He.ma K (He.ga K C) m) fd ps sp ∧ Binds K fd ps []
def BodyM (P : Program) (w : World) (K : PySem.W.Frag) (mg : Str → Option Value) (base : Heap) (C m q : Str) (st : Stmt) (N : List Str) (k : Nat) (sp : Sp) : Prop :=
  ∀ (cdv : Value) (A : Around) (outer : List Env) (s : Shared) (H : Hp) (vs : List V) (Q : VK) (E : XK), sp vs H Q E → let X : Cx := (cxOf CX0 P w K mg base N q (defScope st) (He.ma K (He.ga K C) m) cdv A outer s H E).nox
    Room k X.A → ∃ t, PSs X (defBody st) t ∧ t { nx := fun _ H' => Q .non H', rt := Q } (start N vs) H
def BodyMX (P : Program) (w : World) (K : PySem.W.Frag) (mg : Str → Option Value) (base : Heap) (C m q : Str) (st : Stmt) (N : List Str) (k : Nat) (sp : Sp) : Prop :=
  ∀ (cdv : Value) (A : Around) (outer : List Env) (s : Shared) (H : Hp) (vs : List V) (Q : VK) (E : XK), sp vs H Q E → let X : Cx := cxOf (L2.CX P w) P w K mg base N q (defScope st) (He.ma K (He.ga K C) m) cdv A outer s H E
    Room k X.A → Takes X (fun cls d _ H => E cls d H) → ∃ t, PSs X (defBody st) t ∧ t { nx := fun _ H' => Q .non H', rt := Q } (start N vs) H
theorem meth_of {fa : List He.Fa} {fn : List He.DefD} {fx : List Fx} (T : Tx fa fn fx K mg) (i j : Nat) {C m q : Str} {st : Stmt} {N ps : List Str} {k : Nat} {sp : Sp} (S : FnScope N ps (defScope st)) (B : BindM m q st ps) (len : ∀ vs H Q E, sp vs H Q E → vs.length = ps.length)
    (body : BodyM P w K mg base C m q st N k sp) (hd : fn[i]? = some (dOfM C m q st) := by rfl) (hg : fa[j]? = some (.meth C m) := by rfl) : MethAt P w K mg base CX0 C m (k + 1) ps sp := by
  have me := He.meth_ok (T.fact j hg)
  obtain ⟨hp, X, G, c, _⟩ := T
  obtain ⟨fd, F⟩ := c.def_ i hd
  refine ⟨me, fd, F.ok S len fun cdv A outer s H vs Q E hr h => ?_, F.bindsN B⟩
  obtain ⟨t, h1, h2⟩ := body cdv A outer s H vs Q E h hr
  exact ⟨t, h1.nox, h2⟩
theorem meth_ofX {fa : List He.Fa} {fn : List He.DefD} {fx : List Fx} (T : Tx fa fn fx K mg) (i j : Nat) {C m q : Str} {st : Stmt} {N ps : List Str} {k : Nat} {sp : Sp} (S : FnScope N ps (defScope st)) (B : BindM m q st ps) (len : ∀ vs H Q E, sp vs H Q E → vs.length = ps.length)
    (body : BodyMX P w K mg base C m q st N k sp) (hd : fn[i]? = some (dOfM C m q st) := by rfl) (hg : fa[j]? = some (.meth C m) := by rfl) : MethAt P w K mg base (L2.CX P w) C m (k + 1) ps sp := by
  have me := He.meth_ok (T.fact j hg)
  obtain ⟨hp, X, G, c, _⟩ := T
  obtain ⟨fd, F⟩ := c.def_ i hd
  exact ⟨me, fd, F.ok S len fun cdv A outer s H vs Q E hr h => body cdv A outer s H vs Q E h hr (takes_of rfl rfl rfl rfl), F.bindsN B⟩
end
/-- what __init__(self, name) keeps: the field f -/
def spInit (K : PySem.W.Frag) (C : Addr) (f : Str) : Sp := fun vs H Q _ => ∃ (a : Addr) (v : V), vs = [.ref a, v] ∧ H a = some (exo a C none) ∧ ∀ dx, H dx = none → dx ≠ a → Q .non (upd (upd H dx (exd dx [(f, v)])) a (exo a C (some dx)))
theorem c_ost {K : PySem.W.Frag} {f : Str} {to te : TE} {D : Ends} {σ : St} {H : Hp} (h : te σ H fun y H1 => to σ H1 fun x H2 => ∃ a C : Addr, x = .ref a ∧ OexC K C ∧ PySem.W.findIn K (.ref C) f = some none ∧
  ((H2 a = some (exo a C none) ∧ ∀ dx, H2 dx = none → dx ≠ a → D.nx σ (upd (upd H2 dx (exd dx [(f, y)])) a (exo a C (some dx)))) ∨
    ∃ (dx : Addr) (fs : List (Str × V)), H2 a = some (exo a C (some dx)) ∧ H2 dx = some (exd dx fs) ∧ fs.length ≤ 900 ∧ D.nx σ (upd H2 dx (exd dx ((f, y) :: fs))))) : tOst K f to te D σ H := h
/-- an error class x of one field f -/
structure ErrC (P : Program) (w : World) (K : PySem.W.Frag) (mg : Str → Option Value) (base : Heap) (x f : Str) : Prop where
  gl : mg x = some (.ref (He.ga K x))
  cls : OexC K (He.ga K x)
  xf : XfC K (He.ga K x)
  no : PySem.W.findIn K (.ref (He.ga K x)) f = some none
  ok : ∃ ps, MethAt P w K mg base CX0 x "__init__" 2 ps (spInit K (He.ga K x) f)
/-- x(v) is made: an error whose field f is v -/
def RaiseK (K : PySem.W.Frag) (x f : Str) (vs : List V) (H1 : Hp) (Q : XK) : Prop := vs.length ≤ 1000 ∧ ∀ a, H1 a = none → spInit K (He.ga K x) f (.ref a :: (vs ++ [])) (upd H1 a (exo a (He.ga K x) none))
  (fun v H2 => v = .non ∧ ∃ (d : Addr) (fs : List (Str × V)), H2 a = some (exo a (He.ga K x) (some d)) ∧ H2 d = some (exd d fs) ∧ H1 d = none ∧ Q (.ref (He.ga K x)) (some d) (upd (del H2 a) d (.xd fs))) (fun _ _ _ => False)
def tMkE (K : PySem.W.Frag) (x f : Str) (t : TA) : St → Hp → XK → Prop := fun σ H Q => t σ H fun vs H1 => RaiseK K x f vs H1 Q
def tRaiseE (K : PySem.W.Frag) (x f : Str) (W : WX) (t : TA) : TS := fun _ σ H => t σ H fun vs H1 => RaiseK K x f vs H1 fun cls d H' => W cls d σ H'
theorem c_err {K : PySem.W.Frag} {x f : Str} {v : V} {H1 : Hp} {Q : XK} (q : ∀ d H', New H1 d (.xd [(f, v)]) H' → Q (.ref (He.ga K x)) (some d) H') : RaiseK K x f [v] H1 Q := by
  refine ⟨by simp, fun a ha => ⟨a, v, rfl, upd_same, fun dx hdx hne => ⟨rfl, dx, [(f, v)], upd_same, ?_, ?_, ?_⟩⟩⟩
  · rw [upd_ne hne, upd_same]
  · rw [upd_ne hne] at hdx
    exact hdx
  · have hd1 : H1 dx = none := by rw [upd_ne hne] at hdx; exact hdx
    have e : upd (del (upd (upd (upd H1 a (exo a (He.ga K x) none)) dx (exd dx [(f, v)])) a (exo a (He.ga K x) (some dx))) a) dx (.xd [(f, v)]) = upd H1 dx (.xd [(f, v)]) := by
      funext b
      by_cases h1 : b = dx
      · rw [h1, upd_same, upd_same]
      · rw [upd_ne h1, upd_ne h1]
        by_cases h2 : b = a
        · rw [h2, del_same, ha]
        · rw [del_ne h2, upd_ne h2, upd_ne h1, upd_ne h2]
    rw [e]
    exact q dx _ ⟨hd1, rfl⟩
theorem c_raiseE {K : PySem.W.Frag} {x f : Str} {W : WX} {t : TA} {D : Ends} {σ : St} {H : Hp} (h : t σ H fun vs H1 => RaiseK K x f vs H1 fun cls d H' => W cls d σ H') : tRaiseE K x f W t D σ H := h
section
variable {X : Cx} {x f : Str} {k : Nat} {W : WX} {p pos pos2 : Pos} {e : Expr} {es : List Expr} {t : TA}
theorem pmk_err {K : PySem.W.Frag} (T : ErrC X.prog X.w X.K X.mg X.base x f) (hr : Room k X.A) (ha : PA X (e :: es) t) (hk : 3 ≤ k := by decide) (hK : X.K = K := by rfl) (hg : Gl X x := by rfl)
    (hdb : (x == ("__debug__" : Str)) = false := by decide) (he : starEach (e :: es) X.env = (false, eval e X.env) :: starEach es X.env := by rfl) (hpl : (backTo pos (starEach es X.env)).any (·.1) = false := by rfl) :
    PMk X (.Call (.Name x p) (e :: es) [] pos) (tMkE K x f t) := by
  subst hK
  obtain ⟨ps, M⟩ := T.ok
  obtain ⟨fd, F, B⟩ := M.ok
  have fnT : PySem.W.typeIn X.K (.ref (He.ma X.K (He.ga X.K x) "__init__")) = some (.type "function") := eq_of_beq M.me.fn
  exact pmk_oex (p := p) T.cls M.me.at_ fnT F (hr.mono hk) B .nil (fun _ _ _ _ _ _ _ h => h.elim) hg T.gl ha hdb he hpl
theorem ps_raiseE {K : PySem.W.Frag} (T : ErrC X.prog X.w X.K X.mg X.base x f) (hr : Room k X.A) (tk : Takes X W) (ha : PA X (e :: es) t) (hk : 3 ≤ k := by decide) (hK : X.K = K := by rfl) (hg : Gl X x := by rfl) (hc : X.calm = true := by rfl)
    (hdb : (x == ("__debug__" : Str)) = false := by decide) (he : starEach (e :: es) X.env = (false, eval e X.env) :: starEach es X.env := by rfl) (hpl : (backTo pos (starEach es X.env)).any (·.1) = false := by rfl) :
    PS X (.Raise (some (.Call (.Name x p) (e :: es) [] pos)) none pos2) (tRaiseE K x f W t) := ps_raise hc tk (pmk_err T hr ha hk hK hg hdb he hpl)
end
/-! ## try .. except x as n -/
section
variable {K : PySem.W.Frag} {i : Nat} {ts : Addr → Value → Option Addr → TS} {Wout : WX} {D : Ends} {σ : St} {H : Hp} {cls : Value} {d : Option Addr} {c : Value}
theorem c_caught (he : PySem.W.exmOne K cls c = some true) (h : ∀ a, H a = none → ts a cls d { nx := fun σ' H' => D.nx (σ'.set i none) H', rt := D.rt, bk := fun σ' H' => D.bk (σ'.set i none) H', ct := fun σ' H' => D.ct (σ'.set i none) H' } (σ.set i (some (.ref a))) H) :
    wAs K c i ts Wout D cls d σ H := ⟨true, he, fun _ => h, fun z => by cases z⟩
theorem c_xf {a C : Addr} {f : Str} {te : TE} {Q : VK} (h : te σ H fun x H1 => x = .ref a ∧ cls = .ref C ∧ ∃ (dd : Addr) (fs : List (Str × V)) (v : V), d = some dd ∧ H1 dd = some (.xd fs) ∧ fs.lookup f = some v ∧ Q v H1) : tXf a cls d C f te σ H Q := h
end
/-! ## isinstance -/
section
variable {K : PySem.W.Frag} {H : Hp} {Q : VK} {a : Addr} {xs : List V} {T : String}
theorem cr_isi {X : Cx} (hK : X.K = K := by rfl) : CallR X (.builtin "isinstance") (rIsi K) := hK ▸ call_isi
theorem c_isiL {b : Bool} (h : H a = some (.lst xs)) (hk : kitB "list" T = some b) (q : Q (.bl b) H) : rIsi K [.ref a, .ty T] H Q := ⟨_, _, _, _, b, rfl, .ty T, .base (.lst h), kit_ty hk, q⟩
theorem c_isiT {b : Bool} (h : H a = some (.tup xs)) (hk : kitB "tuple" T = some b) (q : Q (.bl b) H) : rIsi K [.ref a, .ty T] H Q := ⟨_, _, _, _, b, rfl, .ty T, .base (.tup h), kit_ty hk, q⟩
theorem c_isiN {b : Bool} (hk : kitB "NoneType" T = some b) (q : Q (.bl b) H) : rIsi K [.non, .ty T] H Q := ⟨_, _, _, _, b, rfl, .ty T, .base .non, kit_ty hk, q⟩
theorem c_isiS {s : Str} {b : Bool} (hk : kitB "str" T = some b) (q : Q (.bl b) H) : rIsi K [.str s, .ty T] H Q := ⟨_, _, _, _, b, rfl, .ty T, .base (.str s), kit_ty hk, q⟩
end
end Sa

/-! Comprehensions over any walk. -/
namespace Sa
open PySem L2
/-- a walk of n turns: while ok, its turn i gives x, by Y -/
structure Itn (J : It) (n : Nat) (ok : Hp → Prop) (Y : Nat → V → Hp → Hp → Prop) : Prop where
  go : ∀ i H, ok H → i < n → J.go i H
  stop : ∀ i H, ok H → n ≤ i → J.stop i H
  yld : ∀ i H x H', ok H → i < n → J.yld i H x H' → Y i x H H'
  kp : ∀ i x H H', Y i x H H' → Kp [] H H'
section
variable {K : PySem.W.Frag} {a : Addr} {α : Type} {ys : List α} {u : α → V} {lo c : Int} {n : Nat} {z : Str}
theorem itn_l : Itn (Itl K a) ys.length (fun H => SqL K H a (ys.map u)) (fun i x H H' => H' = H ∧ ∃ y, ys[i]? = some y ∧ x = u y) where
  go := fun i H ok hi => ⟨_, u (ys[i]), ok, by rw [List.getElem?_map, List.getElem?_eq_getElem hi]; rfl⟩
  stop := fun i H ok hi => ⟨_, ok, by rw [List.length_map]; exact hi⟩
  yld := fun i H x H' ok hi y => by
    obtain ⟨e, h⟩ := y
    have := h _ ok
    rw [List.getElem?_map] at this
    obtain ⟨y, h1, h2⟩ := Option.map_eq_some_iff.mp this
    exact ⟨e, y, h1, h2.symm⟩
  kp := fun i x H H' h => by rw [h.1]; exact Kp.refl
theorem itn_t : Itn (Itt K a) ys.length (fun H => SqT K H a (ys.map u)) (fun i x H H' => H' = H ∧ ∃ y, ys[i]? = some y ∧ x = u y) where
  go := fun i H ok hi => ⟨_, u (ys[i]), ok, by rw [List.getElem?_map, List.getElem?_eq_getElem hi]; rfl⟩
  stop := fun i H ok hi => ⟨_, ok, by rw [List.length_map]; exact hi⟩
  yld := fun i H x H' ok hi y => by
    obtain ⟨e, h⟩ := y
    have := h _ ok
    rw [List.getElem?_map] at this
    obtain ⟨y, h1, h2⟩ := Option.map_eq_some_iff.mp this
    exact ⟨e, y, h1, h2.symm⟩
  kp := fun i x H H' h => by rw [h.1]; exact Kp.refl
theorem itn_r : Itn (Itr lo n) n (fun _ => True) (fun i x H H' => H' = H ∧ x = .int (lo + (i : Nat))) where
  go := fun i H _ hi => hi
  stop := fun i H _ hi => hi
  yld := fun i H x H' _ hi y => y
  kp := fun i x H H' h => by rw [h.1]; exact Kp.refl
theorem itn_c : Itn (Itc lo c n) n (fun _ => True) (fun i x H H' => H' = H ∧ x = .int (lo + (i : Nat) * c)) where
  go := fun i H _ hi => hi
  stop := fun i H _ hi => hi
  yld := fun i H x H' _ hi y => y
  kp := fun i x H H' h => by rw [h.1]; exact Kp.refl
theorem itn_s : Itn (Its z) z.cps.toList.length (fun _ => True) (fun i x H H' => H' = H ∧ ∃ c, z.cps.toList[i]? = some c ∧ x = .str ⟨#[c]⟩) where
  go := fun i H _ hi => by rw [Array.length_toList] at hi; exact hi
  stop := fun i H _ hi => by rw [Array.length_toList] at hi; exact hi
  yld := fun i H x H' _ hi y => by
    obtain ⟨e, c, hc, h⟩ := y
    exact ⟨e, c, by rw [Array.getElem?_toList]; exact hc, h⟩
  kp := fun i x H H' h => by rw [h.1]; exact Kp.refl
theorem itn_e : Itn (Ite K a) ys.length (fun H => SqL K H a (ys.map u)) (fun i x H H' => ∃ T y, x = .ref T ∧ New H T (.tup [.int (i : Nat), u y]) H' ∧ ys[i]? = some y) where
  go := fun i H ok hi => ⟨_, u (ys[i]), ok, by rw [List.getElem?_map, List.getElem?_eq_getElem hi]; rfl⟩
  stop := fun i H ok hi => ⟨_, ok, by rw [List.length_map]; exact hi⟩
  yld := fun i H x H' ok hi y => by
    obtain ⟨T, x', h1, h2, h3, h4⟩ := y
    have := h4 _ ok
    rw [List.getElem?_map] at this
    obtain ⟨y, e1, e2⟩ := Option.map_eq_some_iff.mp this
    subst e2
    exact ⟨T, y, h1, ⟨h2, h3⟩, e1⟩
  kp := fun i x H H' h => by
    obtain ⟨T, y, _, N, _⟩ := h
    exact N.kp
end
section
variable {K : PySem.W.Frag} {σ : St} {H : Hp} {g : TG} {tt : TT} {te : TE} {tb : TS} {Dn : Ends} {n : Nat} {Q : VK} {vs : List Nat} {J : It} {ok : Hp → Prop} {Y : Nat → V → Hp → Hp → Prop}
theorem lcQ (I : Itn J n ok Y) (Pv : Addr → Nat → List V → Hp → Prop) (h0 : ∀ Dl, H Dl = none → Pv Dl 0 [] (upd H Dl (.lst []))) (hok : ∀ Dl i acc H', H Dl = none → Pv Dl i acc H' → ok H')
    (hs : ∀ Dl i x acc H' H'', H Dl = none → i < n → H' Dl = some (.lst acc) → acc.length ≤ i → Pv Dl i acc H' → Y i x H' H'' → LcT g tt te vs σ Pv Dl i x H'')
    (hd : ∀ Dl acc H', H Dl = none → H' Dl = some (.lst acc) → acc.length ≤ n → Pv Dl n acc H' → Q (.ref Dl) H') : LcJ J g tt te vs σ H Q := by
  intro Dl hD
  refine ⟨fun i m H' => m = n - i ∧ i ≤ n ∧ LcN Pv Dl i H', ⟨_, rfl, Nat.zero_le _, [], upd_same, Nat.zero_le _, h0 Dl hD⟩, ?_⟩
  rintro i m H1 ⟨rfl, hi, acc, h1, h2, h3⟩
  have o := hok Dl i acc H1 hD h3
  by_cases hlt : i < n
  · exact .inr ⟨I.go i H1 o hlt, LcN Pv Dl (i + 1), fun H' p' => ⟨_, by omega, rfl, hlt, p'⟩, fun x H' y => hs Dl i x acc H1 H' hD hlt h1 h2 h3 (I.yld i H1 x H' o hlt y)⟩
  · have e : i = n := by omega
    subst e
    exact .inl ⟨I.stop i H1 o (Nat.le_refl _), hd Dl acc H1 hD h1 h2 h3⟩
theorem forQ (I : Itn J n ok Y) (Pv : Nat → St → Hp → Prop) (h0 : Pv 0 σ H) (hok : ∀ i σ H', Pv i σ H' → ok H')
    (hs : ∀ i x σ H' H'', i < n → Pv i σ H' → Y i x H' H'' → g x σ H'' fun σ2 H2 => tb { Dn with nx := Pv (i + 1), ct := Pv (i + 1), bk := Dn.nx } σ2 H2) (hd : ∀ σ H', Pv n σ H' → Dn.nx σ H') : ForJ J g tb Dn σ H := by
  refine ⟨fun i m σ H => m = n - i ∧ i ≤ n ∧ Pv i σ H, ⟨_, rfl, Nat.zero_le _, h0⟩, ?_⟩
  rintro i m σ H ⟨rfl, hi, p⟩
  have o := hok i σ H p
  by_cases hlt : i < n
  · exact .inr ⟨I.go i H o hlt, Pv (i + 1), fun σ' H' p' => ⟨_, by omega, rfl, hlt, p'⟩, fun x H' y => hs i x σ H H' hlt p (I.yld i H x H' o hlt y)⟩
  · have e : i = n := by omega
    subst e
    exact .inl ⟨I.stop i H o (Nat.le_refl _), hd σ H p⟩
/-- each turn makes a value that is told by the turn's number -/
theorem lcQ_map (I : Itn J n ok Y) (f : Nat → V) (hz : n ≤ 16777216) (hok : ∀ H', Kp [] H H' → ok H')
    (hs : ∀ i x H' H'' R S, i < n → Kp [] H H' → Y i x H' H'' → (∀ H4, Kp [] H'' H4 → R (f i) H4) → LcM g tt te vs σ R S x H'')
    (hd : ∀ Dl H', H Dl = none → Kp [] H H' → H' Dl = some (.lst ((List.range n).map f)) → Q (.ref Dl) H') : LcJ J g tt te vs σ H Q := by
  refine lcQ I (fun Dl i acc H' => Kp [] H H' ∧ acc = (List.range i).map f) (fun Dl hD => ⟨Kp.new hD, rfl⟩) (fun Dl i acc H' hD e => hok H' e.1) ?_ ?_
  · rintro Dl i x acc H' H'' hD hi hacc hl ⟨e, rfl⟩ y
    have k := I.kp i x H' H'' y
    refine hs i x H' H'' _ _ hi e y fun H4 e4 => ?_
    exact lc_push (e4.at0 (k.at0 hacc)) hl (by omega) ⟨((e.trans k).trans e4).fresh_mut hD, by rw [List.range_succ, List.map_append]; rfl⟩
  · rintro Dl acc H' hD hacc hl ⟨e, rfl⟩
    exact hd Dl H' hD e hacc
/-- each turn makes a new object -/
theorem lcQ_new (I : Itn J n ok Y) (ob : Nat → HO) (hz : n ≤ 16777216) (hok : ∀ H', Kp [] H H' → ok H')
    (hs : ∀ i x H' H'' R S, i < n → Kp [] H H' → Y i x H' H'' → (∀ q H4, H'' q = none → Kp [] H'' H4 → H4 q = some (ob i) → R (.ref q) H4) → LcM g tt te vs σ R S x H'')
    (hd : ∀ Dl (qs : List Addr) H', H Dl = none → Kp [] H H' → H' Dl = some (.lst (qs.map V.ref)) → qs.length = n → (∀ k q, qs[k]? = some q → H q = none ∧ H' q = some (ob k)) → Q (.ref Dl) H') : LcJ J g tt te vs σ H Q := by
  refine lcQ I (fun Dl i acc H' => Kp [] H H' ∧ ∃ qs : List Addr, acc = qs.map V.ref ∧ qs.length = i ∧ ∀ k q, qs[k]? = some q → H q = none ∧ q ≠ Dl ∧ H' q = some (ob k)) (fun Dl hD => ⟨Kp.new hD, [], rfl, rfl, fun k q h => by simp at h⟩) (fun Dl i acc H' hD e => hok H' e.1) ?_ ?_
  · rintro Dl i x acc H' H'' hD hi hacc hl ⟨e, qs, rfl, hq, hqs⟩ y
    have k := I.kp i x H' H'' y
    refine hs i x H' H'' _ _ hi e y fun q H4 hn e4 h4 => ?_
    have nq : q ≠ Dl := (ne_of_none (k.at0 hacc) hn).symm
    refine lc_push (e4.at0 (k.at0 hacc)) hl (by omega) ⟨((e.trans k).trans e4).fresh_mut hD, qs ++ [q], by rw [List.map_append]; rfl, by rw [List.length_append, hq]; rfl, fun j w hw => ?_⟩
    by_cases hj : j < qs.length
    · rw [List.getElem?_append_left hj] at hw
      obtain ⟨a1, a2, a3⟩ := hqs j w hw
      exact ⟨a1, a2, upd_other a2 (e4.at0 (k.at0 a3))⟩
    · rw [List.getElem?_append_right (by omega)] at hw
      have hj2 : j - qs.length = 0 := by
        cases h : j - qs.length with
        | zero => rfl
        | succ m => rw [h] at hw; simp at hw
      rw [hj2] at hw
      simp only [List.getElem?_cons_zero, Option.some.injEq] at hw
      subst hw
      have ej : j = i := by omega
      subst ej
      exact ⟨free0 (e.trans k) hn, nq, upd_other nq h4⟩
  · rintro Dl acc H' hD hacc hl ⟨e, qs, rfl, hq, hqs⟩
    exact hd Dl qs H' hD e hacc hq fun k q h => ⟨(hqs k q h).1, (hqs k q h).2.2⟩
end
/-! ## range with a step; enumerate -/
section
variable {K : PySem.W.Frag} {σ : St} {H : Hp} {g : TG} {tt : TT} {te : TE} {tb : TS} {ta : TA} {D : Ends} {n : Nat} {Q : VK} {vs : List Nat} {R : It → Hp → Prop} {a : Addr} {xs : List V}
theorem rgC_up {len : Nat} {c : Int} (h0 : 0 < c) (h1 : c < 1000000) (h2 : len < 1000000000) : RgC 0 len c (((len : Int) + c - 1) / c).toNat := by
  have e : Builtin.Range.rangeSize 0 len c = ((len : Int) + c - 1) / c := by
    unfold Builtin.Range.rangeSize
    rw [if_pos h0]
    by_cases hl : (0 : Int) < len
    · rw [if_pos hl]
      have e2 : (len : Int) + c - 1 = (len - 0 - 1) + c * 1 := by omega
      rw [e2, Int.add_mul_ediv_left _ _ (by omega)]
    · rw [if_neg hl]
      exact (Int.ediv_eq_zero_of_lt (by omega) (by omega)).symm
  have hq0 : 0 ≤ ((len : Int) + c - 1) / c := Int.ediv_nonneg (by omega) (by omega)
  have hq1 : ((len : Int) + c - 1) / c ≤ (len : Int) + c - 1 := Int.ediv_le_self _ (by omega)
  refine ⟨by omega, by omega, ?_, by rw [e]; omega⟩
  unfold Builtin.Range.small
  rw [e]
  simp only [Builtin.Range.rangeFitsLong, Bool.and_eq_true, Bool.or_eq_true, decide_eq_true_eq, beq_iff_eq, if_pos h0]
  omega
theorem c_rng3 (h : ta σ H fun vs H1 => ∃ (i j c : Int) (n : Nat), vs = [.int i, .int j, .int c] ∧ RgC i j c n ∧ R (Itc i c n) H1) : iRng3 ta σ H R := h
theorem c_r3C {σ : St} {len : Nat} {c : Int} (h0 : 0 < c) (h1 : c < 1000000) (h2 : len < 1000000000) (h : LcJ (Itc 0 c (((len : Int) + c - 1) / c).toNat) g tt te vs σ H Q) :
    ∃ (i j c' : Int) (n : Nat), [V.int 0, V.int len, V.int c] = [.int i, .int j, .int c'] ∧ RgC i j c' n ∧ LcJ (Itc i c' n) g tt te vs σ H Q := ⟨0, len, c, _, rfl, rgC_up h0 h1 h2, h⟩
theorem c_r3F {σ : St} {len : Nat} {c : Int} (h0 : 0 < c) (h1 : c < 1000000) (h2 : len < 1000000000) (h : ForJ (Itc 0 c (((len : Int) + c - 1) / c).toNat) g tb D σ H) :
    ∃ (i j c' : Int) (n : Nat), [V.int 0, V.int len, V.int c] = [.int i, .int j, .int c'] ∧ RgC i j c' n ∧ ForJ (Itc i c' n) g tb D σ H := ⟨0, len, c, _, rfl, rgC_up h0 h1 h2, h⟩
theorem c_enum (h : ta σ H fun vs H1 => ∃ a xs, vs = [.ref a] ∧ SqL K H1 a xs ∧ R (Ite K a) H1) : iEnum K ta σ H R := h
theorem pi_enumU {X : Cx} {e : Expr} {p pos tpos : Pos} {elts : List Expr} {kk : Nat} (hg : Gl X "enumerate") (hm : X.mg "enumerate" = none) (ha : PA X [e] ta) (hK : X.K = K := by rfl) (hs : starEach [e] X.env = [(false, eval e X.env)] := by rfl) :
    PI X (.Tuple elts kk tpos) (.Call (.Name "enumerate" p) [e] [] pos) (iEnum K ta) := hK ▸ pi_enum hg hm ha hs
end
theorem bitAnd_255 {x : Int} (h : 0 ≤ x) : Builtin.bitAnd x 255 = x % 256 := PyProof.Rows.bitAnd_m8 x
end Sa

open PySem L2 Sa
/-! ## tactics -/
-- heap look-ups
local macro_rules | `(tactic| walk_at "ne") => `(tactic| first | assumption | (apply Ne.symm; assumption) | (refine ne_of2 ?_ ?_ <;> assumption) | (apply Ne.symm; refine ne_of2 ?_ ?_ <;> assumption))
local macro_rules | `(tactic| walk_at "lk") => `(tactic| first
  | assumption
  | exact upd_same
  | ((with_reducible refine upd_new ?_ ?_); (· assumption); walk_at "lk")
  | ((with_reducible refine upd_other ?_ ?_); (· walk_at "ne"); walk_at "lk")
  | (with_reducible exact New.at_ (by assumption))
  | ((with_reducible refine New.keep (by assumption) ?_); walk_at "lk")
  | ((with_reducible refine New.sqL (by assumption) ?_); walk_at "lk")
  | ((with_reducible refine New.sqT (by assumption) ?_); walk_at "lk")
  | ((with_reducible refine Kp.at0 (by assumption) ?_); walk_at "lk")
  | ((with_reducible apply SqL.of); walk_at "lk")
  | ((with_reducible apply SqT.of); walk_at "lk")
  | ((with_reducible refine SqL.new ?_ ?_); (· assumption); walk_at "lk")
  | ((with_reducible refine SqT.new ?_ ?_); (· assumption); walk_at "lk"))
-- arithmetic of lengths
local macro_rules | `(tactic| walk_at "sz") => `(tactic| first | assumption | decide | (exact Nat.zero_le _) | (simp only [sizeLine_eq, List.length_cons, List.length_nil, List.length_append, List.length_map, List.length_replicate] at *; omega))
-- one step of a reading
local macro_rules | `(tactic| walk_at "s1") => `(tactic| first
  | (with_reducible apply c_seq)
  | ((with_reducible apply c_var); (exact rfl))
  | (with_reducible apply c_c)
  | (with_reducible apply c_op)
  | (with_reducible apply c_addI) | (with_reducible apply c_subI) | (with_reducible apply c_bandI)
  | (with_reducible refine c_bl ?_) | (with_reducible refine c_int ?_)
  | (with_reducible apply c_asg) | (with_reducible apply c_gName) | (with_reducible apply c_ret) | (with_reducible apply c_retN) | (with_reducible apply c_ifs) | (with_reducible apply c_drop)
  | (with_reducible apply c_test) | (with_reducible apply c_tB) | (with_reducible apply c_not) | (with_reducible apply c_and) | (with_reducible apply c_or)
  | (with_reducible apply c_eqI) | (with_reducible apply c_neI) | (with_reducible apply c_ltI) | (with_reducible apply c_leI) | (with_reducible apply c_gtI) | (with_reducible apply c_geI)
  | (with_reducible apply c_nil) | (with_reducible apply c_cons) | (with_reducible apply c_call) | (with_reducible apply c_cb) | (with_reducible apply c_tup) | (with_reducible apply c_lst)
  | (with_reducible apply c_sl) | (with_reducible apply c_noPart) | (with_reducible apply c_part) | (with_reducible apply c_bm) | (with_reducible apply c_bm0) | (with_reducible apply c_m1) | (with_reducible apply c_isStr)
  | (with_reducible apply c_chain) | (with_reducible apply c_andV) | (with_reducible apply c_orV) | (with_reducible apply c_notV) | (with_reducible apply c_if)
  | (with_reducible apply c_intI) | (with_reducible apply c_ord) | (with_reducible apply c_max2) | (with_reducible apply c_min2)
  | ((with_reducible apply c_mulI); (first | (exact Or.inr ⟨by decide, by decide⟩) | (exact Or.inl ⟨by decide, by decide⟩)))
  | ((with_reducible apply c_divI); (exact ⟨by decide, by decide⟩))
  | ((with_reducible apply c_modI); (first | decide | assumption | omega))
  | (with_reducible apply c_eqS) | (with_reducible apply c_neS) | (with_reducible apply c_eqB) | (with_reducible apply c_neB) | (with_reducible apply c_isN) | (with_reducible apply c_notN)
  | (with_reducible apply c_inC) | (with_reducible apply c_notInC)
  | (with_reducible refine c_truB ?_)
  | (with_reducible apply c_gSub)
  | (with_reducible apply c_next)
  | (with_reducible apply c_for) | (with_reducible apply c_lc) | (with_reducible apply c_rng1) | (with_reducible apply c_rng2) | (with_reducible apply c_iList) | (with_reducible apply c_iTup) | (with_reducible apply c_iStr)
  | ((with_reducible refine c_r1F ?_ ?_); (· first | decide | omega)) | ((with_reducible refine c_r2F ?_ ?_); (· first | decide | omega))
  | ((with_reducible apply c_itLF); (· walk_at "lk")) | ((with_reducible apply c_itTF); (· walk_at "lk")) | (with_reducible apply c_itSF)
  | ((with_reducible refine c_r1C ?_ ?_); (· first | decide | omega)) | ((with_reducible refine c_r2C ?_ ?_); (· first | decide | omega))
  | ((with_reducible apply c_itLC); (· walk_at "lk")) | ((with_reducible apply c_itTC); (· walk_at "lk")) | (with_reducible apply c_itSC)
  | ((with_reducible apply c_append); (· walk_at "lk"); (· walk_at "sz"))
  | (with_reducible apply c_yes)
  | (with_reducible apply c_raiseE) | (with_reducible apply c_rng3) | (with_reducible apply c_enum) | (with_reducible apply c_callX) | (with_reducible apply c_xf)
  | (with_reducible apply c_it1) | (with_reducible apply c_it2) | (with_reducible apply c_it3) | (with_reducible apply c_it4)
  | (with_reducible apply c_gCons) | (with_reducible apply c_gNil)
  | ((with_reducible apply c_unL); (· walk_at "lk"); (· exact rfl)) | ((with_reducible apply c_unT); (· walk_at "lk"); (· exact rfl))
  | ((with_reducible apply c_lenS); (· walk_at "sz"))
  | ((with_reducible apply c_lenL); (· walk_at "lk"))
  | ((with_reducible apply c_lenT); (· walk_at "lk"))
  | ((with_reducible apply c_ixL); (· walk_at "lk"); (· exact rfl))
  | ((with_reducible apply c_ixT); (· walk_at "lk"); (· exact rfl))
  | ((with_reducible apply c_setL); (· walk_at "lk"); (· exact rfl))
  | ((with_reducible apply c_tyA); (· walk_at "lk")))
local macro_rules | `(tactic| walk_at "nw") => `(tactic| ((with_reducible refine c_nw ?_ ?_); (· walk_at "sz")))
local macro_rules | `(tactic| walk_at "st") => `(tactic| repeat (walk_at "s1"))
-- steps and ways, as far as they go
local macro_rules | `(tactic| walk_at "go") => `(tactic| repeat' (first | walk_at "s1" | ((with_reducible refine c_iteT ?_ ?_); (· exact rfl)) | ((with_reducible refine c_iteF ?_ ?_); (· exact rfl)) | ((with_reducible refine c_ite ?_ ?_) <;> intro hcnd) | ((with_reducible refine c_iteN ?_ ?_) <;> intro hcnd) | ((with_reducible refine c_iteNB ?_ ?_) <;> intro hcnd) | ((with_reducible refine c_iteB ?_ ?_) <;> intro hcnd)))

namespace K43
open PySem L2 Sa
def top (i : Nat) : Stmt := PySem.Challenge.pw_sameanswers_k43_records_in_pieces.main.body.getD i (.Pass ⟨0, 0, 0, 0⟩)
abbrev s__law_draw : Stmt := top 18
abbrev s__law_cell : Stmt := top 16
abbrev s__law_digits : Stmt := top 17
abbrev s__are_codes : Stmt := top 12
abbrev s__sign : Stmt := top 13
abbrev s_decode_piece : Stmt := top 14
abbrev s__law_pieces : Stmt := top 19
abbrev s__law_stored_text : Stmt := top 20
abbrev s_OutOfRange___init__ : Stmt := subAt (top 2) 0
abbrev s__piece : Stmt := top 10
abbrev s_encode_record : Stmt := top 11
abbrev s__law_encoded : Stmt := top 21
abbrev s_law : Stmt := top 22
def fa : List He.Fa := [.free "int", .free "len", .glo "_law_draw", .glo "_law_cell", .free "range", .glo "_law_digits", .int "PERCENT" 37, .int "LINE_END" 10, .glo "_are_codes", .str "SIGNS" " !\"#$&'()*+,-./0123456789:;<=>?@ABCDEFGHIJKLMNOPQRSTUVWXYZ[\\]^_`abcdefghijklmnopqrstuvwxyz{|}~", .glo "_sign", .free "any", .int "PIECE" 24, .int "RECORD" 76, .glo "decode_piece", .free "ord", .free "max", .glo "_law_pieces", .glo "_law_stored_text", .glo "OutOfRange", .meth "OutOfRange" "__init__", .glo "_piece", .free "enumerate", .int "PIECES_MOST" 255, .glo "encode_record", .glo "_law_encoded", .free "isinstance", .free "tuple", .free "list", .glo "law", .noat "OutOfRange" "name", .exm "OutOfRange" "OutOfRange" true]
def fn : List He.DefD := [dOf "_law_draw" s__law_draw, dOf "_law_cell" s__law_cell, dOf "_law_digits" s__law_digits, dOf "_are_codes" s__are_codes, dOf "_sign" s__sign, dOf "decode_piece" s_decode_piece, dOf "_law_pieces" s__law_pieces, dOf "_law_stored_text" s__law_stored_text, dOfM "OutOfRange" "__init__" "OutOfRange.__init__" s_OutOfRange___init__, dOf "_piece" s__piece, dOf "encode_record" s_encode_record, dOf "_law_encoded" s__law_encoded, dOf "law" s_law]
def fx : List Fx := [.oex "OutOfRange", .xf "OutOfRange"]
abbrev TX (K : PySem.W.Frag) (mg : Str → Option Value) : Prop := Tx fa fn fx K mg
end K43

namespace K43
open PySem L2 Sa
section
variable {P : Program} {w : World} {K : PySem.W.Frag} {mg : Str → Option Value} {base : Heap}
theorem sc__law_draw : FnScope ["_law_box", "_law_many", "_law_at"] ["_law_box", "_law_many"] (defScope s__law_draw) := ⟨rfl, rfl, rfl, by decide +kernel, rfl, by decide +kernel, by decide +kernel⟩
theorem bn__law_draw : BindN "_law_draw" s__law_draw ["_law_box", "_law_many"] := fun _ _ _ _ _ _ us hl => match us, hl with | [_, _], _ => rfl
def spDraw : Sp := fun vs H Q _ => ∃ (b d : Addr) (many : Int), vs = [.ref b, .int many] ∧ Bx H b d ∧ 0 < many ∧ ∀ (i : Int) (H' : Hp), 0 ≤ i → i < many → Kp [b] H H' → Bx H' b d → Q (.int i) H'
theorem b__law_draw (T : TX K mg) : Body P w K mg base "_law_draw" s__law_draw ["_law_box", "_law_many", "_law_at"] 1 spDraw := by
  intro cdv A outer s H vs Q E h X hr
  obtain ⟨b, d, many, rfl, B, hm, k⟩ := h
  obtain ⟨at_, ds, h1, h2, h3⟩ := B.ex
  refine ⟨_, (pss_cons (ps_set (i := 2) sc__law_draw.nd rfl (Or.inl rfl) (pe_ix (ix_U (K := K)) (pv 0) pe_int (fun _ _ => rfl))) (pss_cons (ps_asg (pe_op (op_addU (K := K)) (pv 2) pe_int) (pg_sub (pv 0) pe_int set_list)) (pss_cons (ps_if (pt_cmpR op_ltU (pv 2) (pe_callB (cr_len (K := K)) rfl (T.free 1) PySem.boot_len (pa_cons (pe_ix (ix_U (K := K)) (pv 0) pe_int (fun _ _ => rfl)) pa_nil)) (nomark _)) (pss_one (ps_ret (pe_op op_modU (pe_callTy cr_int rfl (T.free 0) (by decide +kernel) (pa_cons (pe_ix (ix_U (K := K)) (pe_ix (ix_U (K := K)) (pv 0) pe_int (fun _ _ => rfl)) (pv 2) (fun _ _ => rfl)) pa_nil)) (pv 1)))) pss_nil) (pss_one (ps_ret (pe_op op_modU (pe_callTy cr_int rfl (T.free 0) (by decide +kernel) (pa_cons (pe_op (op_addU (K := K)) (pe_op (op_mulU (K := K)) (pv 2) pe_int) pe_int) pa_nil)) (pv 1))))))), ?_⟩
  have hne := B.ne
  walk_at "st"
  have fin : ∀ z : Int, Q (.int (z % many)) (upd H b (.lst [.ref d, .int (at_ + 1)])) := fun z => by
    refine k _ _ (Int.emod_nonneg _ (by omega)) (Int.emod_lt_of_pos _ hm) (Kp.mut (by simp)) ⟨at_ + 1, ds, upd_same, upd_other hne h2, by omega⟩
  refine c_ite (fun hlt => ?_) (fun hlt => ?_)
  · walk_at "st"
    rw [List.length_map] at hlt
    refine c_ixL (by walk_at "lk") (atI_ints h3 hlt) ?_
    walk_at "st"
    exact fin _
  · walk_at "st"
    exact fin _
theorem D__law_draw (T : TX K mg) : DefAt P w K mg base CX0 "_law_draw" 2 ["_law_box", "_law_many"] spDraw :=
  def_of T 0 2 sc__law_draw bn__law_draw (fun vs H Q E h => by obtain ⟨b, d, many, rfl, _⟩ := h; rfl) (b__law_draw T)

theorem sc__law_cell : FnScope ["_law_script", "_law_k"] ["_law_script", "_law_k"] (defScope s__law_cell) := ⟨rfl, rfl, rfl, by decide +kernel, rfl, by decide +kernel, by decide +kernel⟩
theorem bn__law_cell : BindN "_law_cell" s__law_cell ["_law_script", "_law_k"] := fun _ _ _ _ _ _ us hl => match us, hl with | [_, _], _ => rfl
def spCell (K : PySem.W.Frag) : Sp := fun vs H Q _ => ∃ (a : Addr) (ns : List Int) (k : Int), vs = [.ref a, .int k] ∧ SqL K H a (ns.map V.int) ∧ 0 ≤ k ∧ ∀ n : Int, Q (.int n) H
theorem b__law_cell (T : TX K mg) : Body P w K mg base "_law_cell" s__law_cell ["_law_script", "_law_k"] 1 (spCell K) := by
  intro cdv A outer s H vs Q E h X hr
  obtain ⟨a, ns, k, rfl, hs, h0, q⟩ := h
  refine ⟨_, (pss_cons (ps_if (pt_cmpR op_ltU (pv 1) (pe_callB (cr_len (K := K)) rfl (T.free 1) PySem.boot_len (pa_cons (pv 0) pa_nil)) (nomark _)) (pss_one (ps_ret (pe_ix (ix_U (K := K)) (pv 0) (pv 1) (fun _ _ => rfl)))) pss_nil) (pss_one (ps_ret pe_int))), ?_⟩
  walk_at "st"
  refine c_ite (fun hlt => ?_) (fun hlt => ?_)
  · walk_at "st"
    rw [List.length_map] at hlt
    refine c_ixL hs (atI_ints h0 hlt) ?_
    exact q _
  · walk_at "st"
    exact q _
theorem D__law_cell (T : TX K mg) : DefAt P w K mg base CX0 "_law_cell" 2 ["_law_script", "_law_k"] (spCell K) :=
  def_of T 1 3 sc__law_cell bn__law_cell (fun vs H Q E h => by obtain ⟨b, d, many, rfl, _⟩ := h; rfl) (b__law_cell T)
theorem sc__law_digits : FnScope ["_law_script", "_law_first", "_law_last", "_law_digits_here", "_law_k", "_law_cell_here", "_law_turn", "_law_seed"] ["_law_script", "_law_first", "_law_last"] (defScope s__law_digits) := ⟨rfl, rfl, rfl, by decide +kernel, rfl, by decide +kernel, by decide +kernel⟩
theorem bn__law_digits : BindN "_law_digits" s__law_digits ["_law_script", "_law_first", "_law_last"] := fun _ _ _ _ _ _ us hl => match us, hl with | [_, _, _], _ => rfl
def spDigits (K : PySem.W.Frag) : Sp := fun vs H Q _ => ∃ (a : Addr) (ns : List Int), vs = [.ref a, .int 0, .int 63] ∧ SqL K H a (ns.map V.int) ∧ ∀ (p : Addr) (ds : List Int), H p = none → Q (.ref p) (upd H p (.lst (ds.map V.int)))
theorem b__law_digits (T : TX K mg) : Body P w K mg base "_law_digits" s__law_digits ["_law_script", "_law_first", "_law_last", "_law_digits_here", "_law_k", "_law_cell_here", "_law_turn", "_law_seed"] 2 (spDigits K) := by
  intro cdv A outer s H vs Q E h X hr
  obtain ⟨a, ns, rfl, hs, q⟩ := h
  have D__law_cell : DefAt P w K mg base CX0 "_law_cell" 2 ["_law_script", "_law_k"] (spCell K) := D__law_cell T
  refine ⟨_, (pss_cons (ps_set (i := 3) sc__law_digits.nd rfl (Or.inl rfl) (pe_lst pa_nil)) (pss_cons (ps_for PassesOwn.never rfl (pi_range2 rfl (T.free 4) (pa_cons (pv 1) (pa_cons (pv 2) pa_nil))) (pg_name (i := 4) sc__law_digits.nd rfl (Or.inl rfl)) (pss_cons (ps_set (i := 5) sc__law_digits.nd rfl (Or.inl rfl) (pe_callA D__law_cell hr pass0 (pa_cons (pv 0) (pa_cons (pv 4) pa_nil)))) (Evl.pss_cut (ps_if (pt_cmpR op_ltU (pv 5) pe_int (nomark _)) (pss_one (ps_set (i := 5) sc__law_digits.nd rfl (Or.inl rfl) (pe_op op_subU pe_int (pe_op (op_mulU (K := K)) pe_int (pv 5))))) pss_nil) (pss_one (ps_if (pt_cmpR op_geU (pv 5) pe_int (nomark _)) (pss_one (ps_for PassesOwn.never rfl (pi_range1 rfl (T.free 4) (pa_cons pe_int pa_nil)) (pg_name (i := 6) sc__law_digits.nd rfl (Or.inl rfl)) (pss_one (ps_if (pt_cmpR op_gtU (pv 5) pe_int (nomark _)) (pss_cons (ps_expr (pe_appendU (K := K) (pv 3) (pe_op op_modU (pe_callTy cr_int rfl (T.free 0) (by decide +kernel) (pa_cons (pv 5) pa_nil)) pe_int))) (pss_one (ps_set (i := 5) sc__law_digits.nd rfl (Or.inl rfl) (pe_op op_divU (pv 5) pe_int)))) pss_nil)))) (pss_cons (ps_set (i := 7) sc__law_digits.nd rfl (Or.inl rfl) (pe_op op_modU (pe_callTy cr_int rfl (T.free 0) (by decide +kernel) (pa_cons (pe_op (op_addU (K := K)) (pe_op (op_addU (K := K)) (pe_op (op_mulU (K := K)) (pv 5) pe_int) (pe_op (op_mulU (K := K)) (pv 4) pe_int)) pe_int) pa_nil)) pe_int)) (pss_one (ps_for PassesOwn.never rfl (pi_range1 rfl (T.free 4) (pa_cons pe_int pa_nil)) (pg_name (i := 6) sc__law_digits.nd rfl (Or.inl rfl)) (pss_cons (ps_set (i := 7) sc__law_digits.nd rfl (Or.inl rfl) (pe_op op_modU (pe_callTy cr_int rfl (T.free 0) (by decide +kernel) (pa_cons (pe_op (op_addU (K := K)) (pe_op (op_addU (K := K)) (pe_op (op_mulU (K := K)) (pv 7) pe_int) (pe_op (op_mulU (K := K)) pe_int (pv 6))) pe_int) pa_nil)) pe_int)) (pss_one (ps_expr (pe_appendU (K := K) (pv 3) (pe_op op_modU (pe_callTy cr_int rfl (T.free 0) (by decide +kernel) (pa_cons (pe_op op_divU (pv 7) pe_int) pa_nil)) pe_int))))))))))))) (pss_one (ps_ret (pv 3))))), ?_⟩
  walk_at "st"
  walk_at "nw"
  rintro p _ ⟨hp, rfl⟩
  walk_at "st"
  refine forR (fun i σ H' => ∃ (ds : List Int) (v4 v5 v6 v7 : Option V), σ = [some (.ref a), some (.int 0), some (.int 63), some (.ref p), v4, v5, v6, v7] ∧ H' = upd H p (.lst (ds.map V.int)) ∧ ds.length ≤ 60 * i)
    ⟨[], _, _, _, _, rfl, rfl, Nat.le_refl _⟩ ?_ ?_
  · rintro i σ _ hi ⟨ds, v4, v5, v6, v7, rfl, rfl, hl⟩
    have hi : i < 63 := hi
    walk_at "st"
    refine ⟨a, ns, _, rfl, by walk_at "lk", by omega, fun n => ?_⟩
    walk_at "st"
    refine c_cut (fun σ' H' => ∃ m : Int, σ' = [some (.ref a), some (.int 0), some (.int 63), some (.ref p), some (.int (0 + (i : Int))), some (.int m), v6, v7] ∧ H' = upd H p (.lst (ds.map V.int))) ?_ ?_
    · walk_at "st"
      refine c_ite (fun hlt => ?_) (fun hlt => ?_)
      · walk_at "st"
        exact ⟨_, rfl, rfl⟩
      · walk_at "st"
        exact ⟨_, rfl, rfl⟩
    · rintro _ _ ⟨m, rfl, rfl⟩
      walk_at "st"
      refine c_ite (fun hlt => ?_) (fun hlt => ?_)
      · walk_at "st"
        refine forR (fun j σ H' => ∃ (ds' : List Int) (v6 : Option V) (m : Int), σ = [some (.ref a), some (.int 0), some (.int 63), some (.ref p), some (.int (0 + (i : Int))), some (.int m), v6, v7] ∧ H' = upd H p (.lst (ds'.map V.int)) ∧ ds'.length ≤ ds.length + j)
          ⟨ds, _, _, rfl, rfl, Nat.le_refl _⟩ ?_ ?_
        · rintro j σ _ hj ⟨ds', v6, m, rfl, rfl, hl'⟩
          have hj : j < 60 := hj
          walk_at "st"
          refine c_ite (fun hlt => ?_) (fun hlt => ?_)
          · walk_at "st"
            refine ⟨ds' ++ [m % 1000], _, _, rfl, by rw [upd_upd, map_snocI], by rw [List.length_append, List.length_singleton]; omega⟩
          · walk_at "st"
            exact ⟨ds', _, _, rfl, rfl, by omega⟩
        · rintro σ _ ⟨ds', v6, m, rfl, rfl, hl'⟩
          have hl' : ds'.length ≤ ds.length + 60 := hl'
          walk_at "st"
          exact ⟨ds', _, _, _, _, rfl, rfl, by omega⟩
      · walk_at "st"
        refine forR (fun j σ H' => ∃ (ds' : List Int) (v6 : Option V) (m z : Int), σ = [some (.ref a), some (.int 0), some (.int 63), some (.ref p), some (.int (0 + (i : Int))), some (.int m), v6, some (.int z)] ∧ H' = upd H p (.lst (ds'.map V.int)) ∧ ds'.length ≤ ds.length + j)
          ⟨ds, _, _, _, rfl, rfl, Nat.le_refl _⟩ ?_ ?_
        · rintro j σ _ hj ⟨ds', v6, m, z, rfl, rfl, hl'⟩
          have hj : j < 12 := hj
          walk_at "st"
          refine ⟨ds' ++ [_], _, _, _, rfl, by rw [upd_upd, map_snocI], by rw [List.length_append, List.length_singleton]; omega⟩
        · rintro σ _ ⟨ds', v6, m, z, rfl, rfl, hl'⟩
          have hl' : ds'.length ≤ ds.length + 12 := hl'
          walk_at "st"
          exact ⟨ds', _, _, _, _, rfl, rfl, by omega⟩
  · rintro σ _ ⟨ds, v4, v5, v6, v7, rfl, rfl, hl⟩
    walk_at "st"
    exact q p ds hp
theorem D__law_digits (T : TX K mg) : DefAt P w K mg base CX0 "_law_digits" 3 ["_law_script", "_law_first", "_law_last"] (spDigits K) :=
  def_of T 2 5 sc__law_digits bn__law_digits (fun vs H Q E h => by obtain ⟨b, d, rfl, _⟩ := h; rfl) (b__law_digits T)
end
end K43



namespace K43
open PySem L2 Sa
/-! what a block says -/
def goodC (c : Int) : Bool := decide (c = 10) || (decide (32 ≤ c) && decide (c ≤ 126) && !decide (c = 37))
theorem goodC_rng {c : Int} (h : goodC c = true) : 10 ≤ c ∧ c ≤ 126 := by
  simp only [goodC, Bool.or_eq_true, Bool.and_eq_true, decide_eq_true_eq, Bool.not_eq_true', decide_eq_false_iff_not] at h
  omega
section
variable {P : Program} {w : World} {K : PySem.W.Frag} {mg : Str → Option Value} {base : Heap}
theorem sc__are_codes : FnScope ["codes", "code"] ["codes"] (defScope s__are_codes) := ⟨rfl, rfl, rfl, by decide +kernel, rfl, by decide +kernel, by decide +kernel⟩
theorem bn__are_codes : BindN "_are_codes" s__are_codes ["codes"] := fun _ _ _ _ _ _ us hl => match us, hl with | [_], _ => rfl
def spAreCodes (K : PySem.W.Frag) : Sp := fun vs H Q _ => ∃ (a : Addr) (cs : List Int), vs = [.ref a] ∧ SqL K H a (cs.map V.int) ∧ Q (.bl (cs.all goodC)) H
theorem b__are_codes (T : TX K mg) : Body P w K mg base "_are_codes" s__are_codes ["codes", "code"] 1 (spAreCodes K) := by
  intro cdv A outer s H vs Q E h X hr
  obtain ⟨a, cs, rfl, hs, q⟩ := h
  refine ⟨_, (pss_cons (ps_for PassesOwn.never rfl (pi_listU (K := K) (pv 0)) (pg_name (i := 1) sc__are_codes.nd rfl (Or.inl rfl)) (pss_one (ps_if (PW.pt (pw_and (pt_cmpR (op_neU (K := K) hr.units) (pv 1) (pe_gInt (T.int 7)) (nomark _)) (pw_and1 (PW.pt (pw_or (pt_not (pt_chain op_leU op_leU pe_int (pv 1) pe_int)) (pw_or1 (pt_cmpR (op_eqU (K := K) hr.units) (pv 1) (pe_gInt (T.int 6)) (nomark _)))))))) (pss_one (ps_ret pe_bl)) pss_nil))) (pss_one (ps_ret pe_bl))), ?_⟩
  walk_at "st"
  refine forL (cs.map V.int) (fun i σ H' => ∃ v, σ = [some (.ref a), v] ∧ H = H' ∧ (cs.take i).all goodC = true) ⟨_, rfl, rfl, rfl⟩ (by rintro i σ _ _ ⟨v, rfl, rfl, _⟩; exact hs) ?_ ?_
  · rintro i x σ _ hx ⟨v, rfl, rfl, hg⟩
    rw [List.getElem?_map] at hx
    obtain ⟨c, hc, rfl⟩ := Option.map_eq_some_iff.mp hx
    have yes : goodC c = true → (cs.take (i + 1)).all goodC = true := fun h => by rw [take_succ' hc, List.all_append, hg]; simp [h]
    have no : goodC c = false → Q (.bl false) H := fun h => by
      have e : cs.all goodC = false := by
        cases q2 : cs.all goodC with
        | false => rfl
        | true => rw [List.all_eq_true.mp q2 c (List.mem_of_getElem? hc)] at h; cases h
      rw [e] at q
      exact q
    walk_at "go"
    all_goals first
      | exact no (by simp [goodC] <;> omega)
      | exact ⟨_, rfl, rfl, yes (by simp [goodC] <;> omega)⟩
  · rintro σ _ ⟨v, rfl, rfl, hg⟩
    walk_at "st"
    rw [List.length_map, ← List.length_map (f := V.int), List.length_map, List.take_length] at hg
    rw [hg] at q
    exact q
theorem D__are_codes (T : TX K mg) : DefAt P w K mg base CX0 "_are_codes" 2 ["codes"] (spAreCodes K) :=
  def_of T 3 8 sc__are_codes bn__are_codes (fun vs H Q E h => by obtain ⟨b, d, rfl, _⟩ := h; rfl) (b__are_codes T)
theorem sc__sign : FnScope ["code"] ["code"] (defScope s__sign) := ⟨rfl, rfl, rfl, by decide +kernel, rfl, by decide +kernel, by decide +kernel⟩
theorem bn__sign : BindN "_sign" s__sign ["code"] := fun _ _ _ _ _ _ us hl => match us, hl with | [_], _ => rfl
theorem signs_lo : ∀ c : Nat, c < 37 → 32 ≤ c → atI (PySem.Str.ofString " !\"#$&'()*+,-./0123456789:;<=>?@ABCDEFGHIJKLMNOPQRSTUVWXYZ[\\]^_`abcdefghijklmnopqrstuvwxyz{|}~").cps.toList ((c : Int) - 32) = some c := by decide +kernel
theorem signs_hi : ∀ c : Nat, c < 127 → 38 ≤ c → atI (PySem.Str.ofString " !\"#$&'()*+,-./0123456789:;<=>?@ABCDEFGHIJKLMNOPQRSTUVWXYZ[\\]^_`abcdefghijklmnopqrstuvwxyz{|}~").cps.toList ((c : Int) - 33) = some c := by decide +kernel
def spSign : Sp := fun vs H Q _ => ∃ (c : Nat), vs = [.int c] ∧ goodC c = true ∧ Q (.str (txt [c])) H
theorem b__sign (T : TX K mg) : Body P w K mg base "_sign" s__sign ["code"] 1 spSign := by
  intro cdv A outer s H vs Q E h X hr
  obtain ⟨c, rfl, hg, q⟩ := h
  have hg2 : c = 10 ∨ (32 ≤ c ∧ c ≤ 126 ∧ c ≠ 37) := by
    simp only [goodC, Bool.or_eq_true, Bool.and_eq_true, decide_eq_true_eq, Bool.not_eq_true', decide_eq_false_iff_not] at hg
    omega
  refine ⟨_, (pss_cons (ps_if (pt_cmpR (op_eqU (K := K) hr.units) (pv 0) (pe_gInt (T.int 7)) (nomark _)) (pss_one (ps_ret pe_str)) pss_nil) (pss_one (ps_ret (pe_ifExp (pt_cmpR op_ltU (pv 0) (pe_gInt (T.int 6)) (nomark _)) (pe_ix (ix_U (K := K)) (pe_gStr (T.str 9)) (pe_op op_subU (pv 0) pe_int) (fun _ _ => rfl)) (pe_ix (ix_U (K := K)) (pe_gStr (T.str 9)) (pe_op op_subU (pv 0) pe_int) (fun _ _ => rfl)))))), ?_⟩
  walk_at "go"
  · have e : c = 10 := by omega
    subst e
    exact q
  · exact c_ixS (by decide +kernel) (signs_lo c (by omega) (by omega)) q
  · exact c_ixS (by decide +kernel) (signs_hi c (by omega) (by omega)) q
theorem D__sign (T : TX K mg) : DefAt P w K mg base CX0 "_sign" 2 ["code"] spSign :=
  def_of T 4 10 sc__sign bn__sign (fun vs H Q E h => by obtain ⟨b, rfl, _⟩ := h; rfl) (b__sign T)
end
/-! what a piece says: its place, how many, the record's number, its codes -/
def codesOf (xs : List Int) : List Int := (xs.drop 6).take (xs.getD 5 0).toNat
def restOf (xs : List Int) : List Int := (xs.drop (6 + (xs.getD 5 0).toNat)).take (31 - (6 + (xs.getD 5 0).toNat))
def isPiece (xs : List Int) : Prop := xs.getD 0 0 = 76 ∧ xs.getD 31 0 = 76 ∧ xs.getD 1 0 < xs.getD 2 0 ∧ xs.getD 5 0 ≤ 24 ∧ (restOf xs).any (· != 0) = false ∧ (codesOf xs).all goodC = true
instance (xs : List Int) : Decidable (isPiece xs) := inferInstanceAs (Decidable (_ ∧ _ ∧ _ ∧ _ ∧ _ ∧ _))
structure Bytes (xs : List Int) : Prop where
  len : xs.length = 32
  rng : ∀ x ∈ xs, 0 ≤ x ∧ x ≤ 255
theorem Bytes.at {xs : List Int} (h : Bytes xs) (i : Nat) : 0 ≤ xs.getD i 0 ∧ xs.getD i 0 ≤ 255 := by
  rw [List.getD_eq_getElem?_getD]
  cases e : xs[i]? with
  | none => exact ⟨Int.le_refl _, by decide⟩
  | some x => exact h.rng x (List.mem_of_getElem? e)
theorem cut16 {xs : List Int} (h : xs.length = 32) : (xs.drop 1).take 5 = [xs.getD 1 0, xs.getD 2 0, xs.getD 3 0, xs.getD 4 0, xs.getD 5 0] := by
  rcases xs with _ | ⟨x0, _ | ⟨x1, _ | ⟨x2, _ | ⟨x3, _ | ⟨x4, _ | ⟨x5, r⟩⟩⟩⟩⟩⟩ <;> first | rfl | (exfalso; simp at h)
/-- the answer v at H says what the piece xs says -/
def Said (H : Hp) (v : V) (xs : List Int) : Prop :=
  (¬ isPiece xs ∧ v = .non) ∨ (isPiece xs ∧ ∃ p, v = .ref p ∧ H p = some (.tup [.int (xs.getD 1 0), .int (xs.getD 2 0), .int (xs.getD 3 0 * 256 + xs.getD 4 0), .str (txt ((codesOf xs).map Int.toNat))]))
def spSays (K : PySem.W.Frag) : Sp := fun vs H Q _ => ∃ (a : Addr) (xs : List Int), vs = [.ref a] ∧ SqL K H a (xs.map V.int) ∧ Bytes xs ∧ ∀ v H', Kp [] H H' → Said H' v xs → Q v H'
section
variable {P : Program} {w : World} {K : PySem.W.Frag} {mg : Str → Option Value} {base : Heap}
theorem sc_decode_piece : FnScope ["block", "place", "many", "high", "low", "count", "codes", "code"] ["block"] (defScope s_decode_piece) := ⟨rfl, rfl, rfl, by decide +kernel, rfl, by decide +kernel, by decide +kernel⟩
theorem bn_decode_piece : BindN "decode_piece" s_decode_piece ["block"] := fun _ _ _ _ _ _ us hl => match us, hl with | [_], _ => rfl
theorem b_decode_piece (T : TX K mg) : Body P w K mg base "decode_piece" s_decode_piece ["block", "place", "many", "high", "low", "count", "codes", "code"] 2 (spSays K) := by
  intro cdv A outer s H vs Q E h X hr
  obtain ⟨a, xs, rfl, hs, hb, q⟩ := h
  have D__are_codes : DefAt P w K mg base CX0 "_are_codes" 2 ["codes"] (spAreCodes K) := D__are_codes T
  have D__sign : DefAt P w K mg base CX0 "_sign" 2 ["code"] spSign := D__sign T
  have hx : ∀ i : Nat, i < 32 → atI (xs.map V.int) (i : Int) = some (.int (xs.getD i 0)) := fun i hi => by
    rw [atI_ints (by omega) (by rw [hb.len]; omega)]
    simp
  refine ⟨_, (pss_cons (ps_if (PW.pt (pw_or (pt_cmpR (op_neU (K := K) hr.units) (pe_ix (ix_U (K := K)) (pv 0) pe_int (fun _ _ => rfl)) (pe_gInt (T.int 13)) (nomark _)) (pw_or1 (pt_cmpR (op_neU (K := K) hr.units) (pe_ix (ix_U (K := K)) (pv 0) pe_int (fun _ _ => rfl)) (pe_gInt (T.int 13)) (nomark _))))) (pss_one (ps_ret pe_non)) pss_nil) (pss_cons (ps_asg (pe_slice (sl_U (K := K)) (pv 0) (po_some pe_int) (po_some pe_int)) (pg_lstU (K := K) (n := 5) rfl (pgs_cons (pg_name (i := 1) sc_decode_piece.nd rfl (Or.inl rfl)) (pgs_cons (pg_name (i := 2) sc_decode_piece.nd rfl (Or.inl rfl)) (pgs_cons (pg_name (i := 3) sc_decode_piece.nd rfl (Or.inl rfl)) (pgs_cons (pg_name (i := 4) sc_decode_piece.nd rfl (Or.inl rfl)) (pgs_cons (pg_name (i := 5) sc_decode_piece.nd rfl (Or.inl rfl)) pgs_nil))))))) (pss_cons (ps_if (PW.pt (pw_or (pt_cmpR op_geU (pv 1) (pv 2) (nomark _)) (pw_or (pt_cmpR op_gtU (pv 5) (pe_gInt (T.int 12)) (nomark _)) (pw_or1 (pt_tru (K := K) (pe_callB (cr_anyU (K := K) rfl) rfl (T.free 11) (by decide +kernel) (pa_cons (pe_slice (sl_U (K := K)) (pv 0) (po_some (pe_op (op_addU (K := K)) pe_int (pv 5))) (po_some pe_int)) pa_nil))))))) (pss_one (ps_ret pe_non)) pss_nil) (pss_cons (ps_set (i := 6) sc_decode_piece.nd rfl (Or.inl rfl) (pe_slice (sl_U (K := K)) (pv 0) (po_some pe_int) (po_some (pe_op (op_addU (K := K)) pe_int (pv 5))))) (pss_cons (ps_if (pt_not (pt_tru (K := K) (pe_callA D__are_codes hr pass0 (pa_cons (pv 6) pa_nil)))) (pss_one (ps_ret pe_non)) pss_nil) (pss_one (ps_ret (pe_tup (pa_cons (pv 1) (pa_cons (pv 2) (pa_cons (pe_op (op_addU (K := K)) (pe_op (op_mulU (K := K)) (pv 3) pe_int) (pv 4)) (pa_cons (pe_joinU (K := K) pe_str (pe_lc (own := [("code", 7)]) rfl sc_decode_piece.nd (pi_listU (K := K) (pv 6)) (blkOk_by (N := ["block", "place", "many", "high", "low", "count", "codes", "code"]) (sc := defScope s_decode_piece) (by decide +kernel)) (fun _ _ _ _ _ => (pg_name (i := 7) sc_decode_piece.nd rfl (Or.inl rfl))) (fun _ _ _ _ _ => pts_nil) (fun _ _ _ _ _ => (pe_callA D__sign hr pass0 (pa_cons (pv 7) pa_nil))))) pa_nil)))))))))))), ?_⟩
  walk_at "st"
  refine c_ixL hs (hx 0 (by decide)) ?_
  walk_at "st"
  have no : ∀ H', Kp [] H H' → ¬ isPiece xs → Q .non H' := fun H' e h => q _ _ e (.inl ⟨h, rfl⟩)
  refine c_iteN (fun h0 => ?_) (fun h0 => ?_)
  · walk_at "st"
    exact no _ Kp.refl fun z => h0 z.1
  walk_at "st"
  refine c_ixL hs (hx 31 (by decide)) ?_
  walk_at "st"
  refine c_iteN (fun h31 => ?_) (fun h31 => ?_)
  · walk_at "st"
    exact no _ Kp.refl fun z => h31 z.2.1
  walk_at "st"
  refine c_slL hs ?_
  rintro p _ ⟨hp, rfl⟩
  have hs1 : SqL K (upd H p (.lst ([xs.getD 1 0, xs.getD 2 0, xs.getD 3 0, xs.getD 4 0, xs.getD 5 0].map V.int))) a (xs.map V.int) := SqL.new hp hs
  have e1 : Kp [] H (upd H p (.lst ([xs.getD 1 0, xs.getD 2 0, xs.getD 3 0, xs.getD 4 0, xs.getD 5 0].map V.int))) := Kp.new hp
  rw [cutV_ints, cutL_lt (by decide) (by decide) (by rw [hb.len]; decide)]
  show gLst _ _ _ _ _ (upd H p (.lst (((xs.drop 1).take 5).map V.int))) _
  rw [cut16 hb.len]
  refine c_unL (SqL.of upd_same) rfl ?_
  clear hp
  generalize upd H p (.lst ([xs.getD 1 0, xs.getD 2 0, xs.getD 3 0, xs.getD 4 0, xs.getD 5 0].map V.int)) = H1 at hs1 e1 ⊢
  have b5 := hb.at 5
  show gCons _ _ [V.int (xs.getD 1 0), V.int (xs.getD 2 0), V.int (xs.getD 3 0), V.int (xs.getD 4 0), V.int (xs.getD 5 0)] _ _ _
  walk_at "st"
  refine c_ite (fun h1 => ?_) (fun h1 => ?_)
  · walk_at "st"
    exact no _ e1 fun z => absurd z.2.2.1 (by omega)
  walk_at "st"
  refine c_ite (fun h2 => ?_) (fun h2 => ?_)
  · walk_at "st"
    exact no _ e1 fun z => absurd z.2.2.2.1 (by omega)
  walk_at "st"
  refine c_slL hs1 ?_
  rintro p2 _ ⟨hp2, rfl⟩
  rw [cutV_ints, cutL_lt (by omega) (by omega) (by rw [hb.len]; decide)]
  have er : (xs.drop (6 + xs.getD 5 0).toNat).take ((31 : Int).toNat - (6 + xs.getD 5 0).toNat) = restOf xs := by
    unfold restOf
    have z : (6 + xs.getD 5 0).toNat = 6 + (xs.getD 5 0).toNat := by omega
    rw [z]
    rfl
  rw [er]
  have hs2 : SqL K (upd H1 p2 (.lst ((restOf xs).map V.int))) a (xs.map V.int) := SqL.new hp2 hs1
  have e2 : Kp [] H (upd H1 p2 (.lst ((restOf xs).map V.int))) := e1.trans (Kp.new hp2)
  walk_at "st"
  refine c_anyI (SqL.of upd_same) ?_
  clear hp2
  generalize upd H1 p2 (.lst ((restOf xs).map V.int)) = H2 at hs2 e2 ⊢
  walk_at "st"
  refine c_iteB (fun h3 => ?_) (fun h3 => ?_)
  · walk_at "st"
    exact no _ e2 fun z => by rw [z.2.2.2.2.1] at h3; cases h3
  walk_at "st"
  refine c_slL hs2 ?_
  rintro p3 _ ⟨hp3, rfl⟩
  rw [cutV_ints, cutL_lt (by decide) (by omega) (by rw [hb.len]; omega)]
  have er : (xs.drop (6 : Int).toNat).take ((6 + xs.getD 5 0).toNat - (6 : Int).toNat) = codesOf xs := by
    unfold codesOf
    have z : (6 + xs.getD 5 0).toNat - (6 : Int).toNat = (xs.getD 5 0).toNat := by omega
    rw [z]
    rfl
  rw [er]
  have hs3 : SqL K (upd H2 p3 (.lst ((codesOf xs).map V.int))) p3 ((codesOf xs).map V.int) := SqL.of upd_same
  have e3 : Kp [] H (upd H2 p3 (.lst ((codesOf xs).map V.int))) := e2.trans (Kp.new hp3)
  clear hp3
  generalize upd H2 p3 (.lst ((codesOf xs).map V.int)) = H3 at hs3 e3 ⊢
  walk_at "st"
  refine ⟨_, _, rfl, hs3, ?_⟩
  walk_at "st"
  refine c_iteNB (fun h4 => ?_) (fun h4 => ?_)
  · walk_at "st"
    exact no _ e3 fun z => by rw [z.2.2.2.2.2] at h4; cases h4
  walk_at "st"
  have len24 : (codesOf xs).length ≤ 24 := by
    unfold codesOf
    rw [List.length_take]
    omega
  refine lcL ((codesOf xs).map V.int) (fun Dl i acc H' => Kp [] H3 H' ∧ acc = ((codesOf xs).take i).map fun c => V.str (txt [c.toNat])) (fun Dl hD => ⟨Kp.new hD, rfl⟩) (fun Dl i acc H' hD e => SqL.kp e.1 hs3) ?_ ?_
  · rintro Dl i x acc H' hD hx hacc hl ⟨e, rfl⟩
    rw [List.getElem?_map] at hx
    obtain ⟨c, hc, rfl⟩ := Option.map_eq_some_iff.mp hx
    have hg : goodC c = true := List.all_eq_true.mp h4 c (List.mem_of_getElem? hc)
    have hr := goodC_rng hg
    have ec : c = ((c.toNat : Nat) : Int) := by omega
    have hi : i < (codesOf xs).length := (List.getElem?_eq_some_iff.mp hc).1
    walk_at "st"
    refine ⟨rfl, ?_⟩
    walk_at "st"
    refine ⟨c.toNat, by rw [← ec], by rw [← ec]; exact hg, ?_⟩
    exact lc_push hacc hl (by omega) ⟨e.fresh_mut hD, by rw [take_succ' hc, List.map_append]; rfl⟩
  · rintro Dl acc H' hD hacc hl ⟨e, rfl⟩
    rw [List.length_map, List.take_length] at hacc
    have ey : ((codesOf xs).map fun c => V.str (txt [c.toNat])) = (((codesOf xs).map Int.toNat).map fun c => txt [c]).map V.str := by simp [Function.comp_def]
    rw [ey] at hacc
    have es : PySem.Str.ofString "" = txt [] := by decide +kernel
    rw [es]
    refine c_join (ys := ((codesOf xs).map Int.toNat).map fun c => txt [c]) (SqL.of hacc) ?_ ?_
    · rw [sum_ones, List.length_map, txt_len]
      simp only [List.length_nil, Nat.mul_zero, Nat.add_zero]
      omega
    rw [tjoin_ones]
    walk_at "st"
    walk_at "nw"
    rintro p4 _ ⟨hp4, rfl⟩
    exact q _ _ (e3.trans (e.trans (Kp.new hp4))) (.inr ⟨⟨h0, h31, by omega, by omega, h3, h4⟩, p4, rfl, upd_same⟩)
theorem D_decode_piece (T : TX K mg) : DefAt P w K mg base CX0 "decode_piece" 3 ["block"] (spSays K) :=
  def_of T 5 14 sc_decode_piece bn_decode_piece (fun vs H Q E h => by obtain ⟨b, d, rfl, _⟩ := h; rfl) (b_decode_piece T)
end
end K43



namespace K43
open PySem L2 Sa
/-! the pieces that the law builds -/
def partOf (cs : List Nat) (k : Nat) : List Nat := (cs.drop (24 * k)).take 24
def headOf (n : Int) (cs : List Nat) (many : Nat) (k : Nat) : List Int := [76, (k : Int), (many : Int), n / 256, n % 256, ((partOf cs k).length : Int)] ++ (partOf cs k).map Int.ofNat
def blockOf (n : Int) (cs : List Nat) (many : Nat) (k : Nat) : List Int := headOf n cs many k ++ List.replicate (31 - (headOf n cs many k).length) 0 ++ [76]
def manyOf (cs : List Nat) : Nat := max 1 ((cs.length + 23) / 24)
theorem rep_ints (k : Nat) (z : Int) : (List.replicate k [V.int z]).flatten = (List.replicate k z).map V.int := by
  induction k with
  | zero => rfl
  | succ k ih => rw [List.replicate_succ, List.flatten_cons, ih, List.replicate_succ]; rfl
def spPieces (K : PySem.W.Frag) : Sp := fun vs H Q _ => ∃ (n : Int) (cs : List Nat), vs = [.int n, .str (txt cs)] ∧ cs.length ≤ 10000 ∧
  ∀ (p : Addr) (qs : List Addr) (H' : Hp), Kp [] H H' → H p = none → H' p = some (.lst (qs.map V.ref)) → qs.length = manyOf cs →
    (∀ k q, qs[k]? = some q → H q = none ∧ H' q = some (.lst ((blockOf n cs (manyOf cs) k).map V.int))) → Q (.ref p) H'
section
variable {P : Program} {w : World} {K : PySem.W.Frag} {mg : Str → Option Value} {base : Heap}
theorem sc__law_pieces : FnScope ["_law_number", "_law_text", "_law_blocks", "_law_many", "_law_k", "_law_part", "_law_block", "_law_sign"] ["_law_number", "_law_text"] (defScope s__law_pieces) := ⟨rfl, rfl, rfl, by decide +kernel, rfl, by decide +kernel, by decide +kernel⟩
theorem bn__law_pieces : BindN "_law_pieces" s__law_pieces ["_law_number", "_law_text"] := fun _ _ _ _ _ _ us hl => match us, hl with | [_, _], _ => rfl
theorem b__law_pieces (T : TX K mg) : Body P w K mg base "_law_pieces" s__law_pieces ["_law_number", "_law_text", "_law_blocks", "_law_many", "_law_k", "_law_part", "_law_block", "_law_sign"] 1 (spPieces K) := by
  intro cdv A outer s H vs Q E h X hr
  obtain ⟨n, cs, rfl, hl, q⟩ := h
  refine ⟨_, (pss_cons (ps_set (i := 2) sc__law_pieces.nd rfl (Or.inl rfl) (pe_lst pa_nil)) (pss_cons (ps_set (i := 3) sc__law_pieces.nd rfl (Or.inl rfl) (pe_callB (cr_max2 rfl) rfl (T.free 16) (by decide +kernel) (pa_cons pe_int (pa_cons (pe_op op_divU (pe_op (op_addU (K := K)) (pe_callB (cr_len (K := K)) rfl (T.free 1) PySem.boot_len (pa_cons (pv 1) pa_nil)) pe_int) pe_int) pa_nil)))) (pss_cons (ps_for PassesOwn.never rfl (pi_range1 rfl (T.free 4) (pa_cons (pv 3) pa_nil)) (pg_name (i := 4) sc__law_pieces.nd rfl (Or.inl rfl)) (pss_cons (ps_set (i := 5) sc__law_pieces.nd rfl (Or.inl rfl) (pe_slice (sl_U (K := K)) (pv 1) (po_some (pe_op (op_mulU (K := K)) pe_int (pv 4))) (po_some (pe_op (op_addU (K := K)) (pe_op (op_mulU (K := K)) pe_int (pv 4)) pe_int)))) (pss_cons (ps_set (i := 6) sc__law_pieces.nd rfl (Or.inl rfl) (pe_lst (pa_cons pe_int (pa_cons (pv 4) (pa_cons (pv 3) (pa_cons (pe_op op_divU (pv 0) pe_int) (pa_cons (pe_op op_modU (pe_callTy cr_int rfl (T.free 0) (by decide +kernel) (pa_cons (pv 0) pa_nil)) pe_int) (pa_cons (pe_callB (cr_len (K := K)) rfl (T.free 1) PySem.boot_len (pa_cons (pv 5) pa_nil)) pa_nil)))))))) (pss_cons (ps_for PassesOwn.never rfl (pi_str (pv 5)) (pg_name (i := 7) sc__law_pieces.nd rfl (Or.inl rfl)) (pss_one (ps_expr (pe_appendU (K := K) (pv 6) (pe_callB cr_ord rfl (T.free 15) (by decide +kernel) (pa_cons (pv 7) pa_nil)))))) (pss_one (ps_expr (pe_appendU (K := K) (pv 2) (pe_op (op_addU (K := K)) (pe_op (op_addU (K := K)) (pv 6) (pe_op (op_mulU (K := K)) (pe_lst (pa_cons pe_int pa_nil)) (pe_op op_subU pe_int (pe_callB (cr_len (K := K)) rfl (T.free 1) PySem.boot_len (pa_cons (pv 6) pa_nil))))) (pe_lst (pa_cons pe_int pa_nil)))))))))) (pss_one (ps_ret (pv 2)))))), ?_⟩
  walk_at "st"
  walk_at "nw"
  rintro p _ ⟨hp, rfl⟩
  walk_at "st"
  refine c_lenS (by rw [txt_len, sizeLine_eq]; omega) ?_
  rw [txt_len]
  walk_at "st"
  have em : max (1 : Int) (((cs.length : Int) + 23) / 24) = ((manyOf cs : Nat) : Int) := by unfold manyOf; omega
  have mb : 1 ≤ manyOf cs ∧ manyOf cs ≤ 1000 := by unfold manyOf; omega
  rw [em]
  generalize hm : manyOf cs = many at *
  walk_at "st"
  refine forR (fun i σ H' => ∃ (qs : List Addr) (v4 v5 v6 v7 : Option V), σ = [some (.int n), some (.str (txt cs)), some (.ref p), some (.int (many : Int)), v4, v5, v6, v7] ∧ qs.length = i ∧ H' p = some (.lst (qs.map V.ref)) ∧ Kp [] H H' ∧
      ∀ k q, qs[k]? = some q → H q = none ∧ q ≠ p ∧ H' q = some (.lst ((blockOf n cs many k).map V.int)))
    ⟨[], _, _, _, _, rfl, rfl, upd_same, Kp.new hp, fun k q h => by simp at h⟩ ?_ ?_
  · rintro i σ H1 hi ⟨qs, v4, v5, v6, v7, rfl, hq, h1, e1, hqs⟩
    have hi : i < many := by omega
    walk_at "st"
    refine c_slS (by rw [txt_len, sizeLine_eq]; omega) ?_
    have ec : cutS (txt cs) (some (24 * (0 + (i : Int)))) (some (24 * (0 + (i : Int)) + 24)) = txt (partOf cs i) := by
      rw [cutS_txt, sIx_of (by omega), sIx_of (by omega)]
      congr 1
      unfold partOf
      have z1 : (24 * (0 + (i : Int))).toNat = 24 * i := by omega
      have z2 : (24 * (0 + (i : Int)) + 24).toNat = 24 * i + 24 := by omega
      rw [z1, z2]
      by_cases hc : 24 * i ≤ cs.length
      · rw [Nat.min_eq_left hc]
        by_cases hd : 24 * i + 24 ≤ cs.length
        · rw [Nat.min_eq_left hd]
          congr 1
          omega
        · rw [Nat.min_eq_right (by omega), List.take_of_length_le (by rw [List.length_drop]; omega), List.take_of_length_le (by rw [List.length_drop]; omega)]
      · rw [Nat.min_eq_right (by omega), Nat.min_eq_right (by omega)]
        rw [List.drop_of_length_le (Nat.le_refl _), List.drop_of_length_le (by omega)]
        simp
    rw [ec]
    have pl : (partOf cs i).length ≤ 24 := by unfold partOf; rw [List.length_take]; omega
    walk_at "st"
    refine c_lenS (by rw [txt_len, sizeLine_eq]; omega) ?_
    rw [txt_len]
    walk_at "st"
    walk_at "nw"
    rintro bl _ ⟨hbl, rfl⟩
    have nb : bl ≠ p := (ne_of2 h1 hbl).symm
    walk_at "st"
    have e0 : (0 : Int) + (i : Int) = (i : Int) := by omega
    refine forS (fun j σ H' => ∃ (v7 : Option V), σ = [some (.int n), some (.str (txt cs)), some (.ref p), some (.int (many : Int)), some (.int (0 + (i : Int))), some (.str (txt (partOf cs i))), some (.ref bl), v7] ∧
        H' = upd H1 bl (.lst (([76, (i : Int), (many : Int), n / 256, n % 256, ((partOf cs i).length : Int)] ++ ((partOf cs i).take j).map Int.ofNat).map V.int)))
      ⟨_, rfl, by rw [e0]; rfl⟩ ?_ ?_
    · rintro j c σ _ hj ⟨v7, rfl, rfl⟩
      rw [txt_cps] at hj
      have hjl : j < (partOf cs i).length := (List.getElem?_eq_some_iff.mp hj).1
      walk_at "st"
      refine c_append upd_same ?_ ?_
      · simp only [sizeLine_eq, List.length_map, List.length_append, List.length_cons, List.length_nil, List.length_take]
        omega
      walk_at "st"
      refine ⟨_, rfl, ?_⟩
      rw [upd_upd, map_snocI, take_succ' hj, List.map_append (f := Int.ofNat), ← List.append_assoc]
      rfl
    · rintro σ _ ⟨v7, rfl, rfl⟩
      rw [txt_cps, List.take_length]
      have eh : [76, (i : Int), (many : Int), n / 256, n % 256, ((partOf cs i).length : Int)] ++ (partOf cs i).map Int.ofNat = headOf n cs many i := rfl
      rw [eh]
      have hl1 : (headOf n cs many i).length = 6 + (partOf cs i).length := by unfold headOf; simp; omega
      walk_at "st"
      have h2 : upd H1 bl (.lst ((headOf n cs many i).map V.int)) p = some (.lst (qs.map V.ref)) := upd_other nb.symm h1
      have h3 : upd H1 bl (.lst ((headOf n cs many i).map V.int)) bl = some (.lst ((headOf n cs many i).map V.int)) := upd_same
      have e3 : Kp [] H1 (upd H1 bl (.lst ((headOf n cs many i).map V.int))) := Kp.new hbl
      have hbl0 : H bl = none := free0 e1 hbl
      generalize upd H1 bl (.lst ((headOf n cs many i).map V.int)) = H3 at h2 h3 e3 ⊢
      walk_at "nw"
      intro p4 H4 N4
      walk_at "st"
      refine c_mulL N4.at_ (by rw [List.length_map]; omega) (by rw [List.length_map]; omega) ?_ fun p5 H5 N5 => ?_
      · rw [List.length_map, sizeLine_eq]
        show 1 * _ ≤ _
        omega
      rw [rep_ints, List.length_map] at N5
      refine c_addL (xs := (headOf n cs many i).map V.int) (by walk_at "lk") N5.at_ ?_ fun p6 H6 N6 => ?_
      · rw [List.length_map, List.length_map, List.length_replicate, sizeLine_eq]
        omega
      walk_at "st"
      walk_at "nw"
      intro p7 H7 N7
      refine c_addL (N7.keep N6.at_) N7.at_ ?_ fun p8 H8 N8 => ?_
      · simp only [List.length_append, List.length_map, List.length_replicate, List.length_cons, List.length_nil, sizeLine_eq]
        omega
      have eb : (headOf n cs many i).map V.int ++ (List.replicate (31 - ((headOf n cs many i).length : Int)).toNat (0 : Int)).map V.int ++ [V.int 76] = (blockOf n cs many i).map V.int := by
        unfold blockOf
        rw [List.map_append, List.map_append]
        have z : (31 - ((headOf n cs many i).length : Int)).toNat = 31 - (headOf n cs many i).length := by omega
        rw [z]
        rfl
      rw [eb] at N8
      have e8 : Kp [] H3 H8 := N4.kp.trans (N5.kp.trans (N6.kp.trans (N7.kp.trans N8.kp)))
      have h8 := N8.at_
      have f8 : H3 p8 = none := free0 (N4.kp.trans (N5.kp.trans (N6.kp.trans N7.kp))) N8.fr
      walk_at "st"
      have n8 : p8 ≠ p := (ne_of2 h2 f8).symm
      refine ⟨qs ++ [p8], _, _, _, _, rfl, by rw [List.length_append, hq]; rfl, ?_, ?_, ?_⟩
      · rw [List.map_append]
        exact upd_same
      · exact (e1.trans (e3.trans e8)).fresh_mut hp
      · intro k q hk
        by_cases hkl : k < qs.length
        · rw [List.getElem?_append_left hkl] at hk
          obtain ⟨z1, z2, z3⟩ := hqs k q hk
          exact ⟨z1, z2, upd_other z2 (e8.at0 (e3.at0 z3))⟩
        · rw [List.getElem?_append_right (by omega)] at hk
          have hk0 : k - qs.length = 0 := by
            cases e : k - qs.length with
            | zero => rfl
            | succ m => rw [e] at hk; simp at hk
          rw [hk0] at hk
          have eq8 : p8 = q := by simpa using hk
          have ek : k = i := by omega
          subst eq8 ek
          exact ⟨free0 e1 (free0 e3 f8), n8, upd_other n8 h8⟩
  · rintro σ H1 ⟨qs, v4, v5, v6, v7, rfl, hq, h1, e1, hqs⟩
    walk_at "st"
    exact q p qs H1 e1 hp h1 (by omega) fun k z hz => ⟨(hqs k z hz).1, (hqs k z hz).2.2⟩
theorem D__law_pieces (T : TX K mg) : DefAt P w K mg base CX0 "_law_pieces" 2 ["_law_number", "_law_text"] (spPieces K) :=
  def_of T 6 17 sc__law_pieces bn__law_pieces (fun vs H Q E h => by obtain ⟨b, d, rfl, _⟩ := h; rfl) (b__law_pieces T)
end
end K43



namespace K43
open PySem L2 Sa
theorem storesigns : ∀ c ∈ (PySem.Str.ofString " !\"#$&'()*+,-./0123456789:;<=>?@ABCDEFGHIJKLMNOPQRSTUVWXYZ[\\]^_`abcdefghijklmnopqrstuvwxyz{|}~\n").cps.toList, goodC (c : Int) = true := by decide +kernel
theorem storelen : (PySem.Str.ofString " !\"#$&'()*+,-./0123456789:;<=>?@ABCDEFGHIJKLMNOPQRSTUVWXYZ[\\]^_`abcdefghijklmnopqrstuvwxyz{|}~\n").length = 95 := by decide +kernel
theorem getD_mem {α : Type} (xs : Array α) (i : Nat) (d : α) (h : i < xs.size) : xs.getD i d ∈ xs.toList := by
  rw [Array.getD, dif_pos h]
  show xs[i] ∈ _
  simp
def spStored : Sp := fun vs H Q _ => ∃ (b d : Addr) (many : Nat), vs = [.ref b, .int many] ∧ Bx H b d ∧ many ≤ 1000 ∧ ∀ (cs : List Nat) (H' : Hp), cs.length = many → (∀ c ∈ cs, goodC (c : Int) = true) → Kp [b] H H' → Bx H' b d → Q (.str (txt cs)) H'
section
variable {P : Program} {w : World} {K : PySem.W.Frag} {mg : Str → Option Value} {base : Heap}
theorem sc__law_stored_text : FnScope ["_law_box", "_law_many", "_law_signs", "_law_text", "_law_turn"] ["_law_box", "_law_many"] (defScope s__law_stored_text) := ⟨rfl, rfl, rfl, by decide +kernel, rfl, by decide +kernel, by decide +kernel⟩
theorem bn__law_stored_text : BindN "_law_stored_text" s__law_stored_text ["_law_box", "_law_many"] := fun _ _ _ _ _ _ us hl => match us, hl with | [_, _], _ => rfl
theorem b__law_stored_text (T : TX K mg) : Body P w K mg base "_law_stored_text" s__law_stored_text ["_law_box", "_law_many", "_law_signs", "_law_text", "_law_turn"] 2 spStored := by
  intro cdv A outer s H vs Q E h X hr
  obtain ⟨b, d, many, rfl, B, hm, q⟩ := h
  have D__law_draw : DefAt P w K mg base CX0 "_law_draw" 2 ["_law_box", "_law_many"] spDraw := D__law_draw T
  have es : PySem.Str.ofString "" = txt [] := by decide +kernel
  refine ⟨_, (pss_cons (ps_set (i := 2) sc__law_stored_text.nd rfl (Or.inl rfl) pe_str) (pss_cons (ps_set (i := 3) sc__law_stored_text.nd rfl (Or.inl rfl) pe_str) (pss_cons (ps_for PassesOwn.never rfl (pi_range1 rfl (T.free 4) (pa_cons (pv 1) pa_nil)) (pg_name (i := 4) sc__law_stored_text.nd rfl (Or.inl rfl)) (pss_one (ps_set (i := 3) sc__law_stored_text.nd rfl (Or.inl rfl) (pe_op (op_addU (K := K)) (pv 3) (pe_ix (ix_U (K := K)) (pv 2) (pe_callA D__law_draw hr pass0 (pa_cons (pv 0) (pa_cons (pe_callB (cr_len (K := K)) rfl (T.free 1) PySem.boot_len (pa_cons (pv 2) pa_nil)) pa_nil))) (fun _ _ => rfl)))))) (pss_one (ps_ret (pv 3)))))), ?_⟩
  walk_at "st"
  refine forR (fun i σ H' => ∃ (cs : List Nat) (v4 : Option V), σ = [some (.ref b), some (.int many), some (.str (PySem.Str.ofString " !\"#$&'()*+,-./0123456789:;<=>?@ABCDEFGHIJKLMNOPQRSTUVWXYZ[\\]^_`abcdefghijklmnopqrstuvwxyz{|}~\n")), some (.str (txt cs)), v4] ∧ cs.length = i ∧ (∀ c ∈ cs, goodC (c : Int) = true) ∧ Kp [b] H H' ∧ Bx H' b d)
    ⟨[], none, by rw [es]; rfl, rfl, by simp, Kp.refl, B⟩ ?_ ?_
  · rintro i σ H1 hi ⟨cs, v4, rfl, hl, hg, e1, B1⟩
    walk_at "st"
    rw [storelen]
    refine ⟨b, d, _, rfl, B1, by decide, fun j H2 h0 h1 e2 B2 => ?_⟩
    have hj : j.toNat < (PySem.Str.ofString " !\"#$&'()*+,-./0123456789:;<=>?@ABCDEFGHIJKLMNOPQRSTUVWXYZ[\\]^_`abcdefghijklmnopqrstuvwxyz{|}~\n").length := by rw [storelen]; omega
    refine c_ixS (by rw [storelen, sizeLine_eq]; decide) (atI_codes h0 (by omega)) ?_
    have hgood := storesigns _ (getD_mem _ j.toNat 0 hj)
    generalize (PySem.Str.ofString " !\"#$&'()*+,-./0123456789:;<=>?@ABCDEFGHIJKLMNOPQRSTUVWXYZ[\\]^_`abcdefghijklmnopqrstuvwxyz{|}~\n").cps.getD j.toNat 0 = c at hgood ⊢
    refine c_addS (by rw [txt_len, txt_one, txt_len, sizeLine_eq]; simp only [List.length_cons, List.length_nil]; omega) ?_
    rw [txt_one, txt_app]
    walk_at "st"
    refine ⟨cs ++ [c], _, rfl, by rw [List.length_append, hl]; rfl, fun z hz => ?_, e1.trans e2, B2⟩
    rcases List.mem_append.mp hz with h | h
    · exact hg z h
    · rw [List.mem_singleton.mp h]
      exact hgood
  · rintro σ H1 ⟨cs, v4, rfl, hl, hg, e1, B1⟩
    walk_at "st"
    exact q cs H1 (by omega) hg e1 B1
theorem D__law_stored_text (T : TX K mg) : DefAt P w K mg base CX0 "_law_stored_text" 3 ["_law_box", "_law_many"] spStored :=
  def_of T 7 18 sc__law_stored_text bn__law_stored_text (fun vs H Q E h => by obtain ⟨b, d, m, rfl, _⟩ := h; rfl) (b__law_stored_text T)
/-! what is said twice is the same -/
def saysD (xs : List Int) : PyData := if isPiece xs then .tuple [.int (xs.getD 1 0), .int (xs.getD 2 0), .int (xs.getD 3 0 * 256 + xs.getD 4 0), .str (txt ((codesOf xs).map Int.toNat))] else .none
theorem Said.dp {H : Hp} {v : V} {xs : List Int} (h : Said H v xs) : Dp K H v (saysD xs) := by
  unfold saysD
  rcases h with ⟨h, rfl⟩ | ⟨h, p, rfl, hp⟩
  · rw [if_neg h]; exact .non
  · rw [if_pos h]
    exact .tup (SqT.of hp) (.cons (.int _) (.cons (.int _) (.cons (.int _) (.cons (.str _) .nil))))
theorem codes_ok (xs : List Int) (h : Bytes xs) : PyData.strOk (txt ((codesOf xs).map Int.toNat)) = true := by
  unfold PyData.strOk txt
  rw [Array.all_eq_true']
  intro c hc
  have hc' : c ∈ (codesOf xs).map Int.toNat := by simpa using hc
  obtain ⟨z, hz, rfl⟩ := List.mem_map.mp hc'
  have := h.rng z (List.mem_of_mem_drop (List.mem_of_mem_take hz))
  exact decide_eq_true (by omega)
theorem says_shaped (xs : List Int) (h : Bytes xs) : SeqAt.shaped (saysD xs) = true := by
  unfold saysD
  split
  · simp [SeqAt.shaped, PyData.canLay0, PyData.canLayAll0, PyData.depth, PyData.depthAll, codes_ok xs h]
  · decide
theorem Said.kp {H H' : Hp} {v : V} {xs : List Int} (h : Said H v xs) (e : Kp [] H H') : Said H' v xs := by
  rcases h with h | ⟨h, p, hv, hp⟩
  · exact .inl h
  · exact .inr ⟨h, p, hv, e.at0 hp⟩
end
end K43



namespace K43
open PySem L2 Sa
theorem head_len (n : Int) (cs : List Nat) (many k : Nat) : (headOf n cs many k).length = 6 + (partOf cs k).length := by unfold headOf; simp; omega
theorem part_len (cs : List Nat) (k : Nat) : (partOf cs k).length ≤ 24 := by unfold partOf; rw [List.length_take]; omega
theorem block_len (n : Int) (cs : List Nat) (many k : Nat) : (blockOf n cs many k).length = 32 := by
  have h1 := head_len n cs many k
  have h2 := part_len cs k
  unfold blockOf
  rw [List.length_append, List.length_append, List.length_replicate, h1]
  simp only [List.length_cons, List.length_nil]
  omega
theorem block_eq (n : Int) (cs : List Nat) (many k : Nat) : blockOf n cs many k = 76 :: (k : Int) :: (many : Int) :: (n / 256) :: (n % 256) :: ((partOf cs k).length : Int) :: ((partOf cs k).map Int.ofNat ++ (List.replicate (25 - (partOf cs k).length) 0 ++ [76])) := by
  have h1 := head_len n cs many k
  have h2 := part_len cs k
  unfold blockOf
  rw [h1]
  have z : 31 - (6 + (partOf cs k).length) = 25 - (partOf cs k).length := by omega
  rw [z]
  unfold headOf
  simp
theorem block_piece {n : Int} {cs : List Nat} {many k : Nat} (hk : k < many) (hg : ∀ c ∈ cs, goodC (c : Int) = true) : isPiece (blockOf n cs many k) := by
  have h2 := part_len cs k
  have ml : ((partOf cs k).map Int.ofNat).length = (partOf cs k).length := List.length_map _
  refine ⟨by rw [block_eq]; rfl, ?_, ?_, ?_, ?_, ?_⟩
  · unfold blockOf
    rw [getD_app_r (by rw [List.length_append, List.length_replicate, head_len]; omega), List.length_append, List.length_replicate, head_len]
    have z : 31 - (6 + (partOf cs k).length + (31 - (6 + (partOf cs k).length))) = 0 := by omega
    rw [z]
    rfl
  · rw [block_eq]
    show (k : Int) < (many : Int)
    omega
  · rw [block_eq]
    show ((partOf cs k).length : Int) ≤ 24
    omega
  · unfold restOf
    have e5 : (blockOf n cs many k).getD 5 0 = ((partOf cs k).length : Int) := by rw [block_eq]; rfl
    rw [e5, Int.toNat_natCast]
    unfold blockOf
    rw [head_len, List.append_assoc, List.drop_left' (head_len n cs many k), List.take_left' (by rw [List.length_replicate])]
    rw [List.any_eq_false]
    intro x hx
    rw [(List.mem_replicate.mp hx).2]
    decide
  · unfold codesOf
    rw [block_eq]
    show (((partOf cs k).map Int.ofNat ++ (List.replicate (25 - (partOf cs k).length) 0 ++ [76])).take ((partOf cs k).length : Int).toNat).all goodC = true
    rw [Int.toNat_natCast, List.take_append_of_le_length (by omega), List.take_of_length_le (by omega)]
    rw [List.all_eq_true]
    intro c hc
    obtain ⟨z, hz, rfl⟩ := List.mem_map.mp hc
    exact hg z (List.mem_of_mem_drop (List.mem_of_mem_take hz))
theorem block_bytes {n : Int} {cs : List Nat} {many k : Nat} (h0 : 0 ≤ n) (h1 : n < 65536) (hk : k < many) (hm : many ≤ 255) (hg : ∀ c ∈ cs, goodC (c : Int) = true) : Bytes (blockOf n cs many k) := by
  refine ⟨block_len n cs many k, fun x hx => ?_⟩
  have h2 := part_len cs k
  rw [block_eq] at hx
  simp only [List.mem_cons, List.mem_append, List.mem_map, List.mem_replicate, List.not_mem_nil, or_false] at hx
  rcases hx with h | h | h | h | h | h | ⟨z, hz, h⟩ | ⟨_, h⟩ | h
  · omega
  · omega
  · omega
  · omega
  · omega
  · omega
  · have := goodC_rng (hg z (List.mem_of_mem_drop (List.mem_of_mem_take hz)))
    have e : Int.ofNat z = (z : Int) := rfl
    omega
  · omega
  · omega

end K43



namespace K43
open PySem L2 Sa
section
variable {P : Program} {w : World} {K : PySem.W.Frag} {mg : Str → Option Value} {base : Heap}
theorem sc_OutOfRange___init__ : FnScope ["self", "name"] ["self", "name"] (defScope s_OutOfRange___init__) := ⟨rfl, rfl, rfl, by decide +kernel, rfl, by decide +kernel, by decide +kernel⟩
theorem bn_OutOfRange___init__ : BindM "__init__" "OutOfRange.__init__" s_OutOfRange___init__ ["self", "name"] := fun _ _ _ _ _ _ us hl => match us, hl with | [_, _], _ => rfl
theorem b_oor (T : TX K mg) : BodyM P w K mg base "OutOfRange" "__init__" "OutOfRange.__init__" s_OutOfRange___init__ ["self", "name"] 1 (spInit K (He.ga K "OutOfRange") "name") := by
  intro cdv A outer s H vs Q E h X hr
  obtain ⟨a, v, rfl, ha, q⟩ := h
  refine ⟨_, (pss_one (ps_ost (pv 0) (pv 1))), ?_⟩
  have hc := T.oex 0
  walk_at "st"
  refine c_ost ?_
  walk_at "st"
  refine ⟨a, He.ga K "OutOfRange", rfl, hc, He.noat_ok (T.fact 30), .inl ⟨ha, fun dx h1 h2 => ?_⟩⟩
  exact q dx h1 h2
theorem E_OutOfRange (T : TX K mg) : ErrC P w K mg base "OutOfRange" "name" :=
  ⟨T.glo 19, T.oex 0, T.xfc 1, He.noat_ok (T.fact 30), _,
    meth_of T 8 20 sc_OutOfRange___init__ bn_OutOfRange___init__ (fun vs H Q E h => by obtain ⟨b, d, rfl, _⟩ := h; rfl) (b_oor T)⟩
end
end K43



namespace K43
open PySem L2 Sa
section
variable {P : Program} {w : World} {K : PySem.W.Frag} {mg : Str → Option Value} {base : Heap}
theorem sc__piece : FnScope ["place", "many", "number", "text", "codes", "head", "sign"] ["place", "many", "number", "text"] (defScope s__piece) := ⟨rfl, rfl, rfl, by decide +kernel, rfl, by decide +kernel, by decide +kernel⟩
theorem bn__piece : BindN "_piece" s__piece ["place", "many", "number", "text"] := fun _ _ _ _ _ _ us hl => match us, hl with | [_, _, _, _], _ => rfl
/-- a block that is made of a piece's parts -/
def pieceOf (place many n : Int) (ps : List Nat) : List Int := [76, place, many, n / 256, n % 256, (ps.length : Int)] ++ ps.map Int.ofNat ++ List.replicate (25 - ps.length) 0 ++ [76]
theorem pieceOf_block (n : Int) (cs : List Nat) (many k : Nat) : pieceOf (k : Int) (many : Int) n (partOf cs k) = blockOf n cs many k := by
  rw [block_eq]
  unfold pieceOf
  simp
def spPiece : Sp := fun vs H Q _ => ∃ (place many n : Int) (ps : List Nat), vs = [.int place, .int many, .int n, .str (txt ps)] ∧ 0 ≤ n ∧ ps.length ≤ 24 ∧ ∀ p H', H p = none → Kp [] H H' → H' p = some (.lst ((pieceOf place many n ps).map V.int)) → Q (.ref p) H'
theorem b__piece (T : TX K mg) : Body P w K mg base "_piece" s__piece ["place", "many", "number", "text", "codes", "head", "sign"] 1 spPiece := by
  intro cdv A outer s H vs Q E h X hr
  obtain ⟨place, many, n, ps, rfl, hn, hl, q⟩ := h
  refine ⟨_, (pss_cons (ps_setLc (i := 4) (own := [("sign", 6)]) rfl sc__piece.nd rfl rfl (sw_true rfl rfl rfl (by decide +kernel)) (pi_str (pv 3)) (blkOk_by (N := ["place", "many", "number", "text", "codes", "head", "sign"]) (sc := defScope s__piece) (by decide +kernel)) (fun _ _ _ _ _ => (pg_name (i := 6) sc__piece.nd rfl (Or.inl rfl))) (fun _ _ _ _ _ => pts_nil) (fun _ _ _ _ _ => (pe_callB cr_ord rfl (T.free 15) (by decide +kernel) (pa_cons (pv 6) pa_nil)))) (pss_cons (ps_set (i := 5) sc__piece.nd rfl (Or.inl rfl) (pe_lst (pa_cons (pe_gInt (T.int 13)) (pa_cons (pv 0) (pa_cons (pv 1) (pa_cons (pe_op op_divU (pv 2) pe_int) (pa_cons (pe_op op_bandU (pv 2) pe_int) (pa_cons (pe_callB (cr_len (K := K)) rfl (T.free 1) PySem.boot_len (pa_cons (pv 4) pa_nil)) pa_nil)))))))) (pss_one (ps_ret (pe_op (op_addU (K := K)) (pe_op (op_addU (K := K)) (pe_op (op_addU (K := K)) (pv 5) (pv 4)) (pe_op (op_mulU (K := K)) (pe_lst (pa_cons pe_int pa_nil)) (pe_op (op_addU (K := K)) (pe_op op_subU (pe_gInt (T.int 12)) (pe_callB (cr_len (K := K)) rfl (T.free 1) PySem.boot_len (pa_cons (pv 4) pa_nil))) pe_int))) (pe_lst (pa_cons (pe_gInt (T.int 13)) pa_nil))))))), ?_⟩
  walk_at "st"
  refine lcS_map (fun c : Nat => V.int (c : Int)) (fun _ => true) (by rw [txt_len]; omega) (fun c H' R S hc e k1 k2 => ?_) (fun Dl H1 hD e hacc => ?_)
  · walk_at "st"
    refine ⟨rfl, ?_⟩
    walk_at "st"
    exact k1 rfl _ Kp.refl
  have ef : ((ps.filter fun _ => true).map fun c : Nat => V.int (c : Int)) = (ps.map Int.ofNat).map V.int := by
    have e0 : ps.filter (fun _ => true) = ps := by simp
    rw [e0, List.map_map]
    rfl
  rw [txt_cps, ef] at hacc
  walk_at "st"
  have el : (((ps.map Int.ofNat).map V.int).length : Int) = (ps.length : Int) := by simp
  rw [el, bitAnd_255 hn]
  walk_at "nw"
  intro p2 H2 N2
  walk_at "st"
  refine c_addL (xs := [V.int 76, .int place, .int many, .int (n / 256), .int (n % 256), .int (ps.length : Int)]) (ys := (ps.map Int.ofNat).map V.int) N2.at_ (N2.keep hacc) (by rw [sizeLine_eq]; simp; omega) fun p3 H3 N3 => ?_
  walk_at "st"
  walk_at "nw"
  intro p4 H4 N4
  walk_at "st"
  have el2 : (24 : Int) - (((ps.map Int.ofNat).map V.int).length : Int) + 1 = ((25 - ps.length : Nat) : Int) := by rw [el]; omega
  rw [el2]
  refine c_mulL N4.at_ (by omega) (by omega) (by rw [sizeLine_eq]; simp; omega) fun p5 H5 N5 => ?_
  have er : (List.replicate ((25 - ps.length : Nat) : Int).toNat [V.int 0]).flatten = (List.replicate (25 - ps.length) (0 : Int)).map V.int := by rw [Int.toNat_natCast]; exact rep_ints _ _
  rw [er] at N5
  have k3 := N5.keep (N4.keep N3.at_)
  refine c_addL k3 N5.at_ (by rw [sizeLine_eq]; simp; omega) fun p6 H6 N6 => ?_
  walk_at "st"
  walk_at "nw"
  intro p7 H7 N7
  refine c_addL (N7.keep N6.at_) N7.at_ (by rw [sizeLine_eq]; simp; omega) fun p8 H8 N8 => ?_
  have kk : Kp [] H H7 := e.trans (N2.kp.trans (N3.kp.trans (N4.kp.trans (N5.kp.trans (N6.kp.trans N7.kp)))))
  refine q p8 H8 (free0 kk N8.fr) (kk.trans N8.kp) ?_
  rw [N8.at_]
  congr 2
  unfold pieceOf
  simp
theorem D__piece (T : TX K mg) : DefAt P w K mg base CX0 "_piece" 2 ["place", "many", "number", "text"] spPiece :=
  def_of T 9 21 sc__piece bn__piece (fun vs H Q E h => by obtain ⟨b, d, _, _, rfl, _⟩ := h; rfl) (b__piece T)
theorem sc_encode_record : FnScope ["number", "text", "pieces", "place", "piece", "at"] ["number", "text"] (defScope s_encode_record) := ⟨rfl, rfl, rfl, by decide +kernel, rfl, by decide +kernel, by decide +kernel⟩
theorem bn_encode_record : BindN "encode_record" s_encode_record ["number", "text"] := fun _ _ _ _ _ _ us hl => match us, hl with | [_, _], _ => rfl
def spEncode (K : PySem.W.Frag) : Sp := fun vs H Q E => ∃ (n : Int) (cs : List Nat), vs = [.int n, .str (txt cs)] ∧ 0 ≤ n ∧ cs.length ≤ 100000 ∧
  (manyOf cs ≤ 255 → ∀ (p : Addr) (qs : List Addr) (H' : Hp), Kp [] H H' → H p = none → H' p = some (.lst (qs.map V.ref)) → qs.length = manyOf cs →
    (∀ k q, qs[k]? = some q → H q = none ∧ H' q = some (.lst ((blockOf n cs (manyOf cs) k).map V.int))) → Q (.ref p) H') ∧
  (255 < manyOf cs → ∀ (d : Addr) (H' : Hp), Kp [] H H' → H' d = some (.xd [("name", .str "text")]) → E (.ref (He.ga K "OutOfRange")) (some d) H')
theorem part_cut (cs : List Nat) (k : Nat) : cutS (txt cs) (some ((0 : Int) + (k : Nat) * 24)) (some ((0 : Int) + (k : Nat) * 24 + 24)) = txt (partOf cs k) := by
  rw [cutS_txt, sIx_of (by omega), sIx_of (by omega)]
  congr 1
  unfold partOf
  have z1 : ((0 : Int) + (k : Nat) * 24).toNat = 24 * k := by omega
  have z2 : ((0 : Int) + (k : Nat) * 24 + 24).toNat = 24 * k + 24 := by omega
  rw [z1, z2]
  by_cases hc : 24 * k ≤ cs.length
  · rw [Nat.min_eq_left hc]
    by_cases hd : 24 * k + 24 ≤ cs.length
    · rw [Nat.min_eq_left hd]
      congr 1
      omega
    · rw [Nat.min_eq_right (by omega), List.take_of_length_le (by rw [List.length_drop]; omega), List.take_of_length_le (by rw [List.length_drop]; omega)]
  · rw [Nat.min_eq_right (by omega), Nat.min_eq_right (by omega)]
    rw [List.drop_of_length_le (Nat.le_refl _), List.drop_of_length_le (by omega)]
    simp
theorem b_encode_record (T : TX K mg) : BodyX P w K mg base "encode_record" s_encode_record ["number", "text", "pieces", "place", "piece", "at"] 3 (spEncode K) := by
  intro cdv A outer s H vs Q E h X hr tk
  obtain ⟨n, cs, rfl, hn, hl, q1, q2⟩ := h
  have D__piece : DefAt P w K mg base CX0 "_piece" 2 ["place", "many", "number", "text"] spPiece := D__piece T
  have E_OutOfRange : ErrC P w K mg base "OutOfRange" "name" := E_OutOfRange T
  refine ⟨_, (Evl.pss_cut (ps_set (i := 2) sc_encode_record.nd rfl (Or.inr rfl) (pe_ifExp (pt_tru (K := K) (pv 1)) (pe_lc (own := [("at", 5)]) rfl sc_encode_record.nd (pi_range3 rfl (T.free 4) (pa_cons pe_int (pa_cons (pe_callB (cr_len (K := K)) rfl (T.free 1) PySem.boot_len (pa_cons (pv 1) pa_nil)) (pa_cons (pe_gInt (T.int 12)) pa_nil)))) (blkOk_by (N := ["number", "text", "pieces", "place", "piece", "at"]) (sc := defScope s_encode_record) (by decide +kernel)) (fun _ _ _ _ _ => (pg_name (i := 5) sc_encode_record.nd rfl (Or.inl rfl))) (fun _ _ _ _ _ => pts_nil) (fun _ _ _ _ _ => (pe_slice (sl_U (K := K)) (pv 1) (po_some (pv 5)) (po_some (pe_op (op_addU (K := K)) (pv 5) (pe_gInt (T.int 12))))))) (pe_lst (pa_cons pe_str pa_nil)))) (pss_cons (ps_if (pt_cmpR op_gtU (pe_callB (cr_len (K := K)) rfl (T.free 1) PySem.boot_len (pa_cons (pv 2) pa_nil)) (pe_gInt (T.int 23)) (nomark _)) (pss_one (ps_raiseE (K := K) E_OutOfRange hr tk (pa_cons pe_str pa_nil))) pss_nil) (pss_one (ps_ret (pe_lc (own := [("place", 3), ("piece", 4)]) rfl sc_encode_record.nd (pi_enumU (K := K) rfl (T.free 22) (pa_cons (pv 2) pa_nil)) (blkOk_by (N := ["number", "text", "pieces", "place", "piece", "at"]) (sc := defScope s_encode_record) (by decide +kernel)) (fun _ _ _ _ _ => (pg_tupU (K := K) (n := 2) rfl (pgs_cons (pg_name (i := 3) sc_encode_record.nd rfl (Or.inl rfl)) (pgs_cons (pg_name (i := 4) sc_encode_record.nd rfl (Or.inl rfl)) pgs_nil)))) (fun _ _ _ _ _ => pts_nil) (fun _ _ _ _ _ => (pe_callA D__piece hr pass0 (pa_cons (pv 3) (pa_cons (pe_callB (cr_len (K := K)) rfl (T.free 1) PySem.boot_len (pa_cons (pv 2) pa_nil)) (pa_cons (pv 0) (pa_cons (pv 4) pa_nil))))))))))), ?_⟩
  walk_at "st"
  refine c_cut (fun σ' H' => ∃ p, σ' = [some (.int n), some (.str (txt cs)), some (.ref p), none, none, none] ∧ Kp [] H H' ∧ H' p = some (.lst ((List.range (manyOf cs)).map fun k => V.str (txt (partOf cs k))))) ?_ ?_
  · have lt : (txt cs).length = cs.length := txt_len cs
    walk_at "st"
    refine c_truS (by rw [lt, sizeLine_eq]; omega) ?_
    refine c_iteB (fun h => ?_) (fun h => ?_)
    · have hne : cs.length ≠ 0 := by rw [lt] at h; simpa using h
      walk_at "st"
      rw [lt]
      refine c_r3C (len := cs.length) (c := 24) (by decide) (by decide) (by omega) ?_
      have em : (((cs.length : Int) + 24 - 1) / 24).toNat = manyOf cs := by unfold manyOf; omega
      rw [em]
      refine lcQ_map itn_c (fun k => V.str (txt (partOf cs k))) (by unfold manyOf; omega) (fun _ _ => trivial) (fun i x H' H'' R S hi e y k => ?_) (fun Dl H1 hD e hacc => ?_)
      · obtain ⟨rfl, rfl⟩ := y
        walk_at "st"
        refine ⟨rfl, ?_⟩
        walk_at "st"
        refine c_slS (by rw [lt, sizeLine_eq]; omega) ?_
        rw [part_cut]
        exact k _ Kp.refl
      · walk_at "st"
        exact ⟨Dl, rfl, e, hacc⟩
    · have h0 : cs = [] := by rw [lt] at h; simp at h; exact h
      walk_at "st"
      walk_at "nw"
      intro p H1 N
      walk_at "st"
      refine ⟨p, rfl, N.kp, ?_⟩
      rw [N.at_, h0]
      rfl
  · rintro _ H1 ⟨p, rfl, e1, h1⟩
    have hm : ((List.range (manyOf cs)).map fun k => V.str (txt (partOf cs k))).length = manyOf cs := by simp
    have hb : manyOf cs ≤ 5000 := by unfold manyOf; omega
    walk_at "st"
    rw [hm]
    refine c_ite (fun h => ?_) (fun h => ?_)
    · walk_at "st"
      refine c_err fun d H2 N => ?_
      exact q2 (by omega) d H2 (e1.trans N.kp) N.at_
    · walk_at "st"
      refine ⟨p, _, rfl, SqL.of h1, ?_⟩
      refine lcQ_new (itn_e (ys := List.range (manyOf cs)) (u := fun k => V.str (txt (partOf cs k)))) (fun k => .lst ((blockOf n cs (manyOf cs) k).map V.int)) (by rw [List.length_range]; omega) (fun H' e => SqL.of (e.at0 h1)) (fun i x H' H'' R S hi e y k => ?_) (fun Dl qs H2 hD e hacc hq hqs => ?_)
      · obtain ⟨Tp, y, rfl, N, hy⟩ := y
        rw [List.length_range] at hi
        have hy2 : y = i := by
          rw [List.getElem?_range hi] at hy
          exact (Option.some.inj hy).symm
        subst hy2
        walk_at "st"
        refine ⟨rfl, ?_⟩
        walk_at "st"
        rw [hm]
        refine ⟨_, _, _, partOf cs y, rfl, hn, part_len cs y, fun q H4 hq e4 h4 => ?_⟩
        rw [pieceOf_block] at h4
        exact k q H4 hq e4 h4
      · rw [List.length_range] at hq
        exact q1 (by omega) Dl qs H2 (e1.trans e) (free0 e1 hD) hacc hq fun k z hz => ⟨free0 e1 (hqs k z hz).1, (hqs k z hz).2⟩
theorem D_encode_record (T : TX K mg) : DefAt P w K mg base (L2.CX P w) "encode_record" 4 ["number", "text"] (spEncode K) :=
  def_ofX T 10 24 sc_encode_record bn_encode_record (fun vs H Q E h => by obtain ⟨b, d, rfl, _⟩ := h; rfl) (b_encode_record T)
end
end K43



namespace K43
open PySem L2 Sa
section
variable {P : Program} {w : World} {K : PySem.W.Frag} {mg : Str → Option Value} {base : Heap}
theorem sc__law_encoded : FnScope ["_law_number", "_law_text", "e"] ["_law_number", "_law_text"] (defScope s__law_encoded) := ⟨rfl, rfl, rfl, by decide +kernel, rfl, by decide +kernel, by decide +kernel⟩
theorem bn__law_encoded : BindN "_law_encoded" s__law_encoded ["_law_number", "_law_text"] := fun _ _ _ _ _ _ us hl => match us, hl with | [_, _], _ => rfl
def spEncoded (K : PySem.W.Frag) : Sp := fun vs H Q _ => ∃ (n : Int) (cs : List Nat), vs = [.int n, .str (txt cs)] ∧ 0 ≤ n ∧ cs.length ≤ 100000 ∧
  (manyOf cs ≤ 255 → ∀ (p : Addr) (qs : List Addr) (H' : Hp), Kp [] H H' → H p = none → H' p = some (.lst (qs.map V.ref)) → qs.length = manyOf cs →
    (∀ k q, qs[k]? = some q → H q = none ∧ H' q = some (.lst ((blockOf n cs (manyOf cs) k).map V.int))) → Q (.ref p) H') ∧
  (255 < manyOf cs → ∀ (p : Addr) (H' : Hp), Kp [] H H' → H' p = some (.tup [.str "refused", .str "text"]) → Q (.ref p) H')
theorem b__law_encoded (T : TX K mg) : Body P w K mg base "_law_encoded" s__law_encoded ["_law_number", "_law_text", "e"] 4 (spEncoded K) := by
  intro cdv A outer s H vs Q E h X hr
  obtain ⟨n, cs, rfl, hn, hl, q1, q2⟩ := h
  have D_encode_record : DefAt P w K mg base (L2.CX P w) "encode_record" 4 ["number", "text"] (spEncode K) := D_encode_record T
  have E_OutOfRange : ErrC P w K mg base "OutOfRange" "name" := E_OutOfRange T
  refine ⟨_, (pss_one (ps_try_as (i := 2) rfl rfl sc__law_encoded.nd rfl rfl (names_glo (T.glo 19)) takes_never (fun W pn xe tk1 po1 => (pss_one (ps_ret (pe_callX D_encode_record hr tk1 (pa_cons (pv 0) (pa_cons (pv 1) pa_nil)))))) (fun a oe cls d pn hz hf => (pss_one (ps_ret (pe_tup (pa_cons pe_str (pa_cons (pe_xf E_OutOfRange.xf E_OutOfRange.no hz hf (pv 2)) pa_nil)))))))), ?_⟩
  walk_at "st"
  refine ⟨n, cs, rfl, hn, hl, q1, fun hm d H1 e1 hd => ?_⟩
  refine c_caught (He.exm_ok (T.fact 31)) fun a ha => ?_
  walk_at "st"
  refine ⟨rfl, rfl, d, _, _, rfl, hd, rfl, ?_⟩
  walk_at "st"
  walk_at "nw"
  intro p H2 N
  exact q2 hm p H2 (e1.trans N.kp) N.at_
theorem D__law_encoded (T : TX K mg) : DefAt P w K mg base CX0 "_law_encoded" 5 ["_law_number", "_law_text"] (spEncoded K) :=
  def_of T 11 25 sc__law_encoded bn__law_encoded (fun vs H Q E h => by obtain ⟨b, d, rfl, _⟩ := h; rfl) (b__law_encoded T)
end
end K43



namespace K43
open PySem L2 Sa
theorem block_says {n : Int} {cs : List Nat} {many k : Nat} : (blockOf n cs many k).getD 1 0 = (k : Int) ∧ (blockOf n cs many k).getD 2 0 = (many : Int) ∧ (blockOf n cs many k).getD 3 0 * 256 + (blockOf n cs many k).getD 4 0 = n ∧ (codesOf (blockOf n cs many k)).map Int.toNat = partOf cs k := by
  have h5 : (blockOf n cs many k).getD 5 0 = ((partOf cs k).length : Int) := by rw [block_eq]; rfl
  refine ⟨by rw [block_eq]; rfl, by rw [block_eq]; rfl, ?_, ?_⟩
  · have h3 : (blockOf n cs many k).getD 3 0 = n / 256 := by rw [block_eq]; rfl
    have h4 : (blockOf n cs many k).getD 4 0 = n % 256 := by rw [block_eq]; rfl
    rw [h3, h4]
    omega
  · unfold codesOf
    rw [h5, block_eq, Int.toNat_natCast]
    show ((((partOf cs k).map Int.ofNat ++ (List.replicate (25 - (partOf cs k).length) 0 ++ [76]))).take (partOf cs k).length).map Int.toNat = _
    rw [List.take_left' (by simp), List.map_map]
    simp [Function.comp_def]
def blocksD (n : Int) (cs : List Nat) (many : Nat) : PyData := .list ((List.range many).map fun k => .list ((blockOf n cs many k).map PyData.int))
theorem dpAll_blocks {K : PySem.W.Frag} {H : Hp} {bl : Nat → List Int} : ∀ (qs : List Addr) (m : Nat), (∀ k q, qs[k]? = some q → H q = some (.lst ((bl (m + k)).map V.int))) →
    DpAll K H (qs.map V.ref) ((List.range' m qs.length).map fun k => PyData.list ((bl k).map PyData.int))
  | [], m, _ => .nil
  | q :: r, m, h => by
    rw [List.map_cons, List.length_cons, List.range'_succ, List.map_cons]
    refine .cons (.lst (SqL.of (h 0 q rfl)) (dpAll_ints _)) (dpAll_blocks r (m + 1) fun k z hz => ?_)
    have := h (k + 1) z hz
    rw [show m + 1 + k = m + (k + 1) by omega]
    exact this
theorem dp_blocks {K : PySem.W.Frag} {H : Hp} {p : Addr} {qs : List Addr} {n : Int} {cs : List Nat} {many : Nat} (hp : H p = some (.lst (qs.map V.ref))) (hl : qs.length = many) (h : ∀ k q, qs[k]? = some q → H q = some (.lst ((blockOf n cs many k).map V.int))) : Dp K H (.ref p) (blocksD n cs many) := by
  have := dpAll_blocks (K := K) (bl := blockOf n cs many) qs 0 (fun k q hq => by rw [Nat.zero_add]; exact h k q hq)
  rw [hl, ← List.range_eq_range'] at this
  exact .lst (SqL.of hp) this
theorem lay_ints : ∀ ns : List Int, PyData.canLayAll0 (ns.map PyData.int) = true
  | [] => rfl
  | n :: r => by simp only [List.map_cons, PyData.canLayAll0, PyData.canLay0, Bool.true_and]; exact lay_ints r
theorem dep_ints : ∀ ns : List Int, PyData.depthAll (ns.map PyData.int) = 0
  | [] => rfl
  | n :: r => by simp [PyData.depthAll, PyData.depth, dep_ints r]
theorem lay_rows : ∀ xss : List (List Int), PyData.canLayAll0 (xss.map fun xs => PyData.list (xs.map PyData.int)) = true
  | [] => rfl
  | n :: r => by simp only [List.map_cons, PyData.canLayAll0, PyData.canLay0, lay_ints, Bool.true_and]; exact lay_rows r
theorem dep_rows : ∀ xss : List (List Int), PyData.depthAll (xss.map fun xs => PyData.list (xs.map PyData.int)) ≤ 1
  | [] => by decide
  | n :: r => by
    have := dep_rows r
    simp only [List.map_cons, PyData.depthAll, PyData.depth, dep_ints]
    omega
theorem blocks_shaped (n : Int) (cs : List Nat) (many : Nat) : SeqAt.shaped (blocksD n cs many) = true := by
  have e : ((List.range many).map fun k => PyData.list ((blockOf n cs many k).map PyData.int)) = ((List.range many).map fun k => blockOf n cs many k).map fun xs => PyData.list (xs.map PyData.int) := by rw [List.map_map]; rfl
  unfold blocksD
  rw [e]
  have := dep_rows ((List.range many).map fun k => blockOf n cs many k)
  simp only [SeqAt.shaped, PyData.canLay0, PyData.depth, Bool.and_eq_true, decide_eq_true_eq]
  exact ⟨lay_rows _, decide_eq_true (Nat.le_trans (Nat.succ_le_succ this) (show 2 ≤ 64 by decide))⟩
def toldD (k many : Nat) (n : Int) (ps : List Nat) : PyData := .tuple [.int k, .int many, .int n, .str (txt ps)]
theorem told_shaped {k many : Nat} {n : Int} {ps : List Nat} (h : okS (txt ps) = true) : SeqAt.shaped (toldD k many n ps) = true := by
  have h' : PyData.strOk (txt ps) = true := h
  simp [toldD, SeqAt.shaped, PyData.canLay0, PyData.canLayAll0, PyData.depth, PyData.depthAll, h']
theorem good_ok {cs : List Nat} (h : ∀ c ∈ cs, goodC (c : Int) = true) : okS (txt cs) = true := okS_iff.mpr fun c hc => by
  rw [txt_cps] at hc
  have := goodC_rng (h c hc)
  omega
theorem part_good {cs : List Nat} {k : Nat} (h : ∀ c ∈ cs, goodC (c : Int) = true) : ∀ c ∈ partOf cs k, goodC (c : Int) = true := fun c hc => h c (List.mem_of_mem_drop (List.mem_of_mem_take hc))
section
variable {P : Program} {w : World} {K : PySem.W.Frag} {mg : Str → Option Value} {base : Heap}
theorem sc_law : FnScope ["_law_script", "_law_box", "_law_turn", "_law_number", "_law_many", "_law_text", "_law_due", "_law_blocks", "_law_k", "_law_told", "_law_sign"] ["_law_script"] (defScope s_law) := ⟨rfl, rfl, rfl, by decide +kernel, rfl, by decide +kernel, by decide +kernel⟩
theorem bn_law : BindN "law" s_law ["_law_script"] := fun _ _ _ _ _ _ us hl => match us, hl with | [_], _ => rfl
def spLaw (K : PySem.W.Frag) : Sp := fun vs H Q _ => ∃ (a : Addr) (ns : List Int), vs = [.ref a] ∧ SqL K H a (ns.map V.int) ∧ ∀ H', Q (.bl true) H'
theorem b_law (T : TX K mg) : Body P w K mg base "law" s_law ["_law_script", "_law_box", "_law_turn", "_law_number", "_law_many", "_law_text", "_law_due", "_law_blocks", "_law_k", "_law_told", "_law_sign"] 5 (spLaw K) := by
  intro cdv A outer s H vs Q E h X hr
  obtain ⟨a, ns, rfl, hs, q⟩ := h
  have D__law_digits : DefAt P w K mg base CX0 "_law_digits" 3 ["_law_script", "_law_first", "_law_last"] (spDigits K) := D__law_digits T
  have D__law_draw : DefAt P w K mg base CX0 "_law_draw" 2 ["_law_box", "_law_many"] spDraw := D__law_draw T
  have D__law_stored_text : DefAt P w K mg base CX0 "_law_stored_text" 3 ["_law_box", "_law_many"] spStored := D__law_stored_text T
  have D__law_pieces : DefAt P w K mg base CX0 "_law_pieces" 2 ["_law_number", "_law_text"] (spPieces K) := D__law_pieces T
  have D__law_encoded : DefAt P w K mg base CX0 "_law_encoded" 5 ["_law_number", "_law_text"] (spEncoded K) := D__law_encoded T
  have D_decode_piece : DefAt P w K mg base CX0 "decode_piece" 3 ["block"] (spSays K) := D_decode_piece T
  refine ⟨_, (pss_cons (ps_set (i := 1) sc_law.nd rfl (Or.inl rfl) (pe_lst (pa_cons (pe_callA D__law_digits hr pass0 (pa_cons (pv 0) (pa_cons pe_int (pa_cons pe_int pa_nil)))) (pa_cons pe_int pa_nil)))) (pss_cons (ps_for PassesOwn.never rfl (pi_range1 rfl (T.free 4) (pa_cons pe_int pa_nil)) (pg_name (i := 2) sc_law.nd rfl (Or.inl rfl)) (pss_cons (ps_set (i := 3) sc_law.nd rfl (Or.inl rfl) (pe_op op_modU (pe_callTy cr_int rfl (T.free 0) (by decide +kernel) (pa_cons (pe_op (op_addU (K := K)) (pe_op (op_mulU (K := K)) (pe_callA D__law_draw hr pass0 (pa_cons (pv 1) (pa_cons pe_int pa_nil))) pe_int) (pe_callA D__law_draw hr pass0 (pa_cons (pv 1) (pa_cons pe_int pa_nil)))) pa_nil)) pe_int)) (pss_cons (ps_set (i := 4) sc_law.nd rfl (Or.inl rfl) (pe_ix (ix_U (K := K)) (pe_lst (pa_cons (pe_op (op_mulU (K := K)) pe_int (pe_callA D__law_draw hr pass0 (pa_cons (pv 1) (pa_cons pe_int pa_nil)))) (pa_cons (pe_callA D__law_draw hr pass0 (pa_cons (pv 1) (pa_cons pe_int pa_nil))) pa_nil))) (pe_callA D__law_draw hr pass0 (pa_cons (pv 1) (pa_cons pe_int pa_nil))) (fun _ _ => rfl))) (pss_cons (ps_set (i := 5) sc_law.nd rfl (Or.inl rfl) (pe_callA D__law_stored_text hr pass0 (pa_cons (pv 1) (pa_cons (pv 4) pa_nil)))) (pss_cons (ps_set (i := 6) sc_law.nd rfl (Or.inl rfl) (pe_callA D__law_pieces hr pass0 (pa_cons (pv 3) (pa_cons (pv 5) pa_nil)))) (pss_cons (ps_set (i := 7) sc_law.nd rfl (Or.inl rfl) (pe_callA D__law_encoded hr pass0 (pa_cons (pv 3) (pa_cons (pv 5) pa_nil)))) (pss_cons (ps_if (PW.pt (pw_or (pt_not (pt_tru (K := K) (pe_callB (cr_isi (K := K)) rfl (T.free 26) (by decide +kernel) (pa_cons (pv 7) (pa_cons (pe_bltn (v := .ty "list") rfl (T.free 28) (by decide +kernel) rfl) pa_nil))))) (pw_or1 (pt_cmpR (op_neU (K := K) hr.units) (pv 7) (pv 6) (nomark _))))) (pss_one (ps_ret pe_bl)) pss_nil) (pss_one (ps_for PassesOwn.never rfl (pi_range1 rfl (T.free 4) (pa_cons (pe_callB (cr_len (K := K)) rfl (T.free 1) PySem.boot_len (pa_cons (pv 6) pa_nil)) pa_nil)) (pg_name (i := 8) sc_law.nd rfl (Or.inl rfl)) (pss_cons (ps_set (i := 9) sc_law.nd rfl (Or.inl rfl) (pe_callA D_decode_piece hr pass0 (pa_cons (pe_ix (ix_U (K := K)) (pv 7) (pv 8) (fun _ _ => rfl)) pa_nil))) (pss_one (ps_if (PW.pt (pw_or (pt_not (pt_tru (K := K) (pe_callB (cr_isi (K := K)) rfl (T.free 26) (by decide +kernel) (pa_cons (pv 9) (pa_cons (pe_bltn (v := .ty "tuple") rfl (T.free 27) (by decide +kernel) rfl) pa_nil))))) (pw_or1 (pt_cmpR (op_neU (K := K) hr.units) (pv 9) (pe_tup (pa_cons (pv 8) (pa_cons (pe_callB (cr_len (K := K)) rfl (T.free 1) PySem.boot_len (pa_cons (pv 6) pa_nil)) (pa_cons (pv 3) (pa_cons (pe_slice (sl_U (K := K)) (pv 5) (po_some (pe_op (op_mulU (K := K)) pe_int (pv 8))) (po_some (pe_op (op_addU (K := K)) (pe_op (op_mulU (K := K)) pe_int (pv 8)) pe_int))) pa_nil))))) (nomark _))))) (pss_one (ps_ret pe_bl)) pss_nil)))))))))))) (pss_cons (ps_set (i := 10) sc_law.nd rfl (Or.inl rfl) (pe_callA D__law_stored_text hr pass0 (pa_cons (pv 1) (pa_cons pe_int pa_nil)))) (pss_cons (ps_if (pt_cmpR (op_neU (K := K) hr.units) (pe_callA D__law_encoded hr pass0 (pa_cons pe_int (pa_cons (pe_op (op_mulU (K := K)) (pv 10) (pe_op (op_addU (K := K)) pe_int (pe_callA D__law_draw hr pass0 (pa_cons (pv 1) (pa_cons pe_int pa_nil))))) pa_nil))) (pe_tup (pa_cons pe_str (pa_cons pe_str pa_nil))) (nomark _)) (pss_one (ps_ret pe_bl)) pss_nil) (pss_one (ps_ret (pe_and (pe_cmpR (op_eqU (K := K) hr.units) (pe_callA D__law_encoded hr pass0 (pa_cons pe_int (pa_cons (pe_op (op_mulU (K := K)) (pv 10) pe_int) pa_nil))) (pe_callA D__law_pieces hr pass0 (pa_cons pe_int (pa_cons (pe_op (op_mulU (K := K)) (pv 10) pe_int) pa_nil))) (nomark _)) (pe_one (pe_cmpR (op_eqU (K := K) hr.units) (pe_tup (pa_cons (pe_gInt (T.int 12)) (pa_cons (pe_gInt (T.int 23)) pa_nil))) (pe_tup (pa_cons pe_int (pa_cons pe_int pa_nil))) (nomark _)))))))))), ?_⟩
  walk_at "st"
  refine ⟨a, ns, rfl, hs, fun d ds hd => ?_⟩
  walk_at "st"
  walk_at "nw"
  intro b H1 N1
  have B1 : Bx H1 b d := ⟨0, ds, N1.at_, N1.keep upd_same, by decide⟩
  walk_at "st"
  refine forR (fun i σ H' => ∃ (v2 v3 v4 v5 v6 v7 v8 v9 v10 : Option V), σ = [some (.ref a), some (.ref b), v2, v3, v4, v5, v6, v7, v8, v9, v10] ∧ Bx H' b d) ⟨_, _, _, _, _, _, _, _, _, rfl, B1⟩ ?_ ?_
  · rintro i σ H2 hi ⟨v2, v3, v4, v5, v6, v7, v8, v9, v10, rfl, B2⟩
    walk_at "st"
    refine ⟨b, d, _, rfl, B2, by decide, fun r1 H3 h1 h1' _ B3 => ?_⟩
    walk_at "st"
    refine ⟨b, d, _, rfl, B3, by decide, fun r2 H4 h2 h2' _ B4 => ?_⟩
    walk_at "st"
    have n0 : 0 ≤ (r1 * 1000 + r2) % 65536 := by omega
    have n1 : (r1 * 1000 + r2) % 65536 < 65536 := by omega
    generalize (r1 * 1000 + r2) % 65536 = n at n0 n1 ⊢
    refine ⟨b, d, _, rfl, B4, by decide, fun r3 H5 h3 h3' _ B5 => ?_⟩
    walk_at "st"
    refine ⟨b, d, _, rfl, B5, by decide, fun r4 H6 h4 h4' _ B6 => ?_⟩
    walk_at "st"
    walk_at "nw"
    intro p1 H7 N7
    walk_at "st"
    refine ⟨b, d, _, rfl, B6.nw N7, by decide, fun r5 H8 h5 h5' e8 B8 => ?_⟩
    refine c_pickM (u := V.int) [24 * r3, r4] (B6.pick N7 e8) h5 h5' fun m hm => ?_
    have hm2 : 0 ≤ m ∧ m ≤ 100 := by
      simp only [List.mem_cons, List.not_mem_nil, or_false] at hm
      omega
    have em : m = ((m.toNat : Nat) : Int) := by omega
    walk_at "st"
    refine ⟨b, d, m.toNat, by rw [← em], B8, by omega, fun cs H9 hl hg e9 B9 => ?_⟩
    walk_at "st"
    have mb : 1 ≤ manyOf cs ∧ manyOf cs ≤ 5 := by unfold manyOf; omega
    refine ⟨n, cs, rfl, by omega, fun p qs H10 e10 hp10 h10 hq10 hqs10 => ?_⟩
    walk_at "st"
    refine ⟨n, cs, rfl, n0, by omega, fun _ p' ps H11 e11 hp11 h11 hq11 hqs11 => ?_, fun h => by omega⟩
    have B11 : Bx H11 b d := (B9.kp0 e10).kp0 e11
    walk_at "st"
    refine c_isiL (b := true) h11 (by decide +kernel) ?_
    walk_at "st"
    refine c_neSame (d := blocksD n cs (manyOf cs)) (dp_blocks h11 hq11 fun k z hz => (hqs11 k z hz).2) (dp_blocks (e11.at0 h10) hq10 fun k z hz => e11.at0 (hqs10 k z hz).2) (blocks_shaped _ _ _) ?_
    walk_at "st"
    have el : (((qs.map V.ref).length : Nat) : Int) = (manyOf cs : Int) := by rw [List.length_map, hq10]
    rw [el]
    walk_at "st"
    refine forR (fun j σ H' => ∃ (v8 v9 v10 : Option V), σ = [some (.ref a), some (.ref b), some (.int (0 + (i : Int))), some (.int n), some (.int m), some (.str (txt cs)), some (.ref p), some (.ref p'), v8, v9, v10] ∧ Kp [] H11 H') ⟨_, _, _, rfl, Kp.refl⟩ ?_ ?_
    · rintro j σ G1 hj ⟨v8, v9, v10, rfl, f1⟩
      have hj : j < manyOf cs := by omega
      have hjl : j < ps.length := by omega
      obtain ⟨a1, a2⟩ := hqs11 j ps[j] (List.getElem?_eq_getElem hjl)
      walk_at "st"
      refine c_ixL (v := .ref ps[j]) (SqL.of (f1.at0 h11)) ?_ ?_
      · rw [Int.zero_add]
        exact atI_nat (by rw [List.getElem?_map, List.getElem?_eq_getElem hjl]; rfl)
      walk_at "st"
      refine ⟨ps[j], _, rfl, SqL.of (f1.at0 a2), block_bytes n0 n1 hj (by omega) hg, fun v G2 f2 hv => ?_⟩
      rcases hv with ⟨z, _⟩ | ⟨_, pt, rfl, hpt⟩
      · exact absurd (block_piece hj hg) z
      obtain ⟨s1, s2, s3, s4⟩ := block_says (n := n) (cs := cs) (many := manyOf cs) (k := j)
      rw [s1, s2, s3, s4] at hpt
      walk_at "st"
      refine c_isiT (b := true) hpt (by decide +kernel) ?_
      walk_at "st"
      rw [el]
      have ltx : (txt cs).length = cs.length := txt_len cs
      refine c_slS (by rw [ltx, sizeLine_eq]; omega) ?_
      have ec : cutS (txt cs) (some (24 * (0 + (j : Int)))) (some (24 * (0 + (j : Int)) + 24)) = txt (partOf cs j) := by
        have := part_cut cs j
        rw [show (24 * (0 + (j : Int))) = (0 : Int) + (j : Nat) * 24 by omega]
        exact this
      rw [ec]
      walk_at "st"
      walk_at "nw"
      intro p9 G3 N3
      refine c_neSame (d := toldD j (manyOf cs) n (partOf cs j)) (.tup (SqT.of (N3.keep hpt)) (.cons (.int _) (.cons (.int _) (.cons (.int _) (.cons (.str _) .nil))))) (.tup (SqT.of N3.at_) (.cons (by rw [Int.zero_add]; exact .int _) (.cons (.int _) (.cons (.int _) (.cons (.str _) .nil)))))
        (told_shaped (good_ok (part_good hg))) ?_
      walk_at "st"
      exact ⟨_, _, _, rfl, f1.trans (f2.trans N3.kp)⟩
    · rintro σ G1 ⟨v8, v9, v10, rfl, f1⟩
      walk_at "st"
      exact ⟨_, _, _, _, _, _, _, _, _, rfl, B11.kp0 f1⟩
  · rintro σ H2 ⟨v2, v3, v4, v5, v6, v7, v8, v9, v10, rfl, B2⟩
    walk_at "st"
    refine ⟨b, d, 1, rfl, B2, by decide, fun cs H3 hl hg e3 B3 => ?_⟩
    obtain ⟨c, rfl⟩ : ∃ c, cs = [c] := by
      rcases cs with _ | ⟨c, _ | ⟨c2, r⟩⟩
      · simp at hl
      · exact ⟨c, rfl⟩
      · simp at hl
    have l1 : (txt [c]).length = 1 := rfl
    walk_at "st"
    refine ⟨b, d, _, rfl, B3, by decide, fun r1 H4 h1 h1' e4 B4 => ?_⟩
    walk_at "st"
    refine c_mulS (by omega) (by omega) (by rw [l1, sizeLine_eq]; omega) ?_
    rw [rptS_txt]
    walk_at "st"
    refine ⟨1, _, rfl, by decide, by rw [List.length_replicate]; omega, fun h => absurd h (by unfold manyOf; rw [List.length_replicate]; omega), fun _ p H5 e5 h5 => ?_⟩
    walk_at "st"
    walk_at "nw"
    intro p2 H6 N6
    refine c_neTS (ys := ["refused", "text"]) (zs := ["refused", "text"]) (SqT.of (N6.keep h5)) (SqT.of N6.at_) (by decide +kernel) (by decide +kernel) ?_
    walk_at "st"
    refine c_iteF (by decide +kernel) ?_
    walk_at "st"
    refine c_mulS (by omega) (by omega) (by rw [l1, sizeLine_eq]; omega) ?_
    rw [rptS_txt]
    have em : manyOf (List.replicate (6120 : Int).toNat c) = 255 := by unfold manyOf; rw [List.length_replicate]; rfl
    walk_at "st"
    refine ⟨2, _, rfl, by decide, by rw [List.length_replicate]; decide, fun _ p3 ps H7 e7 hp7 h7 hq7 hqs7 => ?_, fun h => by rw [em] at h; omega⟩
    walk_at "st"
    refine c_mulS (by omega) (by omega) (by rw [l1, sizeLine_eq]; omega) ?_
    rw [rptS_txt]
    walk_at "st"
    refine ⟨2, _, rfl, by rw [List.length_replicate]; decide, fun p4 qs H8 e8 hp8 h8 hq8 hqs8 => ?_⟩
    refine c_eqSame (d := blocksD 2 (List.replicate (6120 : Int).toNat c) (manyOf (List.replicate (6120 : Int).toNat c))) (dp_blocks (e8.at0 h7) hq7 fun k z hz => e8.at0 (hqs7 k z hz).2) (dp_blocks h8 hq8 fun k z hz => (hqs8 k z hz).2) (blocks_shaped _ _ _) ?_
    walk_at "st"
    walk_at "nw"
    intro p5 H9 N9
    walk_at "st"
    walk_at "nw"
    intro p6 H10 N10
    refine c_eqSame (d := .tuple [.int 24, .int 255]) (.tup (SqT.of (N10.keep N9.at_)) (.cons (.int _) (.cons (.int _) .nil))) (.tup (SqT.of N10.at_) (.cons (.int _) (.cons (.int _) .nil))) (by decide +kernel) ?_
    exact q _
end
end K43


namespace K43
open PySem L2 Sa
abbrev R : PySem.W.OpenRow := PySem.W.OpenLaw.row PySem.Challenge.rw_sameanswers_k43_records_in_pieces
abbrev qv : Program := PySem.W.view R.prog [22]
abbrev hk : PySem.W.Hook := He.hookX 4 fa fn [] [] (exs fx)
def ob (s : PySem.W.SharedT) : He.AlX := He.obsX 4 fa fn [] [] (exs fx) (HandSHeadRun.getT s)
theorem ob_eq (s : PySem.W.SharedT) : ob s = hk.obs s.abs := He.obsX_eq (HandSHeadRun.getT_eq s)
def loose0 : List PySem.Str := ["TrunkError", "OutOfRange", "PIECE", "PIECES_MOST", "RECORD", "LINE_END", "PERCENT", "SIGNS", "_piece", "encode_record", "_are_codes", "_sign", "decode_piece", "_law_cell", "_law_digits", "_law_draw", "_law_pieces", "_law_stored_text", "_law_encoded"]
def loose : List PySem.Str := loose0
theorem run (w : World) : HandSHeadRun.RunEq R qv hk ob 4000 loose w := by
  intro os
  kernel_rfl
theorem atEnd {P : Program} {w : World} {K : PySem.W.Frag} {h : Heap} {mg : Str → Option Value} {f : Addr} (KX : K.In h) (G : h.Ns mainGlobals mg) (hf : mg "law" = some (.ref f)) (c : He.SaysD fa fn K) (cx : exs fx K = true) :
    ∃ fd : FuncData, (∀ (s : Shared) (v : Value), BindsTo s fd ⟨[v], []⟩ [("_law_script", v)]) ∧ ∀ base : Heap, K.In base → base.Ns mainGlobals mg → FnOk P w K mg base CX0 6 f fd ["_law_script"] (spLaw K) :=
  law_of KX G c hf 12 29 sc_law bn_law (fun vs H Q E z => by obtain ⟨a, ns, rfl, _⟩ := z; rfl) fun base => b_law ⟨h, KX, G, c, cx⟩
end K43
open PySem PySem.W PySem.Calls PyProof.Rows
set_option maxRecDepth 100000 in
set_option maxHeartbeats 0 in
theorem PySem.Challenge.cw_sameanswers_k43_records_in_pieces_holds : PySem.Challenge.rw_sameanswers_k43_records_in_pieces.Holds := by
  w_on; o_law
  refine HandSHeadRun.head_any (r := OpenLaw.row PySem.Challenge.rw_sameanswers_k43_records_in_pieces) (q := K43.qv) (H := K43.hk) (ob := K43.ob) (M := 4000) (loose := K43.loose) (d := HandSHeadRun.topDef (OpenLaw.row PySem.Challenge.rw_sameanswers_k43_records_in_pieces).prog 22) (kwd := []) K43.ob_eq
    (by kernel_rfl) (fun s => by kernel_rfl) K43.run (by kernel_rfl) (by kernel_rfl) (by kernel_rfl) (by rfl) (by first | assumption | decide +kernel) (by decide +kernel) ⟨rfl, rfl, rfl, rfl, rfl, by decide +kernel⟩ ?hw ?hc
  case hw => w_witness2
  case hc =>
    refine L2.walk_ofE (l := PySem.Challenge.rw_sameanswers_k43_records_in_pieces) (n := 63) (k := 6) (x := "_law_script") (CX := L2.CX0) rfl (by decide) (by kernel_rfl) ⟨rfl, by decide, by decide⟩ ?F (fun _ _ _ _ z => z)
    intro w mg fa h Y G hmg0
    obtain ⟨K, KX, c⟩ := Y
    have cd := c.t.d
    have cx := c.more
    have hmg : mg ("law" : PySem.Str) = some (.ref fa) := by
      have e : (HandSHeadRun.topDef (OpenLaw.row PySem.Challenge.rw_sameanswers_k43_records_in_pieces).prog 22).name = ("law" : PySem.Str) := by kernel_rfl
      rw [← e]
      exact hmg0
    obtain ⟨fd, hb, hF⟩ := K43.atEnd (P := (PySem.Challenge.rw_sameanswers_k43_records_in_pieces).prog) (w := w) KX G hmg cd cx
    exact ⟨K, fd, K43.spLaw K, KX, hb, fun H a ns hl _ hS => ⟨a, ns, rfl, hS, fun _ => rfl⟩, hF⟩
#print axioms PySem.Challenge.cw_sameanswers_k43_records_in_pieces_holds




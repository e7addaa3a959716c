import PyProof.Rows.All
import Wide.All
import OpenK.AllK
import Wide.FinOn
import HandS.ForMost
import HandS.ForExc
import HandS.More
import HandS.Codes
import HandS.CallSlots
import HandS.IsInst
import HandS.RaiseMore
import HandS.Wide
import HandS.StrMore
import HandS.TupAny
import HandS.Style
import HandS.Iter
import PyProof.Rows.StrOr
import PyProof.ReprRoads
import KE.IntTextLaws
import KE.GoesMore
import KE.KIntText
import KE.IntTextText
import PyProof.ReprLen
import PyProof.StrLawsRepr
import HandS.RaiseFrom
import HandS.SuiteRaise
import KE.KExcStr
import HandS.Zip
import KE.KDictZip
import HandS.OwnEq
import PyProof.NeKinds
import HandS.Defaults
import HandS.Walk
import PySem.Challenge.RW_tablesswitched_k66_whole_texts_of_diarie
set_option Elab.async false
set_option linter.all false
set_option maxRecDepth 100000
set_option maxHeartbeats 4000000
namespace Lay
open PySem PySem.Spec PyProof.Rows L2

theorem same_upd {H : Hp} {p : Addr} {o : HO} (h : H p = none) : Same H (upd H p o) := fun b x e => by
  rw [upd_ne (ne_of_none e h)]
  exact e
theorem Same.seqT {K : PySem.W.Frag} {H H' : Hp} {a : Addr} {xs : List V} (e : Same H H') (h : SqT K H a xs) : SqT K H' a xs := by
  rcases h with (h | ⟨o, h⟩) | h
  · exact .inl (.inl (e _ _ h))
  · exact .inl (.inr ⟨o, e _ _ h⟩)
  · exact .inr h
structure Txt (H H' : Hp) : Prop where
  tup : ∀ a xs, H a = some (.tup xs) → H' a = some (.tup xs)
  frz : ∀ a o u, H a = some (.frz o u) → H' a = some (.frz o u)
theorem Txt.refl (H : Hp) : Txt H H := ⟨fun _ _ h => h, fun _ _ _ h => h⟩
theorem Txt.trans {H H1 H2 : Hp} (a : Txt H H1) (b : Txt H1 H2) : Txt H H2 := ⟨fun x xs h => b.tup x xs (a.tup x xs h), fun x o u h => b.frz x o u (a.frz x o u h)⟩
theorem Txt.same {H H' : Hp} (e : Same H H') : Txt H H' := ⟨fun a xs h => e _ _ h, fun a o u h => e _ _ h⟩
theorem Txt.new {H : Hp} {p : Addr} {o : HO} (h : H p = none) : Txt H (upd H p o) := Txt.same (same_upd h)
theorem Txt.lst {H : Hp} {p : Addr} {o : HO} {ys : List V} (h : H p = some (.lst ys)) : Txt H (upd H p o) := by
  refine ⟨fun a xs q => ?_, fun a o u q => ?_⟩
  · rw [upd_ne (ne_of q h (by intro z; cases z))]
    exact q
  · rw [upd_ne (ne_of q h (by intro z; cases z))]
    exact q
theorem Txt.ins {H : Hp} {p C dx : Addr} {o : HO} {fs : List (Str × V)} (h : H p = some (.ins C dx fs)) : Txt H (upd H p o) := by
  refine ⟨fun a xs q => ?_, fun a o u q => ?_⟩
  · rw [upd_ne (ne_of q h (by intro z; cases z))]
    exact q
  · rw [upd_ne (ne_of q h (by intro z; cases z))]
    exact q
def But (p : Addr) (H H' : Hp) : Prop := ∀ b o, b ≠ p → H b = some o → H' b = some o
theorem But.refl {p : Addr} (H : Hp) : But p H H := fun _ _ _ h => h
theorem But.trans {p : Addr} {H H1 H2 : Hp} (a : But p H H1) (b : But p H1 H2) : But p H H2 := fun x o n h => b x o n (a x o n h)
theorem But.same {p : Addr} {H H' : Hp} (e : Same H H') : But p H H' := fun b o _ h => e b o h
theorem But.upd {p : Addr} {H H' : Hp} {o : HO} (e : But p H H') : But p H (upd H' p o) := fun b u n h => by
  rw [upd_ne n]
  exact e b u n h
theorem Same.mut {H H' : Hp} {p : Addr} {o : HO} (e : Same H H') (h : H p = none) : Same H (upd H' p o) := fun a u ha => by
  rw [upd_ne (ne_of_none ha h)]
  exact e a u ha

section
variable {K : PySem.W.Frag} {H H' : Hp}
mutual
theorem Dp.same (e : Same H H') : ∀ (d : PyData) (v : V), Dp K H v d → Dp K H' v d
  | .none, _, h => by cases h; exact .non
  | .bool b, _, h => by cases h; exact .bl b
  | .int i, _, h => by cases h; exact .int i
  | .str x, _, h => by cases h; exact .str x
  | .list ds, _, h => by
    cases h with
    | lst hs ha => exact .lst (e.seq hs) (DpAll.same e ds _ ha)
  | .tuple ds, _, h => by
    cases h with
    | tup hs ha => exact .tup (Same.seqT e hs) (DpAll.same e ds _ ha)
  | .dict _, _, h => by cases h
theorem DpAll.same (e : Same H H') : ∀ (ds : List PyData) (vs : List V), DpAll K H vs ds → DpAll K H' vs ds
  | [], _, h => by cases h; exact .nil
  | d :: ds, _, h => by
    cases h with
    | cons h1 h2 => exact .cons (Dp.same e d _ h1) (DpAll.same e ds _ h2)
end
theorem DpAll.length : ∀ {ds : List PyData} {vs : List V}, DpAll K H vs ds → vs.length = ds.length
  | [], _, h => by cases h; rfl
  | d :: ds, _, h => by
    cases h with
    | cons h1 h2 => simp only [List.length_cons, DpAll.length h2]
theorem DpAll.get : ∀ {ds : List PyData} {vs : List V} {i : Nat} {v : V}, DpAll K H vs ds → vs[i]? = some v → ∃ d, ds[i]? = some d ∧ Dp K H v d
  | [], _, i, v, h, e => by cases h; simp at e
  | d :: ds, _, 0, v, h, e => by
    cases h with
    | cons h1 h2 =>
      simp at e
      subst e
      exact ⟨d, rfl, h1⟩
  | d :: ds, _, i + 1, v, h, e => by
    cases h with
    | cons h1 h2 =>
      obtain ⟨d', q1, q2⟩ := DpAll.get (i := i) (v := v) h2 (by simpa using e)
      exact ⟨d', by simpa using q1, q2⟩
theorem DpAll.getD : ∀ {ds : List PyData} {vs : List V} {i : Nat} {d : PyData}, DpAll K H vs ds → ds[i]? = some d → ∃ v, vs[i]? = some v ∧ Dp K H v d
  | [], _, i, v, h, e => by simp at e
  | d :: ds, _, 0, v, h, e => by
    cases h with
    | cons h1 h2 =>
      simp at e
      subst e
      exact ⟨_, rfl, h1⟩
  | d :: ds, _, i + 1, v, h, e => by
    cases h with
    | cons h1 h2 =>
      obtain ⟨d', q1, q2⟩ := DpAll.getD (i := i) h2 (by simpa using e)
      exact ⟨d', by simpa using q1, q2⟩
theorem DpAll.append : ∀ {ds es : List PyData} {vs us : List V}, DpAll K H vs ds → DpAll K H us es → DpAll K H (vs ++ us) (ds ++ es)
  | [], _, _, _, h, k => by cases h; exact k
  | d :: ds, _, _, _, h, k => by
    cases h with
    | cons h1 h2 => exact .cons h1 (DpAll.append h2 k)
end
mutual
def fz : PyData → Bool
  | .list _ => false
  | .tuple ds => fzAll ds
  | .dict _ => false
  | _ => true
def fzAll : List PyData → Bool
  | [] => true
  | d :: ds => fz d && fzAll ds
end
section
variable {K : PySem.W.Frag} {H H' : Hp}
theorem SqT.txt {a : Addr} {xs : List V} (e : Txt H H') (h : SqT K H a xs) : SqT K H' a xs := by
  rcases h with (h | ⟨o, h⟩) | h
  · exact .inl (.inl (e.tup _ _ h))
  · exact .inl (.inr ⟨o, e.frz _ _ _ h⟩)
  · exact .inr h
mutual
theorem Dp.txt (e : Txt H H') : ∀ (d : PyData) (v : V), fz d = true → Dp K H v d → Dp K H' v d
  | .none, _, _, h => by cases h; exact .non
  | .bool b, _, _, h => by cases h; exact .bl b
  | .int i, _, _, h => by cases h; exact .int i
  | .str x, _, _, h => by cases h; exact .str x
  | .list ds, _, f, h => by simp [fz] at f
  | .tuple ds, _, f, h => by
    cases h with
    | tup hs ha => exact .tup (SqT.txt e hs) (DpAll.txt e ds _ (by simpa [fz] using f) ha)
  | .dict _, _, _, h => by cases h
theorem DpAll.txt (e : Txt H H') : ∀ (ds : List PyData) (vs : List V), fzAll ds = true → DpAll K H vs ds → DpAll K H' vs ds
  | [], _, _, h => by cases h; exact .nil
  | d :: ds, _, f, h => by
    cases h with
    | cons h1 h2 =>
      simp only [fzAll, Bool.and_eq_true] at f
      exact .cons (Dp.txt e d _ f.1 h1) (DpAll.txt e ds _ f.2 h2)
end
end

def NewG (H : Hp) (o : HO) (Q : VK) : Prop := ∀ p H2, H p = none → Same H H2 → H2 p = some o → Q (.ref p) H2
theorem NewG.go {H : Hp} {o : HO} {Q : VK} (h : NewG H o Q) {p : Addr} (hp : H p = none) : Q (.ref p) (upd H p o) := h p _ hp (same_upd hp) upd_same
section
variable {X : Cx}
def clA (t : TA) : TA := fun σ H Q => ∃ Q0, t σ H Q0 ∧ ∀ xs H1, Q0 xs H1 → Q xs H1
theorem PA.cl {es : List Expr} {t : TA} (h : PA X es t) : PA X es (clA t) := ⟨fun pos pins s σ H Q I hw => by
  obtain ⟨Q0, h0, k⟩ := hw
  exact thn (h.run pos pins s σ H Q0 I h0) fun us s' ⟨vs, H', I', r, q⟩ => ⟨vs, H', I', r, k vs H' q⟩⟩
def tTupG (t : TA) : TE := fun σ H Q => t σ H fun xs H1 => xs.length ≤ 1000000 ∧ NewG H1 (.tup xs) Q
def tLstG (t : TA) : TE := fun σ H Q => t σ H fun xs H1 => xs.length ≤ 1000000 ∧ NewG H1 (.lst xs) Q
theorem big6 : (1000000 : Nat) ≤ sizeLine := by decide
theorem pe_tupG {es : List Expr} {t : TA} {k : Nat} {pos : Pos} (h : PA X es t) : PE X (.Tuple es k pos) (tTupG t) := ⟨fun pins s σ H Q I hw =>
  (pe_tup (x1 := k) (pos := pos) (PA.cl h)).run pins s σ H Q I ⟨_, hw, fun xs H1 q => ⟨Nat.le_trans q.1 big6, fun p hp => q.2.go hp⟩⟩⟩
theorem pe_lstG {es : List Expr} {t : TA} {pos : Pos} (h : PA X es t) : PE X (.List es pos) (tLstG t) := ⟨fun pins s σ H Q I hw =>
  (pe_lst (pos := pos) (PA.cl h)).run pins s σ H Q I ⟨_, hw, fun xs H1 q => ⟨Nat.le_trans q.1 big6, fun p hp => q.2.go hp⟩⟩⟩
def rAddA : R2 := fun x y H Q => match x, y with
  | .int i, .int j => Q (.int (i + j)) H
  | .str a, .str b => a.length + b.length ≤ sizeLine ∧ Q (.str (a ++ b)) H
  | .ref a, .ref b => ∃ xs ys, H a = some (.lst xs) ∧ H b = some (.lst ys) ∧ xs.length + ys.length ≤ 1000000 ∧ NewG H (.lst (xs ++ ys)) Q
  | _, _ => False
theorem op_addA : OpR X (binaryOp .Add) rAddA := by
  intro pins s σ H x y v u Q I rx ry h
  unfold rAddA at h
  split at h
  · exact op_add pins s σ H _ _ v u Q I rx ry ⟨_, _, rfl, rfl, h⟩
  · exact op_add_str pins s σ H _ _ v u Q I rx ry ⟨_, _, rfl, rfl, h⟩
  · obtain ⟨xs, ys, h1, h2, h3, q⟩ := h
    exact op_cat pins s σ H _ _ v u Q I rx ry ⟨_, _, xs, ys, rfl, rfl, h1, h2, Nat.le_trans h3 big6, fun p hp => q.go hp⟩
  · exact h.elim
def rSubA : R2 := rI0 fun i j => .int (i - j)
theorem op_subA : OpR X (binaryOp .Sub) rSubA := op_sub
theorem op_mul_str : OpR X (binaryOp .Mult) (fun x y H Q => ∃ a n, x = .str a ∧ y = .int n ∧ MulOk a n ∧ Q (.str (Txt.mul a n)) H) := by
  intro pins s σ H x y v u Q I rx ry h
  obtain ⟨a, n, rfl, rfl, hm, q⟩ := h
  obtain ⟨t, rfl⟩ := rx
  obtain ⟨t2, rfl⟩ := ry
  exact PySem.SB.mul hm fun t' k => ⟨.str _, H, I.tok _, ⟨_, rfl⟩, q⟩
theorem op_mulI : OpR X (binaryOp .Mult) (rI IntMulOk fun i j => .int (i * j)) := opI fun _ _ _ _ _ _ _ hc q => mul_int q hc
theorem ip_mulA : PIp X .Mult (rI IntMulOk fun i j => .int (i * j)) := opI fun _ _ _ _ _ _ _ hc q => imul_int q hc
def rIaddA : TIp := fun x y H Q => match x, y with
  | .int i, .int j => Q (.int (i + j)) H
  | .str a, .str b => a.length + b.length ≤ sizeLine ∧ Q (.str (a ++ b)) H
  | x, y => rExt2 x y H Q
theorem ip_addA : PIp X .Add rIaddA := by
  intro pins s σ H x y v u Q I rx ry h
  unfold rIaddA at h
  split at h
  · exact iop_add pins s σ H _ _ v u Q I rx ry ⟨_, _, rfl, rfl, h⟩
  · exact iop_add_str pins s σ H _ _ v u Q I rx ry ⟨_, _, rfl, rfl, h⟩
  · exact iop_ext pins s σ H _ _ v u Q I rx ry h
def rMulA : R2 := fun x y H Q => match x, y with
  | .int i, .int j => IntMulOk i j ∧ Q (.int (i * j)) H
  | .str a, .int n => MulOk a n ∧ Q (.str (Txt.mul a n)) H
  | x, y => rRep x y H Q
theorem op_mulA : OpR X (binaryOp .Mult) rMulA := by
  intro pins s σ H x y v u Q I rx ry h
  unfold rMulA at h
  split at h
  · exact op_mulI pins s σ H _ _ v u Q I rx ry ⟨_, _, rfl, rfl, h⟩
  · exact op_mul_str pins s σ H _ _ v u Q I rx ry ⟨_, _, rfl, rfl, h⟩
  · exact op_rep pins s σ H _ _ v u Q I rx ry h
def rModA : R2 := rI (fun _ j => 0 < j) fun i j => .int (i % j)
theorem op_modA : OpR X (binaryOp .Mod) rModA := op_mod
def rFdivA : R2 := rI CDiv fun i j => .int (i / j)
theorem op_fdivA : OpR X (binaryOp .FloorDiv) rFdivA := op_fdiv
def rPowA : R2 := rI CPow fun i j => .int (i ^ j.toNat)
theorem op_powA : OpR X (binaryOp .Pow) rPowA := op_pow

def strLt (a b : Str) : Bool := decide (a.cps.toList < b.cps.toList)
def rLtA : R2 := fun x y H Q => match x, y with
  | .int i, .int j => Q (.bl (decide (i < j))) H
  | .str a, .str b => Q (.bl (strLt a b)) H
  | _, _ => False
theorem op_ltA : OpR X (compareOp .Lt) rLtA := by
  intro pins s σ H x y v u Q I rx ry h
  unfold rLtA at h
  split at h
  · exact op_lt pins s σ H _ _ v u Q I rx ry ⟨_, _, rfl, rfl, h⟩
  · exact op_lt_str pins s σ H _ _ v u Q I rx ry ⟨_, _, rfl, rfl, h⟩
  · exact h.elim
def rLeA : R2 := fun x y H Q => match x, y with
  | .int i, .int j => Q (.bl (decide (i ≤ j))) H
  | .str a, .str b => Q (.bl (!strLt b a)) H
  | _, _ => False
theorem op_leA : OpR X (compareOp .LtE) rLeA := by
  intro pins s σ H x y v u Q I rx ry h
  unfold rLeA at h
  split at h
  · exact op_le pins s σ H _ _ v u Q I rx ry ⟨_, _, rfl, rfl, h⟩
  · exact op_le_str pins s σ H _ _ v u Q I rx ry ⟨_, _, rfl, rfl, h⟩
  · exact h.elim
def rGtA : R2 := rI0 fun i j => .bl (decide (j < i))
theorem op_gtA : OpR X (compareOp .Gt) rGtA := op_gt
def rGeA : R2 := rI0 fun i j => .bl (decide (j ≤ i))
theorem op_geA : OpR X (compareOp .GtE) rGeA := op_ge
def rEqA (K : PySem.W.Frag) : R2 := fun x y H Q => (scal x y = true ∧ Q (.bl (decide (x = y))) H) ∨ rEqD K x y H Q
theorem op_eqA {K : PySem.W.Frag} (hu : X.A.units + 64 < cLine) (hK : X.K = K := by rfl) : OpR X (compareOp .Eq) (rEqA K) := by
  subst hK
  exact op_eq.or (op_eqD hu)
def rNeA (K : PySem.W.Frag) : R2 := fun x y H Q => (scal x y = true ∧ Q (.bl (!decide (x = y))) H) ∨ rNeD K x y H Q
theorem op_neA {K : PySem.W.Frag} (hu : X.A.units + 64 < cLine) (hK : X.K = K := by rfl) : OpR X (compareOp .NotEq) (rNeA K) := by
  subst hK
  exact op_ne.or (op_neD hu)
def rInA (K : PySem.W.Frag) : R2 := fun x y H Q => match y with
  | .str z => ∃ c : Nat, x = .str ⟨#[c]⟩ ∧ Q (.bl (decide (c ∈ z.cps.toList))) H
  | _ => rIn K false x y H Q
theorem op_inA {K : PySem.W.Frag} (hK : X.K = K := by rfl) : OpR X (compareOp .In) (rInA K) := by
  subst hK
  intro pins s σ H x y v u Q I rx ry h
  unfold rInA at h
  split at h
  · obtain ⟨c, rfl, q⟩ := h
    exact op_in_sign pins s σ H _ _ v u Q I rx ry ⟨_, _, rfl, rfl, q⟩
  · exact op_in_seq pins s σ H _ _ v u Q I rx ry h
def rNotInA (K : PySem.W.Frag) : R2 := fun x y H Q => match y with
  | .str z => ∃ c : Nat, x = .str ⟨#[c]⟩ ∧ Q (.bl (!decide (c ∈ z.cps.toList))) H
  | _ => rIn K true x y H Q
theorem op_notInA {K : PySem.W.Frag} (hK : X.K = K := by rfl) : OpR X (compareOp .NotIn) (rNotInA K) := by
  subst hK
  intro pins s σ H x y v u Q I rx ry h
  unfold rNotInA at h
  split at h
  · obtain ⟨c, rfl, q⟩ := h
    exact op_notIn_sign pins s σ H _ _ v u Q I rx ry ⟨_, _, rfl, rfl, q⟩
  · exact op_notIn_seq pins s σ H _ _ v u Q I rx ry h
def rIsA : R2 := fun x y H Q => y = .non ∧ Q (.bl (decide (x = .non))) H
theorem op_isA : OpR X (compareOp .Is) rIsA := op_isN
def rIsNotA : R2 := fun x y H Q => y = .non ∧ Q (.bl (!decide (x = .non))) H
theorem op_isNotA : OpR X (compareOp .IsNot) rIsNotA := op_notN

def SqA (K : PySem.W.Frag) (H : Hp) (a : Addr) (xs : List V) : Prop := SqL K H a xs ∨ SqT K H a xs
def rIxA (K : PySem.W.Frag) : R2 := fun x y H Q => match x with
  | .str z => ∃ i c, y = .int i ∧ z.length ≤ sizeLine ∧ atI z.cps.toList i = some c ∧ Q (.str ⟨#[c]⟩) H
  | .ref p => ∃ i xs v, y = .int i ∧ SqA K H p xs ∧ atI xs i = some v ∧ Q v H
  | _ => False
theorem ix_A {K : PySem.W.Frag} (hK : X.K = K := by rfl) : IxR X (rIxA K) := by
  subst hK
  intro e1 e2 pins s σ H x y v u Q I rx ry h hs
  cases x with
  | str z =>
    obtain ⟨i, c, rfl, h1, h2, q⟩ := h
    exact ix_str e1 e2 pins s σ H _ _ v u Q I rx ry ⟨_, _, _, rfl, rfl, h1, h2, q⟩ hs
  | ref p =>
    obtain ⟨i, xs, w, rfl, h1 | h1, h2, q⟩ := h
    · exact ix_list e1 e2 pins s σ H _ _ v u Q I rx ry ⟨_, _, _, _, rfl, rfl, h1, h2, q⟩ hs
    · exact ix_tup e1 e2 pins s σ H _ _ v u Q I rx ry ⟨_, _, _, _, rfl, rfl, h1, h2, q⟩ hs
  | _ => exact h.elim
def rSlA' (K : PySem.W.Frag) : V → Option Int → Option Int → Hp → VK → Prop := fun x lo hi H Q => match x with
  | .str z => z.length ≤ sizeLine ∧ Q (.str (cutS z lo hi)) H
  | .ref a => (∃ xs, SqL K H a xs ∧ NewG H (.lst (cutV xs lo hi)) Q) ∨ (∃ xs, SqT K H a xs ∧ Q (.ref a) H ∧ NewG H (.tup (cutV xs lo hi)) Q)
  | _ => False
theorem sl_A {K : PySem.W.Frag} (hK : X.K = K := by rfl) : SlR X (rSlA' K) := by
  subst hK
  intro pins s σ H x v vl vu lo hi sl Q I rx hs pl pu h
  cases x with
  | str z => exact sl_str pins s σ H _ v vl vu lo hi sl Q I rx hs pl pu ⟨z, rfl, h.1, h.2⟩
  | ref a =>
    rcases h with ⟨xs, h1, q⟩ | ⟨xs, h1, q0, q⟩
    · exact sl_list pins s σ H _ v vl vu lo hi sl Q I rx hs pl pu ⟨a, xs, rfl, h1, fun p hp => q.go hp⟩
    · exact sl_tupA pins s σ H _ v vl vu lo hi sl Q I rx hs pl pu ⟨a, xs, rfl, h1, fun _ => q0, fun _ p hp => q.go hp⟩
  | _ => exact h.elim

def rLenA (K : PySem.W.Frag) : List V → Hp → VK → Prop := fun xs H Q => match xs with
  | [.str z] => z.length ≤ sizeLine ∧ Q (.int (z.length : Nat)) H
  | [.ref p] => ∃ ys, SqA K H p ys ∧ Q (.int (ys.length : Nat)) H
  | _ => False
theorem call_lenA {K : PySem.W.Frag} (hK : X.K = K := by rfl) : CallR X (.builtin "len") (rLenA K) := by
  subst hK
  intro pins s σ H xs us Q I r h
  unfold rLenA at h
  split at h
  · exact call_len_str pins s σ H _ us Q I r ⟨_, rfl, h.1, h.2⟩
  · obtain ⟨ys, h1, q⟩ := h
    exact call_len_seq pins s σ H _ us Q I r ⟨_, ys, rfl, h1, q⟩
  · exact h.elim
inductive TyN (K : PySem.W.Frag) (H : Hp) : V → String → Prop where
  | non : TyN K H .non "NoneType"
  | bl (b : Bool) : TyN K H (.bl b) "bool"
  | int (i : Int) : TyN K H (.int i) "int"
  | str (x : Str) : TyN K H (.str x) "str"
  | lst {a : Addr} {xs : List V} (h : SqL K H a xs) : TyN K H (.ref a) "list"
  | tup {a : Addr} {xs : List V} (h : SqT K H a xs) : TyN K H (.ref a) "tuple"
theorem TyN.tyx {K : PySem.W.Frag} {H : Hp} {x : V} {n : String} (h : TyN K H x n) : TyX K H x (.type n) := by
  cases h with
  | non => exact .base .non
  | bl b => exact .base (.bl b)
  | int i => exact .base (.int i)
  | str z => exact .base (.str z)
  | lst h =>
    rcases h with (h | ⟨o, h⟩) | ⟨o, its, n, h1, h2, _⟩
    · exact .base (.lst h)
    · exact .base (.frz h)
    · exact .kList h1 h2
  | tup h =>
    rcases h with (h | ⟨o, h⟩) | ⟨o, its, n, h1, h2, _⟩
    · exact .base (.tup h)
    · exact .fTuple h
    · exact .kTuple h1 h2
def rIsiA (K : PySem.W.Frag) : List V → Hp → VK → Prop := fun xs H Q => ∃ x T n b, xs = [x, .ty T] ∧ TyN K H x n ∧ kitB n T = some b ∧ Q (.bl b) H
theorem call_isiA {K : PySem.W.Frag} (hK : X.K = K := by rfl) : CallR X (.builtin "isinstance") (rIsiA K) := by
  subst hK
  intro pins s σ H xs us Q I r h
  obtain ⟨x, T, n, b, rfl, t, e, q⟩ := h
  exact call_isi pins s σ H _ us Q I r ⟨x, .ty T, .type n, .type T, b, rfl, .ty T, t.tyx, kit_ty e, q⟩
def rIntA : List V → Hp → VK → Prop := fun xs H Q => match xs with
  | [.int i] => Q (.int i) H
  | [.str a] => ∃ n, PySem.intText? a = some n ∧ a.length ≤ 640 ∧ Q (.int n) H
  | _ => False
theorem call_intA : CallR X (.type "int") rIntA := by
  intro pins s σ H xs us Q I r h
  unfold rIntA at h
  split at h
  · exact call_int1 pins s σ H _ us Q I r (.inl ⟨_, rfl, h⟩)
  · obtain ⟨n, h1, h2, q⟩ := h
    exact call_int_str pins s σ H _ us Q I r ⟨_, n, rfl, h1, h2, q⟩
  · exact h.elim
def rTupA (K : PySem.W.Frag) : List V → Hp → VK → Prop := fun xs H Q => ∃ p ys, xs = [.ref p] ∧ ((SqL K H p ys ∧ NewG H (.tup ys) Q) ∨ (SqT K H p ys ∧ Q (.ref p) H))
theorem call_tupA {K : PySem.W.Frag} (hK : X.K = K := by rfl) : CallR X (.type "tuple") (rTupA K) := by
  subst hK
  intro pins s σ H xs us Q I r h
  obtain ⟨p, ys, rfl, ⟨h1, q⟩ | h⟩ := h
  · exact call_tuple_of pins s σ H _ us Q I r ⟨p, ys, rfl, .inl ⟨h1, fun l hl => q.go hl⟩⟩
  · exact call_tuple_of pins s σ H _ us Q I r ⟨p, ys, rfl, .inr h⟩
def rListA (K : PySem.W.Frag) : List V → Hp → VK → Prop := fun xs H Q => ∃ p ys, xs = [.ref p] ∧ SqA K H p ys ∧ NewG H (.lst ys) Q
theorem call_listA {K : PySem.W.Frag} (hK : X.K = K := by rfl) : CallR X (.type "list") (rListA K) := by
  subst hK
  intro pins s σ H xs us Q I r h
  obtain ⟨p, ys, rfl, h1, q⟩ := h
  exact call_list_of pins s σ H _ us Q I r ⟨p, ys, rfl, h1, fun l hl => q.go hl⟩
def rAbsA : List V → Hp → VK → Prop := fun xs H Q => ∃ i, xs = [.int i] ∧ Q (.int (if i < 0 then -i else i)) H
theorem call_absA : CallR X (.builtin "abs") rAbsA := call_abs
def rStrA : List V → Hp → VK → Prop := fun xs H Q => match xs with
  | [.int i] => i.natAbs < 10 ^ 4300 ∧ Q (.str (Str.ofString (toString i))) H
  | [.str a] => Q (.str a) H
  | [.bl b] => Q (.str (if b then "True" else "False")) H
  | _ => False
theorem ns_none {K : PySem.W.Frag} {h : Heap} {a : Addr} {m : Str → Option Value} {n : Str} (X : K.In h) (G : h.Ns a m) (e : PySem.W.nsIn K a n = some none) : m n = none := by
  obtain ⟨o, es, ep, ho, hd, hr, hf⟩ := G
  unfold PySem.W.nsIn at e
  split at e
  · rename_i q
    have t := X _ _ q
    rw [ho] at t
    cases t
    cases hd
    cases g : List.find? (fun x => x.key.isStr n) es.toList with
    | some u =>
      rw [g] at e
      cases e
    | none =>
      refine (hf n).symm.trans ?_
      unfold nsFind findBy
      rw [← Array.find?_toList]
      exact congrArg _ g
  · cases e
theorem noDigits_of {K : PySem.W.Frag} {h : Heap} (X : K.In h) (z : PySem.W.nsIn K cStatics "sys.int_max_str_digits" = some none) (y : h.NoLimit) : h.NoDigits := by
  obtain ⟨mc, h1, _⟩ := y
  exact ⟨mc, h1, ns_none X h1 z⟩
theorem call_strA (hc : X.calm = true) (z : PySem.W.nsIn X.K cStatics "sys.int_max_str_digits" = some none) : CallR X (.type "str") rStrA := by
  intro pins s σ H xs us Q I r h
  unfold rStrA at h
  split at h
  · obtain ⟨u, rfl, t, rfl⟩ := vals1 r
    exact str_of_int_or (I.ok.hd hc) (noDigits_of I.kIn z I.nolimit) (fun _ => ⟨.str _, H, I.tok _, ⟨_, rfl⟩, h.2⟩) (fun hge => absurd h.1 (Nat.not_lt.mpr hge))
  · exact SkE.call_str_str pins s σ H _ us Q I r ⟨_, rfl, h⟩
  · obtain ⟨u, rfl, ru⟩ := vals1 r
    cases ru
    exact P.str_of_bool ⟨.str _, H, I.tok _, ⟨_, rfl⟩, h⟩
  · exact h.elim
def itA (K : PySem.W.Frag) (v : V) (H1 : Hp) (R : It → Hp → Prop) : Prop := match v with
  | .str x => R (Its x) H1
  | .ref a => ((∃ xs, SqL K H1 a xs) ∧ R (Itl K a) H1) ∨ ((∃ xs, SqT K H1 a xs) ∧ R (Itt K a) H1)
  | _ => False
def iAny (K : PySem.W.Frag) (te : TE) : TI := fun σ H R => te σ H fun v H1 => itA K v H1 R
theorem pi_A {K : PySem.W.Frag} {tg e : Expr} {te : TE} (he : PE X e te) (hK : X.K = K := by rfl) : PI X tg e (iAny K te) := by
  subst hK
  refine ⟨fun pins s σ H R I h => ?_⟩
  refine thn (he.run pins s σ H _ I h) fun v s1 ⟨y, H1, I1, r1, q⟩ => ?_
  cases y with
  | str x =>
    obtain ⟨t, rfl⟩ := r1
    cases ha : x.cps.all (· < 128)
    · exact wpAny_pyIter_wide ha (pi_one (tk := s1.toks) I1 _ (turn_str _ x t "str_iterator" (.inr rfl)) ⟨_, Heap.get?_push_size _ rfl, rfl, rfl⟩ q)
    · exact wpAny_pyIter_ascii ha (pi_one (tk := s1.toks) I1 _ (turn_str _ x t "str_ascii_iterator" (.inl rfl)) ⟨_, Heap.get?_push_size _ rfl, rfl, rfl⟩ q)
  | ref a =>
    cases r1
    rcases q with ⟨⟨xs, hq⟩, q⟩ | ⟨⟨xs, hq⟩, q⟩
    · obtain ⟨its, rv, p, hz⟩ := I1.list hq
      exact wpAny_pyIter_list p.isList (pi_one (tk := s1.toks) I1 _ (turn_list a _) ⟨_, Heap.get?_push_size _ rfl, rfl, rfl⟩ q)
    · obtain ⟨its, rv, p, hz⟩ := I1.tuple hq
      exact wpAny_pyIter_tuple (show s1.heap.IsTuple a its.toArray from p) (pi_one (tk := s1.toks) I1 _ (turn_tuple a _) ⟨_, Heap.get?_push_size _ rfl, rfl, rfl⟩ q)
  | _ => exact q.elim
theorem all_A {K : PySem.W.Frag} (hc : X.calm = true) (hK : X.K = K := by rfl) : CallR X (.builtin "all") (rAll K) := by
  subst hK
  exact cr_all hc
theorem any_A {K : PySem.W.Frag} (hc : X.calm = true) (hK : X.K = K := by rfl) : CallR X (.builtin "any") (rAny K) := by
  subst hK
  exact cr_any hc
theorem fld_A {K : PySem.W.Frag} {e : Expr} {f : Str} {pos : Pos} {ta : TE} (he : PE X e ta) (hb : attributeBase e f X.env (eval e X.env) = eval e X.env) (hK : X.K = K := by rfl) : PE X (.Attribute e f pos) (tFld K ta f) := by
  subst hK
  exact pe_fld he hb
theorem tup_A {K : PySem.W.Frag} {es : List Expr} {k : Nat} {t : TGs} {n : Nat} {pos : Pos} (hc : X.calm = true) (h : PGs X es t)
    (hn : (assignEach es X.env).length = n := by rfl) (hst : (assignEach es X.env).findIdx? (·.1) = none := by rfl) (hK : X.K = K := by rfl) : PG X (.Tuple es k pos) (gTup K n t) := by
  subst hK
  exact pg_tup hc h hn hst
theorem join_A {K : PySem.W.Frag} {o e : Expr} {to te : TE} {apos pos : Pos} (ho : PE X o to) (he : PE X e te) (hs : starEach [e] X.env = [(false, eval e X.env)] := by rfl) (hbase : attributeBase o "join" X.env (eval o X.env) = eval o X.env := by rfl) (hline : (apos.endLine == pos.line) = true := by rfl) (hK : X.K = K := by rfl) :
    PE X (.Call (.Attribute o "join" apos) [e] [] pos) (tM1 (fun x xs H Q => ∃ a p, ∃ ys : List Str, x = .str a ∧ xs = [.ref p] ∧ SqA K H p (ys.map V.str) ∧ (ys.map (·.length)).sum + ys.length * a.length ≤ 16777216 ∧ Q (.str (Txt.join a ys)) H) to te) := by
  subst hK
  exact pe_join ho he hs hbase hline
section
variable {K : PySem.W.Frag} {T : String} {name : Str} {id : String} {r : V → List V → Hp → VK → Prop} {e o : Expr} {es : List Expr} {to : TE} {t : TA} {apos cpos : Pos}
end
end
end Lay

set_option exponentiation.threshold 256
set_option Elab.async false
set_option linter.all false
set_option maxRecDepth 100000
set_option maxHeartbeats 4000000
namespace Lay
open PySem PySem.Spec PyProof.Rows L2
abbrev Bare (A : Around) : Prop := A.guards = some []
structure FnG (P : Program) (w : World) (K : PySem.W.Frag) (mg : Str → Option Value) (base : Heap) (CX : CXT) (k : Nat) (f : Addr) (fd : FuncData) (ps : List Str) (sp : Sp) : Prop where
  len : ∀ vs H Q E, sp vs H Q E → vs.length = ps.length
  go : ∀ A outer s H args us vs Q E, Bare A → Room k A → Env0 P w K mg base A outer s H → BindsTo s fd args (ps.zip us) → Vals vs us → sp vs H Q E → codeAny (model P w) A (.call (.ref f) args) (CR CX outer P w H s Q E) s
section
variable {P : Program} {w : World} {K : PySem.W.Frag} {mg : Str → Option Value} {base : Heap}
theorem FnG.of {CX : CXT} {k : Nat} {f : Addr} {fd : FuncData} {ps : List Str} {sp : Sp} (F : FnOk P w K mg base CX k f fd ps sp) : FnG P w K mg base CX k f fd ps sp :=
  ⟨F.len, fun A outer s H args us vs Q E _ hr e b r h => F.run A outer s H args us vs Q E hr e b r h⟩
theorem fng {CX : CXT} {x qual : Str} {st : Stmt} {f : Addr} {fd : FuncData} {N ps : List Str} {k : Nat} {sp : Sp} (F : Fun K x qual st f fd) (S : FnScope N ps (defScope st)) (len : ∀ vs H Q E, sp vs H Q E → vs.length = ps.length)
    (hbody : ∀ (cdv : Value) (A : Around) (outer : List Env) (s : Shared) (H : Hp) (vs : List V) (Q : VK) (E : XK), Bare (A.deeper (envOfC qual (defScope st) s.heap.objs.size f cdv)) → Room k (A.deeper (envOfC qual (defScope st) s.heap.objs.size f cdv)) → sp vs H Q E →
      ∃ t, PSs (cxOf CX P w K mg base N qual (defScope st) f cdv A outer s H E) (defBody st) t ∧ t { nx := fun _ H' => Q .non H', rt := Q } (start N vs) H) : FnG P w K mg base CX (k + 1) f fd ps sp := by
  obtain ⟨oc, od, kV, doc, pm, an, cdv, ct, osl, rfl, lk, hcd⟩ := F.ex
  refine ⟨len, fun A outer s H args us vs Q E hg hr e0 hb r hsp => ?_⟩
  have hl := len _ _ _ _ hsp
  have KX : K.In s.heap := e0.mod.kin.keeps fun b o e => (e0.bs b o e).1
  have lim : s.heap.NoLimit := e0.mod.nolimit.keeps fun b o e => (e0.bs b o e).1
  refine codeAny_call_function hr.depth (KX _ _ lk) rfl S.co S.gen rfl (PySem.W.codeRec_of KX hcd) (hb _ _ _ _ ?_)
  refine wpAny_newFunctionEnv_cells S.kind (fun y hy => ?_) fun env he s1 z => ?_
  · rcases S.par y.1 (List.of_mem_zip hy).1 with q | q
    · exact .inl q
    · exact .inr ⟨q, PySem.W.cellsFrom_some _ _ _ (.inl q)⟩
  · subst he
    refine ⟨lim.keeps z.toInCall.keep, codeAny_func ?_⟩
    obtain ⟨t, ht, hq⟩ := hbody cdv A outer s H vs Q E hg (hr.deeper _) hsp
    have I := inv_start (CX := CX) (E := E) S hr.hd e0 hl r z
    refine wpAny_mono (ht.run [] s1 (start N vs) H _ I hq) (fun fl s' hs => ?_) fun e s' hs => hs
    cases fl with
    | ret u =>
      obtain ⟨v, σ', H', J, rv, q⟩ := hs
      exact ⟨v, H', J.os, J.bare, J.base, J.hok, rv, q⟩
    | next =>
      obtain ⟨σ', H', J, q⟩ := hs
      exact ⟨.non, H', J.os, J.bare, J.base, J.hok, rfl, q⟩
    | brk => obtain ⟨_, _, _, q⟩ := hs; exact q.elim
    | cont => obtain ⟨_, _, _, q⟩ := hs; exact q.elim
end
section
variable {X : Cx} {CX : CXT} {k : Nat} {f : Addr} {fd : FuncData} {ps : List Str} {sp : Sp} {dvs : List V} {ds : List Value} {E : XK} {x : Str} {p pos : Pos} {e : Expr} {es : List Expr} {t : TA}
theorem pe_callG (F : FnG X.prog X.w X.K X.mg X.base CX k f fd ps sp) (hG : Bare X.A) (hr : Room k X.A) (hg : Gl X x) (hm : X.mg x = some (.ref f)) (hk : PySem.W.keepIn X.K (.ref f) = true) (hb : Binds X.K fd ps ds) (hd : Vals dvs ds) (hx : Passes CX X E)
    (ha : PA X (e :: es) t) (hdb : (x == ("__debug__" : Str)) = false := by decide) (he : starEach (e :: es) X.env = (false, eval e X.env) :: starEach es X.env := by rfl) (hpl : (backTo pos (starEach es X.env)).any (·.1) = false := by rfl) :
    PE X (.Call (.Name x p) (e :: es) [] pos) (tCall sp dvs E t) := by
  refine ⟨fun pins s σ H Q I h => wpAny_Call_Name_kw (ld_glob I hg hm ?_ hdb)⟩
  refine PySem.W.callWith_K (h₀ := X.base) I.ok.mod.kin hk (thn (ha.run pos pins s σ H _ I h) fun us s1 ⟨vs, H1, I1, r, q⟩ => ⟨I1.kIn, ?_⟩) he hpl
  have r2 : Vals (vs ++ dvs) (us ++ ds) := r.append hd
  have hl : (us ++ ds).length = ps.length := by rw [← r2.length]; exact F.len _ _ _ _ q
  refine wpAny_call (codeAny_mono (F.go X.A X.stack s1 H1 ⟨us, []⟩ (us ++ ds) (vs ++ dvs) Q E hG hr I1.env0 (hb s1 us I1.kIn hl) r2 q) fun r s' hq => ?_)
  cases r with
  | error e => exact hx pins σ H1 s1 e s' I1 hq
  | ok fl =>
    cases fl with
    | ret u => exact I1.after hq
    | next => exact False.elim hq
    | brk => exact False.elim hq
    | cont => exact False.elim hq
end
section
variable {X : Cx}
def rReprA (K : PySem.W.Frag) : List V → Hp → VK → Prop := fun xs H Q => ∃ v d, xs = [v] ∧ Dp K H v d ∧ d.showable = true ∧ d.hasDict = false ∧ d.depth ≤ 60 ∧ d.shown.length ≤ sizeLine ∧ Q (.str d.shown) H
theorem call_reprA {K : PySem.W.Frag} (hG : Bare X.A) (hu : X.A.units + 64 < cLine) (hK : X.K = K := by rfl) : CallR X (.builtin "repr") (rReprA K) := by
  subst hK
  intro pins s σ H xs us Q I r h
  obtain ⟨v, d, rfl, hd, h1, h2, h3, h4, q⟩ := h
  obtain ⟨u, rfl, ru⟩ := vals1 r
  obtain ⟨as, rd⟩ := Dp.reads I d v u hd ru
  cases v with
  | ref a =>
    cases ru
    refine repr_of_reads' rd h1 (fun z => by rw [h2] at z; cases z) hG (by omega) (fun _ _ e => e) (fun h' u tk hk => ?_) h4
    exact ⟨.str d.shown, H, I.kept hk, ⟨u, rfl⟩, q⟩
  | non =>
    cases hd
    cases ru
    exact P.repr_of_none ⟨.str _, H, I.tok _, ⟨_, rfl⟩, q⟩
  | bl b =>
    cases hd
    cases ru
    exact P.repr_of_bool ⟨.str _, H, I.tok _, ⟨_, rfl⟩, q⟩
  | int i =>
    cases hd
    obtain ⟨t, rfl⟩ := ru
    exact P.repr_of_int (by simpa [PyData.showable] using h1) ⟨.str _, H, I.tok _, ⟨_, rfl⟩, q⟩
  | str x =>
    cases hd
    obtain ⟨t, rfl⟩ := ru
    exact P.repr_of_str ⟨.str _, H, I.tok _, ⟨_, rfl⟩, q⟩ h4
  | byt _ => cases hd
  | flt _ => cases hd
  | ty _ => cases hd
end
end Lay

set_option exponentiation.threshold 256
set_option Elab.async false
set_option linter.all false
set_option maxRecDepth 100000
set_option maxHeartbeats 4000000
namespace Lay
open PySem PySem.Spec PyProof.Rows L2
section
variable {P : Program} {w : World} {K : PySem.W.Frag} {mg mb : Str → Option Value} {CX : CXT} {k : Nat} {fa a : Addr} {fd : FuncData} {x : Str} {sp : Sp} {s₁ : Shared} {vs : List Value} {ns : List Int}
abbrev Ends1 (h : Heap) (s₁ : Shared) (r : Result) (s' : Shared) : Prop := r = .ok (.ret (.bool true)) ∧ OldK h s'.heap ∧ s'.os = s₁.os ∧ AllBare s'.gens
theorem entry (KX : K.In s₁.heap) (hns : s₁.heap.Ns mainGlobals mg) (hb : s₁.heap.Ns builtinsNs mb) (hbb : ∀ x : Str, x ≠ "__name__" → mb x = bootBuiltins x) (hlim : s₁.heap.NoLimit) (hg : s₁.gens = #[])
    (hr : Room k callerA) (F : ∀ base : Heap, K.In base → base.Ns mainGlobals mg → FnG P w K mg base CX k fa fd [x] sp) (hbind : ∀ (s : Shared) (u : Value), BindsTo s fd ⟨[u], []⟩ [(x, u)])
    (hCX : ∀ H e s', CX [] H s₁ (fun _ _ _ => False) e s' → False)
    (H : Hp) (hS : sp [.ref a] H (fun v _ => v = .bl true) fun _ _ _ => False) (hok : HOk P w H s₁.heap) (hfree : ∀ b o, s₁.heap.get? b = some o → (∃ es ep, o.data = .dict es ep) ∨ (∃ o', K.lookup b = some o') → H b = none)
    (hst : ∀ b u, H b = some u → ∃ o ys, u = .frz o (.lst ys)) :
    codeAny (model P w) callerA (.call (.ref fa) ⟨[.ref a], []⟩) (Ends1 s₁.heap s₁) s₁ := by
  have keep : ∀ {b : Addr} {m : Str → Option Value}, s₁.heap.Ns b m → (hidT s₁.heap H).Ns b m := fun {b m} z => by
    obtain ⟨o, es, ep, e, d, r⟩ := z
    exact ⟨o, es, ep, hidT_get e (hfree b o e (.inl ⟨es, ep, d⟩)), d, r⟩
  have kin : K.In (hidT s₁.heap H) := fun b o e => hidT_get (KX b o e) (hfree b o (KX b o e) (.inr ⟨o, e⟩))
  obtain ⟨mc, l1, l2⟩ := hlim
  have e0 : Env0 P w K mg (hidT s₁.heap H) callerA [] s₁ H :=
    { frames := rfl, mod := ⟨kin, keep hns, ⟨mb, keep hb, hbb⟩, ⟨mc, keep l1, l2⟩⟩, bs := fun b o e => of_hidT e, bsz := Nat.le_of_eq (hidT_size _ _), funs := trivial, frf := (fun b hb => nomatch hb), hok := hok, bare := .of_eq hg }
  have run := (F _ kin (keep hns)).go callerA [] s₁ H ⟨[.ref a], []⟩ [.ref a] [.ref a] _ _ rfl hr e0 (hbind s₁ (.ref a)) (.cons rfl .nil) hS
  refine codeAny_mono run fun r s' h => ?_
  cases r with
  | error e => exact (hCX H e s' h).elim
  | ok fl =>
    cases fl with
    | ret u =>
      obtain ⟨v, H', os, bare, un, hok', r', q⟩ := h
      cases (show v = .bl true from q)
      cases (show u = Value.bool true from r')
      refine ⟨rfl, OldK.of_keep fun b o e => ?_, os, bare⟩
      cases q : H b with
      | none => exact un.keep b o e q (fun z => nomatch z) (fun z => nomatch z)
      | some u =>
        obtain ⟨ob, ys, rfl⟩ := hst b u q
        have e1 := (hok b _ q).1
        have e2 := (hok' b _ (un.frzs b ob _ q)).1
        rw [e] at e1
        cases e1
        exact e2
    | next => exact False.elim h
    | brk => exact False.elim h
    | cont => exact False.elim h
theorem walk_g {l : PySem.W.OpenLaw} {n : Nat} {q : Program} {loose : List Str} {XP : (Str → Option Value) → Heap → Prop} {YP : World → Heap → Prop} {d : DefRec} {K : Params → PySem.W.Frag} {CX : World → CXT} {sp : World → Sp}
    (hn : l.most = some n) (hn2 : n ≤ sizeLine) (hdf : d.params.defaults = []) (hr : Room k callerA) (hY : ∀ (w : World) (h : Heap), YP w h → (K w.params).In h)
    (F : ∀ (w : World) (mg : Str → Option Value) (fa : Addr) (h : Heap), (K w.params).In h → h.Ns mainGlobals mg → mg d.name = some (.ref fa) →
      ∃ fd : FuncData, (∀ (s : Shared) (u : Value), BindsTo s fd ⟨[u], []⟩ [(x, u)]) ∧ ∀ base : Heap, (K w.params).In base → base.Ns mainGlobals mg → FnG l.prog w (K w.params) mg base (CX w) k fa fd [x] (sp w))
    (hsp : ∀ (w : World) (H : Hp) (a : Addr) (ns : List Int), ns.length ≤ n → SqL (K w.params) H a (ns.map V.int) → sp w [.ref a] H (fun v _ => v = .bl true) fun _ _ _ => False)
    (hCX : ∀ (w : World) (H : Hp) (s : Shared) (e : Value) (s' : Shared), CX w [] H s (fun _ _ _ => False) e s' → False) :
    PySem.W.WalkO q loose XP YP l.row.toRowW d [] (fun f vs => PySem.call f vs) := by
  refine Att.attach_call hn hdf fun w s₀ s₁ mg mb fa o pm cd doc a vs ns G Y ho hd hcd hmg hobj hints hlen hg => ?_
  have KX := hY w _ Y
  obtain ⟨fd, hb, hF⟩ := F w mg fa _ KX G.T.g hmg
  have rv := vals_ints hints
  have lv := hints.length
  have hz : ns.length ≤ sizeLine := Nat.le_trans hlen hn2
  cases hk : (K w.params).lookup a with
  | some o2 =>
    have e := KX a o2 hk
    rw [hobj] at e
    cases e
    refine entry KX G.T.g G.T.b G.T.builtins G.T.nolimit hg hr hF hb (fun H e s' => hCX w H s₁ e s') (fun _ => none) ?_ (fun _ _ z => nomatch z) (fun _ _ _ _ => rfl) (fun _ _ z => nomatch z)
    exact hsp w _ a ns hlen (.inr ⟨_, vs.toArray, _, hk, rfl, rfl, rfl, by rw [List.size_toArray, lv]; exact hz, by simpa using rv⟩)
  | none =>
    generalize ho2 : ({ cls := .type "list", data := .seq vs.toArray } : Obj) = ob at hobj
    refine entry KX G.T.g G.T.b G.T.builtins G.T.nolimit hg hr hF hb (fun H e s' => hCX w H s₁ e s') (upd (fun _ => none) a (.frz ob (.lst (ns.map V.int)))) ?_ (fun b u z => ?_) (fun b o2 e1 e2 => ?_) (fun b u z => ?_)
    · exact hsp w _ a ns hlen (.inl (.inr ⟨ob, upd_same⟩))
    · by_cases c : b = a
      · subst c
        rw [upd_same] at z
        cases z
        subst ho2
        exact ⟨hobj, by rw [List.length_map]; exact hz, vs, _, rv, hobj⟩
      · rw [upd_ne c] at z
        cases z
    · by_cases c : b = a
      · subst c
        rw [hobj] at e1
        cases e1
        subst ho2
        rcases e2 with ⟨es, ep, e2⟩ | ⟨o', e2⟩
        · cases e2
        · rw [hk] at e2
          cases e2
      · rw [upd_ne c]
    · by_cases c : b = a
      · subst c
        rw [upd_same] at z
        cases z
        exact ⟨_, _, rfl⟩
      · rw [upd_ne c] at z
        cases z
end
end Lay

set_option exponentiation.threshold 256
set_option Elab.async false
set_option linter.all false
set_option maxRecDepth 100000
set_option maxHeartbeats 4000000
namespace Lay
open PySem PySem.Spec PyProof.Rows L2
structure FnC (CX : CXT) (P : Program) (w : World) (K : PySem.W.Frag) (mg : Str → Option Value) (base : Heap) (k : Nat) (x : Str) (sp : Sp) : Prop where
  ex : ∃ (f : Addr) (fd : FuncData) (ps : List Str), FnOk P w K mg base CX k f fd ps sp ∧ mg x = some (.ref f) ∧ PySem.W.keepIn K (.ref f) = true ∧ Binds K fd ps []
abbrev Fn0 := FnC CX0
abbrev FnX (P : Program) (w : World) := FnC (L2.CX P w) P w
structure FnS (P : Program) (w : World) (K : PySem.W.Frag) (mg : Str → Option Value) (base : Heap) (k : Nat) (x : Str) (sp : Sp) : Prop where
  ex : ∃ (f : Addr) (fd : FuncData) (ps : List Str), FnG P w K mg base CX0 k f fd ps sp ∧ mg x = some (.ref f) ∧ PySem.W.keepIn K (.ref f) = true ∧ Binds K fd ps []
structure MeC (CX : CXT) (P : Program) (w : World) (K : PySem.W.Frag) (mg : Str → Option Value) (base : Heap) (k : Nat) (C : Addr) (m : Str) (sp : Sp) : Prop where
  ex : ∃ (f : Addr) (fd : FuncData) (ps : List Str), FnOk P w K mg base CX k f fd ps sp ∧ Cls K C ∧ Meth K C m f ∧ Binds K fd ps []
structure MkC (P : Program) (w : World) (K : PySem.W.Frag) (mg : Str → Option Value) (base : Heap) (k : Nat) (x : Str) (C : Addr) (sp : Sp) : Prop where
  ex : ∃ (f : Addr) (fd : FuncData) (ps : List Str), FnOk P w K mg base CX0 k f fd ps sp ∧ Mk K C f ∧ mg x = some (.ref C) ∧ Binds K fd ps []
theorem FnC.imp {CX : CXT} {P : Program} {w : World} {K : PySem.W.Frag} {mg : Str → Option Value} {base : Heap} {k : Nat} {x : Str} {sp sp' : Sp} (c : FnC CX P w K mg base k x sp) (h : ∀ vs H Q E, sp' vs H Q E → sp vs H Q E) : FnC CX P w K mg base k x sp' := by
  obtain ⟨f, fd, ps, F, r⟩ := c.ex
  exact ⟨f, fd, ps, F.imp h, r⟩
section
variable {X : Cx} {CX : CXT} {j k : Nat} {sp : Sp} {E : XK} {x m : Str} {p pos apos : Pos} {e o : Expr} {es : List Expr} {t : TA} {ta : TE} {C : Addr}
theorem pe_f0 (c : Fn0 X.prog X.w X.K X.mg X.base k x sp) (hr : Room j X.A) (hk : k ≤ j) (ha : PA X (e :: es) t) (hg : Gl X x := by rfl) (hdb : (x == ("__debug__" : Str)) = false := by decide)
    (he : starEach (e :: es) X.env = (false, eval e X.env) :: starEach es X.env := by rfl) (hpl : (backTo pos (starEach es X.env)).any (·.1) = false := by rfl) :
    PE X (.Call (.Name x p) (e :: es) [] pos) (tCall sp [] E0 t) := by
  obtain ⟨f, fd, ps, F, hm, kp, b⟩ := c.ex
  exact pe_call F (hr.mono hk) hg hm kp b .nil pass0 ha hdb he hpl
theorem pe_f_0 (c : Fn0 X.prog X.w X.K X.mg X.base k x sp) (hr : Room j X.A) (hk : k ≤ j) (hg : Gl X x := by rfl) (hdb : (x == ("__debug__" : Str)) = false := by decide) :
    PE X (.Call (.Name x p) [] [] pos) (tCall sp [] E0 tNil) := by
  obtain ⟨f, fd, ps, F, hm, kp, b⟩ := c.ex
  exact pe_call0 F (hr.mono hk) hg hm kp b .nil pass0 hdb
theorem pe_fx (c : FnX X.prog X.w X.K X.mg X.base k x sp) (hr : Room j X.A) (hk : k ≤ j) (hx : Passes (L2.CX X.prog X.w) X E) (ha : PA X (e :: es) t) (hg : Gl X x := by rfl) (hdb : (x == ("__debug__" : Str)) = false := by decide)
    (he : starEach (e :: es) X.env = (false, eval e X.env) :: starEach es X.env := by rfl) (hpl : (backTo pos (starEach es X.env)).any (·.1) = false := by rfl) :
    PE X (.Call (.Name x p) (e :: es) [] pos) (tCall sp [] E t) := by
  obtain ⟨f, fd, ps, F, hm, kp, b⟩ := c.ex
  exact pe_call F (hr.mono hk) hg hm kp b .nil hx ha hdb he hpl
theorem pe_fs {E : L2.St → XK} (c : FnX X.prog X.w X.K X.mg X.base k x sp) (hr : Room j X.A) (hk : k ≤ j) (hx : ∀ σ, PassesAt (L2.CX X.prog X.w) X σ (E σ)) (ha : PA X (e :: es) t) (hg : Gl X x := by rfl) (hdb : (x == ("__debug__" : Str)) = false := by decide)
    (he : starEach (e :: es) X.env = (false, eval e X.env) :: starEach es X.env := by rfl) (hpl : (backTo pos (starEach es X.env)).any (·.1) = false := by rfl) :
    PE X (.Call (.Name x p) (e :: es) [] pos) (tCallSD sp [] E t) := by
  obtain ⟨f, fd, ps, F, hm, kp, b⟩ := c.ex
  exact pe_callSD F (hr.mono hk) hg hm kp b .nil hx ha hdb he hpl
theorem FnG.mono {P : Program} {w : World} {K : PySem.W.Frag} {mg : Str → Option Value} {base : Heap} {f : Addr} {fd : FuncData} {ps : List Str} (F : FnG P w K mg base CX j f fd ps sp) (h : j ≤ k) : FnG P w K mg base CX k f fd ps sp :=
  ⟨F.len, fun A outer s H args us vs Q E hg hr => F.go A outer s H args us vs Q E hg (hr.mono h)⟩
theorem pe_fg (c : FnS X.prog X.w X.K X.mg X.base k x sp) (hG : Bare X.A) (hr : Room j X.A) (hk : k ≤ j) (ha : PA X (e :: es) t) (hg : Gl X x := by rfl) (hdb : (x == ("__debug__" : Str)) = false := by decide)
    (he : starEach (e :: es) X.env = (false, eval e X.env) :: starEach es X.env := by rfl) (hpl : (backTo pos (starEach es X.env)).any (·.1) = false := by rfl) :
    PE X (.Call (.Name x p) (e :: es) [] pos) (tCall sp [] E0 t) := by
  obtain ⟨f, fd, ps, F, hm, kp, b⟩ := c.ex
  exact pe_callG F hG (hr.mono hk) hg hm kp b .nil pass0 ha hdb he hpl
theorem pe_me {pl : Sem Bool} (c : MeC CX X.prog X.w X.K X.mg X.base k C m sp) (hr : Room j X.A) (hk : k ≤ j) (hx : Passes CX X E) (ho : PE X o ta) (ha : PA X (e :: es) t)
    (hst : starEach (e :: es) X.env = (false, eval e X.env) :: starEach es X.env := by rfl) (hpl : (backTo pos (starEach es X.env)).any (·.1) = false := by rfl)
    (ht : eval (.Call (.Attribute o m apos) (e :: es) [] pos) X.env = (do
      let ov ← eval o X.env
      standAt apos.atName
      let (f, first) ← holding [ov] (getMethod ov m pl)
      callWith pos f first (backTo pos (starEach (e :: es) X.env)) (backToKw pos (keywordEach [] X.env))) := by rfl) :
    PE X (.Call (.Attribute o m apos) (e :: es) [] pos) (tMeth C m sp [] E ta t) := by
  obtain ⟨f, fd, ps, F, hc, hm, b⟩ := c.ex
  exact pe_meth (pl := pl) ho hc hm F (hr.mono hk) b .nil hx ha hst hpl ht
theorem pe_me0 {pl : Sem Bool} (c : MeC CX X.prog X.w X.K X.mg X.base k C m sp) (hr : Room j X.A) (hk : k ≤ j) (hx : Passes CX X E) (ho : PE X o ta)
    (ht : eval (.Call (.Attribute o m apos) [] [] pos) X.env = (do
      let ov ← eval o X.env
      standAt apos.atName
      let (f, first) ← holding [ov] (getMethod ov m pl)
      callWith pos f first (backTo pos (starEach [] X.env)) (backToKw pos (keywordEach [] X.env))) := by rfl) :
    PE X (.Call (.Attribute o m apos) [] [] pos) (tMeth C m sp [] E ta tNil) := by
  obtain ⟨f, fd, ps, F, hc, hm, b⟩ := c.ex
  exact pe_meth0 (pl := pl) ho hc hm F (hr.mono hk) b .nil hx ht
theorem pe_new0 (c : MkC X.prog X.w X.K X.mg X.base k x C sp) (hr : Room j X.A) (hk : k + 1 ≤ j) (hg : Gl X x := by rfl) (hdb : (x == ("__debug__" : Str)) = false := by decide) :
    PE X (.Call (.Name x p) [] [] pos) (tMake C sp [] E0 tNil) := by
  obtain ⟨f, fd, ps, F, M, hm, b⟩ := c.ex
  exact pe_make0 M F (hr.mono hk) hg hm b .nil pass0 hdb
theorem pe_new (c : MkC X.prog X.w X.K X.mg X.base k x C sp) (hr : Room j X.A) (hk : k + 1 ≤ j) (ha : PA X (e :: es) t) (hg : Gl X x := by rfl) (hdb : (x == ("__debug__" : Str)) = false := by decide)
    (he : starEach (e :: es) X.env = (false, eval e X.env) :: starEach es X.env := by rfl) (hpl : (backTo pos (starEach es X.env)).any (·.1) = false := by rfl) :
    PE X (.Call (.Name x p) (e :: es) [] pos) (tMake C sp [] E0 t) := by
  obtain ⟨f, fd, ps, F, M, hm, b⟩ := c.ex
  exact pe_make M F (hr.mono hk) hg hm b .nil pass0 ha hdb he hpl
theorem pe_gc {v : V} (hg : Gl X x) (h : ∃ u, X.mg x = some u ∧ RelV v u) (hd : (x == ("__debug__" : Str)) = false := by decide) : PE X (.Name x pos) (tC v) := by
  obtain ⟨u, hm, r⟩ := h
  exact pe_glob hg hm r hd
end
def Ites (x : Str) : It :=
  ⟨fun i _ => i < x.cps.size, fun i H v H' => ∃ T c, v = .ref T ∧ H T = none ∧ H' = upd H T (.tup [.int (i : Nat), .str ⟨#[c]⟩]) ∧ x.cps[i]? = some c, fun i _ => x.cps.size = i⟩
section
theorem turn_enumS {P : Program} {w : World} {K : PySem.W.Frag} {elts : List Expr} {kk : Nat} {tpos : Pos} (x : Str) (t : Tok) (e it : Addr) :
    Turn P w K (.Tuple elts kk tpos) (Ites x) [e, it] e (fun i h => (∃ old, IsEnum h e it ((i : Nat) : Int) old) ∧ h.IsStrIter it (strIterType x) x t i ∧ e ≠ it) where
  mem := List.mem_cons_self ..
  obj := fun i h st b hb => by
    obtain ⟨⟨old, he⟩, ⟨o, ho, hc, hd⟩, _⟩ := st
    rcases (show b = e ∨ b = it by simpa using hb) with rfl | rfl
    · exact ⟨_, he, fun v q => nomatch q⟩
    · exact ⟨o, ho, fun v q => by rw [hd] at q; cases q⟩
  keep := fun i h h' st k => by
    obtain ⟨⟨old, he⟩, ⟨o, ho, r⟩, hne⟩ := st
    exact ⟨⟨old, k e (by simp) _ he⟩, ⟨o, k it (by simp) o ho, r⟩, hne⟩
  item := by
    intro X hP hw hK hc i pins s σ H E I hf st hg
    subst hP hw hK
    obtain ⟨⟨old, he⟩, hit, hne⟩ := st
    have hel := Heap.lt_size he
    have hil : it < s.heap.objs.size := by
      obtain ⟨_, q, _⟩ := hit
      exact Heap.lt_size q
    refine wpAny_pyNext_enum_itemD (Draws.text (A := X.A.in1) (I.ok.hd hc) it x t) he hit hg hne (by simpa using hne) fun y h' tk hy ho hit' hT hsz hk => ?_
    obtain ⟨c, u, hcx, rfl⟩ := hy
    refine ⟨_, rfl, wpAny_letOwnedTupleGo_enum (s := { s with heap := h', toks := tk + 1 }) ho fun h'' he' sb => ?_⟩
    have hT2 := (sb.2 _ (Nat.ne_of_gt hel)).trans hT
    have new : ObjOk X.prog X.w (upd H s.heap.objs.size (.tup [.int (i : Nat), .str ⟨#[c]⟩])) h'' s.heap.objs.size (.tup [.int (i : Nat), .str ⟨#[c]⟩]) :=
      ⟨by show 2 ≤ sizeLine; decide, [.int i tk, .str ⟨#[c]⟩ u], .cons ⟨_, rfl⟩ (.cons ⟨_, rfl⟩ .nil), ⟨_, hT2, rfl, _, rfl⟩⟩
    have I1 := I.turnedNew (t' := tk + 1) (h' := h'') (ch := [e, it]) (fun b ob hb q => (sb.2 b (fun z => hb (by simp [z]))).trans (hk b ob (fun z => hb (by simp [z])) (fun z => hb (by simp [z])) q)) hf (Nat.le_refl _) new
    refine ⟨.ref s.heap.objs.size, _, I1, rfl, ⟨_, c, rfl, I.hok.fresh (Nat.le_refl _), rfl, hcx⟩, ⟨⟨.str ⟨#[c]⟩ u, ?_⟩, ?_, hne⟩, fun b hb => ?_⟩
    · rw [show ((i + 1 : Nat) : Int) = (i : Int) + 1 by omega]
      exact he'
    · obtain ⟨o, q, r⟩ := hit'
      exact ⟨o, (sb.2 it (Ne.symm hne)).trans q, r⟩
    · have hb' : b < s.heap.objs.size := by
        rcases (show b = e ∨ b = it by simpa using hb) with rfl | rfl
        · exact hel
        · exact hil
      rw [upd_ne (Nat.ne_of_lt hb')]
      exact (hf b hb).1
  done := by
    intro X hP hw hK hc i pins s σ H E I hf st hg
    subst hP hw hK
    obtain ⟨⟨old, he⟩, hit, hne⟩ := st
    obtain ⟨f0, f1, f2, f3, f4, f5⟩ := hf it (by simp)
    have hi : i = x.cps.size := Eq.symm hg
    subst hi
    exact wpAny_pyNext_enum_endD (Draws.text (A := X.A.in1) (I.ok.hd hc) it x t) he hit fun h' eb => ⟨rfl, I.turned (t' := s.toks) (fun b o hb q => eb b o hb q) f0 f1 f3 f4 f5⟩
  self := fun A i s Q E st h => let ⟨⟨_, he⟩, _⟩ := st; wpAny_pyIter_enum he h
def iEnumA (te : TE) : TI := fun σ H R => te σ H fun v H1 => ∃ x, v = .str x ∧ R (Ites x) H1
theorem pi_enumA {X : Cx} {e : Expr} {te : TE} {p pos tpos : Pos} {elts : List Expr} {kk : Nat} (hg : Gl X "enumerate") (hm : X.mg "enumerate" = none) (hc : X.calm = true) (he : PE X e te) (hs : starEach [e] X.env = [(false, eval e X.env)] := by rfl) :
    PI X (.Tuple elts kk tpos) (.Call (.Name "enumerate" p) [e] [] pos) (iEnumA te) := by
  refine ⟨fun pins s σ H R I h => ?_⟩
  refine Call_ (ld_blt I hg hm boot_enumerate (PyProof.Rows.callWith_type1 (thn ((pa_cons (es := []) he pa_nil (by rw [hs] <;> rfl)).run pos pins s σ H (fun vs H1 => ∃ x, vs = [.str x] ∧ R (Ites x) H1) I ?_) fun us s1 ⟨vs, H1, I1, r1, q1⟩ => ?_) hs rfl))
  · show te σ H _
    have e1 : (fun v H1 => ∃ x, [v] = [V.str x] ∧ R (Ites x) H1) = (fun (v : V) (H1 : Hp) => ∃ x, v = V.str x ∧ R (Ites x) H1) := by
      funext v H1
      simp
    show te σ H (fun v H1 => ∃ x, [v] = [V.str x] ∧ R (Ites x) H1)
    rw [e1]
    exact h
  · obtain ⟨x, rfl, q⟩ := q1
    obtain ⟨u, rfl, t, rfl⟩ := vals1 r1
    refine call_enumerate_str fun h' he hit hsz hk => wpAny_pyIter_enum he ?_
    have I2 : Inv X pins σ H1 { s1 with heap := h' } := I1.kept (t' := s1.toks) hk
    refine ⟨s1.heap.objs.size + 1, [s1.heap.objs.size + 1, s1.heap.objs.size], _, _, H1, rfl, I2, turn_enumS x t (s1.heap.objs.size + 1) s1.heap.objs.size, ⟨⟨.none, he⟩, hit, Nat.succ_ne_self _⟩, fun b hb => ?_, q⟩
    have hle : s1.heap.objs.size ≤ b := by
      rcases (show b = s1.heap.objs.size + 1 ∨ b = s1.heap.objs.size by simpa using hb) with rfl | rfl
      · exact Nat.le_add_right _ _
      · exact Nat.le_refl _
    exact I1.fpOk hle (I1.hok.fresh hle)
end
end Lay

set_option exponentiation.threshold 256
set_option Elab.async false
set_option linter.all false
set_option maxRecDepth 100000
set_option maxHeartbeats 4000000
namespace Lay
open PySem PySem.Spec PyProof.Rows L2
section
variable {σ : L2.St} {H : Hp} {Q : VK} {QT : Bool → Hp → Prop} {QA : List V → Hp → Prop} {i : Nat} {v x y : V} {ta tb te tc : TE} {t u : TT} {tr ts : TA} {r r' : R2} {K : PySem.W.Frag} {E : XK} {sp : Sp} {C : Addr} {m : Str}
variable {nx bk ct : L2.St → Hp → Prop} {rt : VK} {s1 s2 : TS} {g : TG}
theorem w_var (h : σ[i]? = some (some v)) (q : Q v H) : tVar i σ H Q := ⟨v, h, q⟩
theorem w_c (q : Q v H) : tC v σ H Q := q
theorem w_op (h : ta σ H fun x H1 => tb σ H1 fun y H2 => r x y H2 Q) : tOp r ta tb σ H Q := h
theorem w_un {r : V → Hp → VK → Prop} (h : ta σ H fun x H1 => r x H1 Q) : tUn r ta σ H Q := h
theorem w_neg {n : Int} (q : Q (.int (-n)) H) : rU (fun i => .int (-i)) (.int n) H Q := ⟨n, rfl, q⟩
theorem w_cb {r : List V → Hp → VK → Prop} (h : tr σ H fun vs H1 => r vs H1 Q) : tCB r tr σ H Q := h
theorem w_acons (h : ta σ H fun x H1 => tr σ H1 fun xs H2 => QA (x :: xs) H2) : tCons ta tr σ H QA := h
theorem w_anil (h : QA [] H) : tNil σ H QA := h
theorem w_tup0 (h : tr σ H fun xs H1 => xs.length ≤ 1000000 ∧ NewG H1 (.tup xs) Q) : tTupG tr σ H Q := h
theorem w_lst0 (h : tr σ H fun xs H1 => xs.length ≤ 1000000 ∧ NewG H1 (.lst xs) Q) : tLstG tr σ H Q := h
theorem w_mk {xs : List V} {o : HO} (hl : xs.length ≤ 1000000) (h : NewG H o Q) : xs.length ≤ 1000000 ∧ NewG H o Q := ⟨hl, h⟩
theorem w_tupL {p : Addr} {ys : List V} (h : SqL K H p ys) (q : NewG H (.tup ys) Q) : rTupA K [.ref p] H Q := ⟨p, ys, rfl, .inl ⟨h, q⟩⟩
theorem w_tupT {p : Addr} {ys : List V} (h : SqT K H p ys) (q : Q (.ref p) H) : rTupA K [.ref p] H Q := ⟨p, ys, rfl, .inr ⟨h, q⟩⟩
theorem w_listL {p : Addr} {ys : List V} (h : SqA K H p ys) (q : NewG H (.lst ys) Q) : rListA K [.ref p] H Q := ⟨p, ys, rfl, h, q⟩
theorem w_add_lst {a b : Addr} {xs ys : List V} (h1 : H a = some (.lst xs)) (h2 : H b = some (.lst ys)) (hl : xs.length + ys.length ≤ 1000000) (q : NewG H (.lst (xs ++ ys)) Q) : rAddA (.ref a) (.ref b) H Q := ⟨xs, ys, h1, h2, hl, q⟩
theorem w_sl_lst {a : Addr} {xs : List V} {lo hi : Option Int} (h : SqL K H a xs) (q : NewG H (.lst (cutV xs lo hi)) Q) : rSlA' K (.ref a) lo hi H Q := .inl ⟨xs, h, q⟩
theorem w_call (h : tr σ H fun vs H1 => sp vs H1 Q E) : tCall sp [] E tr σ H Q := by
  show tr σ H fun vs H1 => sp (vs ++ []) H1 Q E
  have e : (fun (vs : List V) H1 => sp (vs ++ []) H1 Q E) = fun vs H1 => sp vs H1 Q E := by
    funext vs H1
    rw [List.append_nil]
  rw [e]
  exact h
theorem w_callS {E : L2.St → XK} (h : tr σ H fun vs H1 => sp vs H1 Q (E σ)) : tCallSD sp [] E tr σ H Q := by
  show tr σ H fun vs H1 => sp (vs ++ []) H1 Q (E σ)
  have e : (fun (vs : List V) H1 => sp (vs ++ []) H1 Q (E σ)) = fun vs H1 => sp vs H1 Q (E σ) := by
    funext vs H1
    rw [List.append_nil]
  rw [e]
  exact h
theorem w_meth (h : ta σ H fun x H1 => ∃ a dx fs, x = .ref a ∧ H1 a = some (.ins C dx fs) ∧ fs.lookup m = none ∧ tr σ H1 fun vs H2 => sp (x :: vs) H2 Q E) : tMeth C m sp [] E ta tr σ H Q := by
  show ta σ H fun x H1 => ∃ a dx fs, x = .ref a ∧ H1 a = some (.ins C dx fs) ∧ fs.lookup m = none ∧ tr σ H1 fun vs H2 => sp (x :: vs ++ []) H2 Q E
  simp only [List.append_nil]
  exact h
theorem w_test (h : te σ H fun x H1 => ∃ k, x = .bl k ∧ QT k H1) : tTest te σ H QT := h
theorem w_tB (h : te σ H fun x H1 => ∃ k, x = .bl k ∧ QT k H1) : tB te σ H QT := h
theorem w_bl {b : Bool} {R : Bool → Prop} (q : R b) : ∃ k, V.bl b = .bl k ∧ R k := ⟨b, rfl, q⟩
theorem w_and (h : t σ H fun c H1 => if c = true then u σ H1 QT else QT false H1) : tAnd t u σ H QT := h
theorem w_or (h : t σ H fun c H1 => if c = true then QT true H1 else u σ H1 QT) : tOr t u σ H QT := h
theorem w_not (h : t σ H fun c H1 => QT (!c) H1) : tNot t σ H QT := h
theorem w_ifx (h : t σ H fun c H1 => if c = true then ta σ H1 Q else tb σ H1 Q) : tIf t ta tb σ H Q := h
theorem w_andV (h : ta σ H fun x H1 => ∃ c, x = .bl c ∧ if c = true then tb σ H1 Q else Q (.bl false) H1) : tAndV ta tb σ H Q := h
theorem w_orV (h : ta σ H fun x H1 => ∃ c, x = .bl c ∧ if c = true then Q (.bl true) H1 else tb σ H1 Q) : tOrV ta tb σ H Q := h
theorem w_notV (h : ta σ H fun x H1 => ∃ c, x = .bl c ∧ Q (.bl (!c)) H1) : tNotV ta σ H Q := h
theorem w_iteT {A B : Prop} (h : A) : if true = true then A else B := by rw [if_pos rfl]; exact h
theorem w_iteF {A B : Prop} (h : B) : if false = true then A else B := by rw [if_neg Bool.false_ne_true]; exact h
theorem w_ite {b : Bool} {A B : Prop} (h1 : b = true → A) (h2 : b = false → B) : if b = true then A else B := by
  cases b with
  | true => exact w_iteT (h1 rfl)
  | false => exact w_iteF (h2 rfl)
theorem w_iteP {b : Bool} {A B : Prop} (e : b = true) (h : A) : if b = true then A else B := by rw [if_pos e]; exact h
theorem w_iteN {b : Bool} {A B : Prop} (e : b = false) (h : B) : if b = true then A else B := by rw [e]; exact w_iteF h
theorem w_add_int {a b : Int} (q : Q (.int (a + b)) H) : rAddA (.int a) (.int b) H Q := q
theorem w_add_str {a b : Str} (hl : a.length + b.length ≤ 10000000) (q : Q (.str (a ++ b)) H) : rAddA (.str a) (.str b) H Q := ⟨Nat.le_trans hl (by decide), q⟩
theorem w_sub {a b : Int} (q : Q (.int (a - b)) H) : rSubA (.int a) (.int b) H Q := ⟨a, b, rfl, rfl, q⟩
theorem w_mod {a b : Int} (hb : 0 < b) (q : Q (.int (a % b)) H) : rModA (.int a) (.int b) H Q := ⟨a, b, rfl, rfl, hb, q⟩
theorem w_fdiv {a b : Int} (hb : 0 < b) (hb2 : b < 1073741824) (q : Q (.int (a / b)) H) : rFdivA (.int a) (.int b) H Q := ⟨a, b, rfl, rfl, ⟨hb, hb2⟩, q⟩
theorem w_mulR {a b : Int} (h1 : -(2 ^ 64) < b) (h2 : b < 2 ^ 64) (q : Q (.int (a * b)) H) : rMulA (.int a) (.int b) H Q := ⟨(show CMul a b from .inr ⟨h1, h2⟩).ok, q⟩
theorem w_mulL {a b : Int} (h1 : -(2 ^ 64) < a) (h2 : a < 2 ^ 64) (q : Q (.int (a * b)) H) : rMulA (.int a) (.int b) H Q := ⟨(show CMul a b from .inl ⟨h1, h2⟩).ok, q⟩
theorem w_mulStr {a : Str} {n : Int} (h : MulOk a n) (q : Q (.str (Txt.mul a n)) H) : rMulA (.str a) (.int n) H Q := ⟨h, q⟩
theorem w_aug {te : TE} {ti : TIp} (h : σ[i]? = some (some x)) (q : te σ H fun y H1 => ti x y H1 fun z H2 => nx (σ.set i (some z)) H2) : tAug i te ti ⟨nx, rt, bk, ct⟩ σ H := ⟨x, h, q⟩
theorem w_iadd_int {a b : Int} (q : Q (.int (a + b)) H) : rIaddA (.int a) (.int b) H Q := q
theorem w_iadd_str {a b : Str} (hl : a.length + b.length ≤ 10000000) (q : Q (.str (a ++ b)) H) : rIaddA (.str a) (.str b) H Q := ⟨Nat.le_trans hl (by decide), q⟩
theorem w_imul {a b : Int} (h : IntMulOk a b) (q : Q (.int (a * b)) H) : rI IntMulOk (fun i j => .int (i * j)) (.int a) (.int b) H Q := ⟨a, b, rfl, rfl, h, q⟩
theorem w_pow {a b : Int} (h : 0 ≤ b ∧ b ≤ 1000000 ∧ a.natAbs < 2 ^ 64) (q : Q (.int (a ^ b.toNat)) H) : rPowA (.int a) (.int b) H Q := ⟨a, b, rfl, rfl, h, q⟩
theorem w_lt_int {a b : Int} (q : Q (.bl (decide (a < b))) H) : rLtA (.int a) (.int b) H Q := q
theorem w_lt_str {a b : Str} (q : Q (.bl (strLt a b)) H) : rLtA (.str a) (.str b) H Q := q
theorem w_le_int {a b : Int} (q : Q (.bl (decide (a ≤ b))) H) : rLeA (.int a) (.int b) H Q := q
theorem w_le_str {a b : Str} (q : Q (.bl (!strLt b a)) H) : rLeA (.str a) (.str b) H Q := q
theorem w_gt {a b : Int} (q : Q (.bl (decide (b < a))) H) : rGtA (.int a) (.int b) H Q := ⟨a, b, rfl, rfl, q⟩
theorem w_ge {a b : Int} (q : Q (.bl (decide (b ≤ a))) H) : rGeA (.int a) (.int b) H Q := ⟨a, b, rfl, rfl, q⟩
theorem w_eq_int {a b : Int} (q : Q (.bl (decide (a = b))) H) : rEqA K (.int a) (.int b) H Q := .inl ⟨rfl, by
  rw [show decide (V.int a = V.int b) = decide (a = b) by simp]
  exact q⟩
theorem w_eq_str {a b : Str} (q : Q (.bl (decide (a = b))) H) : rEqA K (.str a) (.str b) H Q := .inl ⟨rfl, by
  rw [show decide (V.str a = V.str b) = decide (a = b) by simp]
  exact q⟩
theorem w_ne_int {a b : Int} (q : Q (.bl (!decide (a = b))) H) : rNeA K (.int a) (.int b) H Q := .inl ⟨rfl, by
  rw [show decide (V.int a = V.int b) = decide (a = b) by simp]
  exact q⟩
theorem w_ne_str {a b : Str} (q : Q (.bl (!decide (a = b))) H) : rNeA K (.str a) (.str b) H Q := .inl ⟨rfl, by
  rw [show decide (V.str a = V.str b) = decide (a = b) by simp]
  exact q⟩
theorem w_in_str {c : Nat} {z : Str} (q : Q (.bl (decide (c ∈ z.cps.toList))) H) : rInA K (.str ⟨#[c]⟩) (.str z) H Q := ⟨c, rfl, q⟩
theorem w_nin_str {c : Nat} {z : Str} (q : Q (.bl (!decide (c ∈ z.cps.toList))) H) : rNotInA K (.str ⟨#[c]⟩) (.str z) H Q := ⟨c, rfl, q⟩
theorem w_is (q : Q (.bl (decide (x = .non))) H) : rIsA x .non H Q := ⟨rfl, q⟩
theorem w_isnot (q : Q (.bl (!decide (x = .non))) H) : rIsNotA x .non H Q := ⟨rfl, q⟩
theorem w_ix_str {z : Str} {n : Int} {c : Nat} (hl : z.length ≤ 10000000) (ha : atI z.cps.toList n = some c) (q : Q (.str ⟨#[c]⟩) H) : rIxA K (.str z) (.int n) H Q := ⟨n, c, rfl, Nat.le_trans hl (by decide), ha, q⟩
theorem w_ix {p : Addr} {n : Int} {xs : List V} (hs : SqA K H p xs) (ha : atI xs n = some v) (q : Q v H) : rIxA K (.ref p) (.int n) H Q := ⟨n, xs, v, rfl, hs, ha, q⟩
theorem w_len_str {z : Str} (hl : z.length ≤ 10000000) (q : Q (.int (z.length : Nat)) H) : rLenA K [.str z] H Q := ⟨Nat.le_trans hl (by decide), q⟩
theorem w_len {p : Addr} {xs : List V} (hs : SqA K H p xs) (q : Q (.int (xs.length : Nat)) H) : rLenA K [.ref p] H Q := ⟨xs, hs, q⟩
theorem w_isi {T n : String} {b : Bool} (ht : TyN K H x n) (e : kitB n T = some b) (q : Q (.bl b) H) : rIsiA K [x, .ty T] H Q := ⟨x, T, n, b, rfl, ht, e, q⟩
theorem w_int_int {n : Int} (q : Q (.int n) H) : rIntA [.int n] H Q := q
theorem w_str_int {n : Int} (h : n.natAbs < 10 ^ 4300) (q : Q (.str (Str.ofString (toString n))) H) : rStrA [.int n] H Q := ⟨h, q⟩
theorem w_str_str {z : Str} (q : Q (.str z) H) : rStrA [.str z] H Q := q
theorem w_abs {n : Int} (q : Q (.int (if n < 0 then -n else n)) H) : rAbsA [.int n] H Q := ⟨n, rfl, q⟩
theorem w_sl {r : V → Option Int → Option Int → Hp → VK → Prop} {tl th : TO} (h : te σ H fun x H1 => tl σ H1 fun l H2 => th σ H2 fun u H3 => r x l u H3 Q) : tSl r te tl th σ H Q := h
theorem w_nopart {R : Option Int → Hp → Prop} (q : R none H) : tNoPart σ H R := q
theorem w_part {R : Option Int → Hp → Prop} (h : te σ H fun x H1 => ∃ i, x = .int i ∧ R (some i) H1) : tPart te σ H R := h
theorem w_exint {n : Int} {R : Int → Prop} (q : R n) : ∃ i, V.int n = .int i ∧ R i := ⟨n, rfl, q⟩
theorem w_sl_str {z : Str} {lo hi : Option Int} (hl : z.length ≤ 10000000) (q : Q (.str (cutS z lo hi)) H) : rSlA' K (.str z) lo hi H Q := ⟨Nat.le_trans hl (by decide), q⟩
theorem w_chain (h : ta σ H fun x H1 => tb σ H1 fun y H2 => r x y H2 fun z H3 => ∃ k, z = .bl k ∧ (if k = true then tc σ H3 fun w H4 => r' y w H4 Q else Q (.bl false) H3)) : tChain r r' ta tb tc σ H Q := h
theorem w_seq (h : s1 ⟨s2 ⟨nx, rt, bk, ct⟩, rt, bk, ct⟩ σ H) : tSeq s1 s2 ⟨nx, rt, bk, ct⟩ σ H := h
theorem w_next (q : nx σ H) : tNext ⟨nx, rt, bk, ct⟩ σ H := q
theorem w_brk (q : bk σ H) : tBreak ⟨nx, rt, bk, ct⟩ σ H := q
theorem w_cont (q : ct σ H) : tCont ⟨nx, rt, bk, ct⟩ σ H := q
theorem w_set {σ' : L2.St} (h : te σ H fun x H1 => nx (σ.set i (some x)) H1) : tAsg te (gName i) ⟨nx, rt, bk, ct⟩ σ H := h
theorem w_asg (h : te σ H fun x H1 => g x σ H1 nx) : tAsg te g ⟨nx, rt, bk, ct⟩ σ H := h
theorem w_ret (h : te σ H rt) : tRet te ⟨nx, rt, bk, ct⟩ σ H := h
theorem w_retN (h : rt .non H) : tRetN ⟨nx, rt, bk, ct⟩ σ H := h
theorem w_drop (h : te σ H fun _ H1 => nx σ H1) : tDrop te ⟨nx, rt, bk, ct⟩ σ H := h
theorem w_if (h : t σ H fun b H1 => if b = true then s1 ⟨nx, rt, bk, ct⟩ σ H1 else s2 ⟨nx, rt, bk, ct⟩ σ H1) : tIfS t s1 s2 ⟨nx, rt, bk, ct⟩ σ H := h
theorem w_par {j : Nat} (h : tr σ H fun vs H1 => ∃ v w, vs = [v, w] ∧ nx ((σ.set i (some v)).set j (some w)) H1) : tPar i j tr ⟨nx, rt, bk, ct⟩ σ H := h
theorem w_two {a b : V} {R : V → V → Prop} (q : R a b) : ∃ v w, [a, b] = [v, w] ∧ R v w := ⟨a, b, rfl, q⟩
theorem w_par3 {j l : Nat} (h : tr σ H fun vs H1 => ∃ u v w, vs = [u, v, w] ∧ nx (((σ.set i (some u)).set j (some v)).set l (some w)) H1) : tPar3 i j l tr ⟨nx, rt, bk, ct⟩ σ H := h
theorem w_three {a b c : V} {R : V → V → V → Prop} (q : R a b c) : ∃ u v w, [a, b, c] = [u, v, w] ∧ R u v w := ⟨a, b, c, rfl, q⟩
theorem w_gset (q : nx (σ.set i (some v)) H) : gName i v σ H nx := q
theorem w_fld0 {f : Str} (h : te σ H fun x H1 => ∃ a C dx fs v, x = .ref a ∧ H1 a = some (.ins C dx fs) ∧ Cls K C ∧ NoAttr K C f ∧ fs.lookup f = some v ∧ Q v H1) : tFld K te f σ H Q := h
theorem w_fldAt {f : Str} {a dx : Addr} {fs : List (Str × V)} {R : V → Prop} (ha : H a = some (.ins C dx fs)) (hc : Cls K C) (hn : NoAttr K C f) (hl : fs.lookup f = some v) (q : R v) :
    ∃ a' C dx fs v, V.ref a = .ref a' ∧ H a' = some (.ins C dx fs) ∧ Cls K C ∧ NoAttr K C f ∧ fs.lookup f = some v ∧ R v := ⟨a, C, dx, fs, v, rfl, ha, hc, hn, hl, q⟩
end
def isIntD : PyData → Bool
  | .int _ => true
  | .bool _ => true
  | _ => false
def isBoolD : PyData → Bool
  | .bool _ => true
  | _ => false
def isStrD : PyData → Bool
  | .str _ => true
  | _ => false
def isTupD : PyData → Bool
  | .tuple _ => true
  | _ => false
def isLstD : PyData → Bool
  | .list _ => true
  | _ => false
section
variable {K : PySem.W.Frag} {H : Hp} {v : V} {d : PyData} {Q : VK}
theorem w_isInt (h : Dp K H v d) (q : Q (.bl (isIntD d)) H) : rIsiA K [v, .ty "int"] H Q := by
  cases h with
  | non => exact w_isi .non (by first | (show _ = some true; decide +kernel) | (show _ = some false; decide +kernel)) q
  | bl b => exact w_isi (.bl b) (by first | (show _ = some true; decide +kernel) | (show _ = some false; decide +kernel)) q
  | int b => exact w_isi (.int b) (by first | (show _ = some true; decide +kernel) | (show _ = some false; decide +kernel)) q
  | str b => exact w_isi (.str b) (by first | (show _ = some true; decide +kernel) | (show _ = some false; decide +kernel)) q
  | lst h _ => exact w_isi (.lst h) (by first | (show _ = some true; decide +kernel) | (show _ = some false; decide +kernel)) q
  | tup h _ => exact w_isi (.tup h) (by first | (show _ = some true; decide +kernel) | (show _ = some false; decide +kernel)) q
theorem w_isBool (h : Dp K H v d) (q : Q (.bl (isBoolD d)) H) : rIsiA K [v, .ty "bool"] H Q := by
  cases h with
  | non => exact w_isi .non (by first | (show _ = some true; decide +kernel) | (show _ = some false; decide +kernel)) q
  | bl b => exact w_isi (.bl b) (by first | (show _ = some true; decide +kernel) | (show _ = some false; decide +kernel)) q
  | int b => exact w_isi (.int b) (by first | (show _ = some true; decide +kernel) | (show _ = some false; decide +kernel)) q
  | str b => exact w_isi (.str b) (by first | (show _ = some true; decide +kernel) | (show _ = some false; decide +kernel)) q
  | lst h _ => exact w_isi (.lst h) (by first | (show _ = some true; decide +kernel) | (show _ = some false; decide +kernel)) q
  | tup h _ => exact w_isi (.tup h) (by first | (show _ = some true; decide +kernel) | (show _ = some false; decide +kernel)) q
theorem w_isStr (h : Dp K H v d) (q : Q (.bl (isStrD d)) H) : rIsiA K [v, .ty "str"] H Q := by
  cases h with
  | non => exact w_isi .non (by first | (show _ = some true; decide +kernel) | (show _ = some false; decide +kernel)) q
  | bl b => exact w_isi (.bl b) (by first | (show _ = some true; decide +kernel) | (show _ = some false; decide +kernel)) q
  | int b => exact w_isi (.int b) (by first | (show _ = some true; decide +kernel) | (show _ = some false; decide +kernel)) q
  | str b => exact w_isi (.str b) (by first | (show _ = some true; decide +kernel) | (show _ = some false; decide +kernel)) q
  | lst h _ => exact w_isi (.lst h) (by first | (show _ = some true; decide +kernel) | (show _ = some false; decide +kernel)) q
  | tup h _ => exact w_isi (.tup h) (by first | (show _ = some true; decide +kernel) | (show _ = some false; decide +kernel)) q
theorem w_isTup (h : Dp K H v d) (q : Q (.bl (isTupD d)) H) : rIsiA K [v, .ty "tuple"] H Q := by
  cases h with
  | non => exact w_isi .non (by first | (show _ = some true; decide +kernel) | (show _ = some false; decide +kernel)) q
  | bl b => exact w_isi (.bl b) (by first | (show _ = some true; decide +kernel) | (show _ = some false; decide +kernel)) q
  | int b => exact w_isi (.int b) (by first | (show _ = some true; decide +kernel) | (show _ = some false; decide +kernel)) q
  | str b => exact w_isi (.str b) (by first | (show _ = some true; decide +kernel) | (show _ = some false; decide +kernel)) q
  | lst h _ => exact w_isi (.lst h) (by first | (show _ = some true; decide +kernel) | (show _ = some false; decide +kernel)) q
  | tup h _ => exact w_isi (.tup h) (by first | (show _ = some true; decide +kernel) | (show _ = some false; decide +kernel)) q
theorem w_isLst (h : Dp K H v d) (q : Q (.bl (isLstD d)) H) : rIsiA K [v, .ty "list"] H Q := by
  cases h with
  | non => exact w_isi .non (by first | (show _ = some true; decide +kernel) | (show _ = some false; decide +kernel)) q
  | bl b => exact w_isi (.bl b) (by first | (show _ = some true; decide +kernel) | (show _ = some false; decide +kernel)) q
  | int b => exact w_isi (.int b) (by first | (show _ = some true; decide +kernel) | (show _ = some false; decide +kernel)) q
  | str b => exact w_isi (.str b) (by first | (show _ = some true; decide +kernel) | (show _ = some false; decide +kernel)) q
  | lst h _ => exact w_isi (.lst h) (by first | (show _ = some true; decide +kernel) | (show _ = some false; decide +kernel)) q
  | tup h _ => exact w_isi (.tup h) (by first | (show _ = some true; decide +kernel) | (show _ = some false; decide +kernel)) q
theorem lc_str {x : Str} {g : TG} {tt : TT} {te : TE} {vs : List Nat} {σ : L2.St} {H1 : Hp} {D : Addr} {Qd : Hp → Prop} (Pv : Nat → Hp → Prop) (h0 : Pv 0 (upd H1 D (.lst [])))
    (hs : ∀ i c H, x.cps.toList[i]? = some c → Pv i H → g (.str ⟨#[c]⟩) (wipe σ vs) H fun σ2 H2 => wipe σ2 vs = wipe σ vs ∧ tt σ2 H2 fun b H3 =>
      if b = true then te σ2 H3 fun y H4 => ∃ acc, H4 D = some (.lst acc) ∧ acc.length < sizeLine ∧ Pv (i + 1) (upd H4 D (.lst (acc ++ [y]))) else Pv (i + 1) H3) (hd : ∀ H, Pv x.cps.toList.length H → Qd H) :
    ∃ W : Nat → Nat → Hp → Prop, (∃ m, W 0 m (upd H1 D (.lst []))) ∧ ∀ i m H, W i m H →
      ((Its x).stop i H ∧ Qd H) ∨ ((Its x).go i H ∧ ∃ Nx : Hp → Prop, (∀ H', Nx H' → ∃ m', m' < m ∧ W (i + 1) m' H') ∧ ∀ v H', (Its x).yld i H v H' → g v (wipe σ vs) H' fun σ2 H2 => wipe σ2 vs = wipe σ vs ∧ tt σ2 H2 fun b H3 =>
        if b = true then te σ2 H3 fun y H4 => ∃ acc, H4 D = some (.lst acc) ∧ acc.length < sizeLine ∧ Nx (upd H4 D (.lst (acc ++ [y]))) else Nx H3) := by
  have hz : x.cps.toList.length = x.cps.size := Array.length_toList
  refine ⟨fun i m H => m = x.cps.size - i ∧ i ≤ x.cps.size ∧ Pv i H, ⟨x.cps.size, by omega, Nat.zero_le _, h0⟩, fun i m H z => ?_⟩
  obtain ⟨rfl, hi, p⟩ := z
  by_cases hlt : i < x.cps.size
  · refine .inr ⟨hlt, Pv (i + 1), fun H' p' => ⟨x.cps.size - (i + 1), by omega, rfl, hlt, p'⟩, fun v H' y => ?_⟩
    obtain ⟨rfl, c, hc, rfl⟩ := y
    exact hs i c _ (by rw [Array.getElem?_toList]; exact hc) p
  · have e : i = x.cps.size := by omega
    subst e
    exact .inl ⟨Nat.le_refl _, hd H (by rw [hz]; exact p)⟩
end
theorem lst_keep {H H' : Hp} {D : Addr} {ys : List V} (e : Same H H') (n : H D = none) : Same H (upd H' D (.lst ys)) := Same.mut e n
theorem w_lcS {K : PySem.W.Frag} {x : Str} {i j : Nat} {vs : List Nat} {te : TE} {σ : L2.St} {H : Hp} {Q : VK} (f : Nat → V) (hv : σ[i]? = some (some (.str x))) (hz : x.length ≤ 10000000)
    (hw : ∀ v, wipe ((wipe σ vs).set j (some v)) vs = wipe σ vs)
    (he : ∀ c H1, c ∈ x.cps.toList → Same H H1 → ∀ R : VK, (∀ H2, Same H1 H2 → R (f c) H2) → te ((wipe σ vs).set j (some (.str ⟨#[c]⟩))) H1 R)
    (q : ∀ D H2, H D = none → Same H H2 → H2 D = some (.lst (x.cps.toList.map f)) → Q (.ref D) H2) : tLc (iAny K (tVar i)) (gName j) tYes te vs σ H Q := by
  refine ⟨_, hv, fun D hD => ?_⟩
  have hl : x.cps.toList.length = x.length := Array.length_toList
  have big : (10000000 : Nat) < sizeLine := by decide
  refine lc_str (fun n H' => Same H H' ∧ H' D = some (.lst ((x.cps.toList.take n).map f))) ⟨same_upd hD, upd_same⟩ (fun n c H' hc p => ?_) (fun H' p => ?_)
  · obtain ⟨p1, p2⟩ := p
    refine ⟨hw _, ?_⟩
    simp only [tYes, if_true]
    refine he c H' (List.mem_iff_getElem?.mpr ⟨n, hc⟩) p1 _ fun H2 e2 => ⟨_, e2 D _ p2, ?_, Same.mut (p1.trans e2) hD, ?_⟩
    · rw [List.length_map, List.length_take]
      have : n < x.cps.toList.length := (List.getElem?_eq_some_iff.mp hc).1
      omega
    · rw [upd_same, List.take_add_one, hc, List.map_append]
      rfl
  · obtain ⟨p1, p2⟩ := p
    rw [List.take_length] at p2
    exact q D H' hD p1 p2
theorem w_all {K : PySem.W.Frag} {D : Addr} {bs : List Bool} {H : Hp} {Q : VK} (h : SqL K H D (bs.map V.bl)) (q : Q (.bl (bs.all id)) H) : rAll K [.ref D] H Q := ⟨D, bs, rfl, h, q⟩
theorem w_any {K : PySem.W.Frag} {D : Addr} {bs : List Bool} {H : Hp} {Q : VK} (h : SqL K H D (bs.map V.bl)) (q : Q (.bl (bs.any id)) H) : rAny K [.ref D] H Q := ⟨D, bs, rfl, h, q⟩
def Lp (J : It) (g : TG) (tb : TS) (D : Ends) (σ : L2.St) (H : Hp) : Prop := ∃ W : Nat → Nat → L2.St → Hp → Prop, (∃ m, W 0 m σ H) ∧ ∀ i m σ H, W i m σ H →
  (J.stop i H ∧ D.nx σ H) ∨ (J.go i H ∧ ∃ N : L2.St → Hp → Prop, (∀ σ' H', N σ' H' → ∃ m', m' < m ∧ W (i + 1) m' σ' H') ∧ ∀ x H', J.yld i H x H' → g x σ H' fun σ2 H2 => tb { D with nx := N, ct := N, bk := D.nx } σ2 H2)
section
variable {K : PySem.W.Frag} {σ : L2.St} {H : Hp} {ta : TA} {te : TE} {g : TG} {tb : TS} {nx bk ct : L2.St → Hp → Prop} {rt : VK} {a : Addr} {xs : List V} {x : Str} {D : Ends}
theorem w_for1 (h : ta σ H fun vs H1 => ∃ j : Int, vs = [.int j] ∧ -(2 ^ 62) ≤ j ∧ j < 2 ^ 62 ∧ Lp (Itr 0 j.toNat) g tb D σ H1) : tFor (iRng1 ta) g tb D σ H := h
theorem w_for2 (h : ta σ H fun vs H1 => ∃ i j : Int, vs = [.int i, .int j] ∧ (-(2 ^ 62) ≤ i ∧ i < 2 ^ 62 ∧ -(2 ^ 62) ≤ j ∧ j < 2 ^ 62) ∧ Lp (Itr i (j - i).toNat) g tb D σ H1) : tFor (iRng2 ta) g tb D σ H := h
theorem w_for3 (h : ta σ H fun vs H1 => ∃ (i j c : Int) (n : Nat), vs = [.int i, .int j, .int c] ∧ RgC i j c n ∧ Lp (Itc i c n) g tb D σ H1) : tFor (iRng3 ta) g tb D σ H := h
theorem w_forA (h : te σ H fun v H1 => itA K v H1 fun J H2 => Lp J g tb D σ H2) : tFor (iAny K te) g tb D σ H := h
theorem w_forE (h : te σ H fun v H1 => ∃ x, v = .str x ∧ Lp (Ites x) g tb D σ H1) : tFor (iEnumA te) g tb D σ H := h
theorem lp_range {n : Nat} {j : Nat} (Pv : Nat → L2.St → Hp → Prop) (h0 : Pv 0 σ H) (hs : ∀ i σ' H', i < n → Pv i σ' H' → tb ⟨Pv (i + 1), rt, nx, Pv (i + 1)⟩ (σ'.set j (some (.int (i : Nat)))) H') (hd : ∀ σ' H', Pv n σ' H' → nx σ' H') :
    Lp (Itr 0 n) (gName j) tb ⟨nx, rt, bk, ct⟩ σ H :=
  for_range Pv h0 (fun i σ' H' hi p => by
    have e : (0 : Int) + (i : Nat) = (i : Nat) := Int.zero_add _
    show tb _ (σ'.set j (some (.int (0 + (i : Nat))))) H'
    rw [e]
    exact hs i σ' H' hi p) hd
theorem r1_of {m : Int} {n : Nat} (hm : m = (n : Int)) (hn : n ≤ 1000000000) (h : Lp (Itr 0 n) g tb D σ H) : ∃ j : Int, [V.int m] = [.int j] ∧ -(2 ^ 62) ≤ j ∧ j < 2 ^ 62 ∧ Lp (Itr 0 j.toNat) g tb D σ H := by
  refine ⟨m, rfl, by omega, by omega, ?_⟩
  rw [hm, Int.toNat_natCast]
  exact h
theorem lp_rangeC {lo c : Int} {n j : Nat} (Pv : Nat → L2.St → Hp → Prop) (h0 : Pv 0 σ H) (hs : ∀ i σ' H', i < n → Pv i σ' H' → tb ⟨Pv (i + 1), rt, nx, Pv (i + 1)⟩ (σ'.set j (some (.int (lo + (i : Nat) * c)))) H') (hd : ∀ σ' H', Pv n σ' H' → nx σ' H') :
    Lp (Itc lo c n) (gName j) tb ⟨nx, rt, bk, ct⟩ σ H := for_rangeC Pv h0 hs hd
theorem r3_down {n : Nat} (hn : n ≤ 1000000000) (h : Lp (Itc ((n : Int) - 1) (-1) n) g tb D σ H) : ∃ (i j c : Int) (k : Nat), [V.int ((n : Int) - 1), V.int (-1), V.int (-1)] = [.int i, .int j, .int c] ∧ RgC i j c k ∧ Lp (Itc i c k) g tb D σ H := by
  have e : ((n : Int) - 1 - (-1)).toNat = n := by omega
  have r := RgC.neg (i := (n : Int) - 1) (j := -1) (by omega) (by omega) (by decide) (by decide)
  rw [e] at r
  exact ⟨_, _, _, n, rfl, r, h⟩
theorem lp_list (hq : SqL K H a xs) (Pv : Nat → L2.St → Hp → Prop) (h0 : Pv 0 σ H) (hl : ∀ i σ' H', i ≤ xs.length → Pv i σ' H' → SqL K H' a xs)
    (hs : ∀ i y σ' H', xs[i]? = some y → Pv i σ' H' → g y σ' H' fun σ2 H2 => tb ⟨Pv (i + 1), rt, nx, Pv (i + 1)⟩ σ2 H2) (hd : ∀ σ' H', Pv xs.length σ' H' → nx σ' H') :
    itA K (.ref a) H fun J H2 => Lp J g tb ⟨nx, rt, bk, ct⟩ σ H2 := .inl ⟨⟨xs, hq⟩, for_list Pv h0 hl hs hd⟩
theorem lp_tup (hq : SqT K H a xs) (Pv : Nat → L2.St → Hp → Prop) (h0 : Pv 0 σ H) (hl : ∀ i σ' H', i ≤ xs.length → Pv i σ' H' → SqT K H' a xs)
    (hs : ∀ i y σ' H', xs[i]? = some y → Pv i σ' H' → g y σ' H' fun σ2 H2 => tb ⟨Pv (i + 1), rt, nx, Pv (i + 1)⟩ σ2 H2) (hd : ∀ σ' H', Pv xs.length σ' H' → nx σ' H') :
    itA K (.ref a) H fun J H2 => Lp J g tb ⟨nx, rt, bk, ct⟩ σ H2 := .inr ⟨⟨xs, hq⟩, for_tup Pv h0 hl hs hd⟩
theorem lp_str (Pv : Nat → L2.St → Hp → Prop) (h0 : Pv 0 σ H) (hs : ∀ i c σ' H', x.cps.toList[i]? = some c → Pv i σ' H' → g (.str ⟨#[c]⟩) σ' H' fun σ2 H2 => tb ⟨Pv (i + 1), rt, nx, Pv (i + 1)⟩ σ2 H2)
    (hd : ∀ σ' H', Pv x.cps.toList.length σ' H' → nx σ' H') : itA K (.str x) H fun J H2 => Lp J g tb ⟨nx, rt, bk, ct⟩ σ H2 := by
  have hz : x.cps.toList.length = x.cps.size := Array.length_toList
  refine ⟨fun i m σ H => m = x.cps.size - i ∧ i ≤ x.cps.size ∧ Pv i σ H, ⟨x.cps.size, by omega, Nat.zero_le _, h0⟩, fun i m σ H z => ?_⟩
  obtain ⟨rfl, hi, p⟩ := z
  by_cases hlt : i < x.cps.size
  · refine .inr ⟨hlt, Pv (i + 1), fun σ' H' p' => ⟨x.cps.size - (i + 1), by omega, rfl, hlt, p'⟩, fun v H' y => ?_⟩
    obtain ⟨rfl, c, hc, rfl⟩ := y
    exact hs i c σ _ (by rw [Array.getElem?_toList]; exact hc) p
  · have e : i = x.cps.size := by omega
    subst e
    exact .inl ⟨Nat.le_refl _, hd σ H (by rw [hz]; exact p)⟩
theorem lp_enum {j k : Nat} (Pv : Nat → L2.St → Hp → Prop) (h0 : Pv 0 σ H)
    (hs : ∀ i c σ' H' H2, x.cps.toList[i]? = some c → Pv i σ' H' → Same H' H2 → tb ⟨Pv (i + 1), rt, nx, Pv (i + 1)⟩ ((σ'.set j (some (.int (i : Nat)))).set k (some (.str ⟨#[c]⟩))) H2)
    (hd : ∀ σ' H', Pv x.cps.toList.length σ' H' → nx σ' H') : Lp (Ites x) (gTup K 2 (gCons (gName j) (gCons (gName k) gNil))) tb ⟨nx, rt, bk, ct⟩ σ H := by
  have hz : x.cps.toList.length = x.cps.size := Array.length_toList
  refine ⟨fun i m σ H => m = x.cps.size - i ∧ i ≤ x.cps.size ∧ Pv i σ H, ⟨x.cps.size, by omega, Nat.zero_le _, h0⟩, fun i m σ H z => ?_⟩
  obtain ⟨rfl, hi, p⟩ := z
  by_cases hlt : i < x.cps.size
  · refine .inr ⟨hlt, Pv (i + 1), fun σ' H' p' => ⟨x.cps.size - (i + 1), by omega, rfl, hlt, p'⟩, fun v H' y => ?_⟩
    obtain ⟨T, c, rfl, hT, rfl, hc⟩ := y
    refine ⟨T, _, rfl, SqT.of upd_same, rfl, _, _, rfl, _, _, rfl, rfl, ?_⟩
    exact hs i c σ _ _ (by rw [Array.getElem?_toList]; exact hc) p (same_upd hT)
  · have e : i = x.cps.size := by omega
    subst e
    exact .inl ⟨rfl, hd σ H (by rw [hz]; exact p)⟩
end
def tMid (t u : TS) : TS := fun D σ H => ∃ M : L2.St → Hp → Prop, t { D with nx := M } σ H ∧ ∀ σ' H', M σ' H' → u D σ' H'
theorem pss_mid {X : Cx} {st : Stmt} {rest : List Stmt} {t u : TS} (h1 : PS X st t) (h2 : PSs X rest u) : PSs X (st :: rest) (tMid t u) := by
  refine ⟨fun pins s σ H D I h => ?_⟩
  obtain ⟨M, hm, hu⟩ := h
  refine wpAny_execs_cons (thn (h1.run pins s σ H { D with nx := M } I hm) fun f s1 q => ?_)
  cases f with
  | next =>
    obtain ⟨σ', H', I', q⟩ := q
    exact h2.run pins s1 σ' H' D I' (hu σ' H' q)
  | ret v => exact q
  | brk => exact q
  | cont => exact q
theorem w_mid {t u : TS} {nx bk ct : L2.St → Hp → Prop} {rt : VK} {σ : L2.St} {H : Hp} (M : L2.St → Hp → Prop) (h1 : t ⟨M, rt, bk, ct⟩ σ H) (h2 : ∀ σ' H', M σ' H' → u ⟨nx, rt, bk, ct⟩ σ' H') : tMid t u ⟨nx, rt, bk, ct⟩ σ H := ⟨M, h1, h2⟩
section
variable {K : PySem.W.Frag} {T : String} {r : V → List V → Hp → VK → Prop} {to : TE} {t : TA} {σ : L2.St} {H : Hp} {Q : VK} {l : Addr} {xs : List V} {y : V} {R : Prop}
theorem w_bm0 (h : to σ H fun x H1 => tyV K T x H1 ∧ r x [] H1 Q) : tBM0 K T r to σ H Q := h
theorem w_bm (h : to σ H fun x H1 => tyV K T x H1 ∧ t σ H1 fun xs H2 => r x xs H2 Q) : tBM K T r to t σ H Q := h
theorem w_ty (h : H l = some (.lst xs)) (q : R) : tyV K "list" (.ref l) H ∧ R := ⟨Or.inl ⟨rfl, _, SqL.of h⟩, q⟩
theorem w_appG (h : H l = some (.lst xs)) (hl : xs.length ≤ 10000000) (q : ∀ H', But l H H' → Txt H H' → H' l = some (.lst (xs ++ [y])) → Q .non H') : rAppend (.ref l) [y] H Q :=
  ⟨l, xs, y, rfl, rfl, h, Nat.lt_of_le_of_lt hl (by decide), q _ (But.upd (But.refl H)) (Txt.lst h) upd_same⟩
theorem w_popG (h : H l = some (.lst (xs ++ [y]))) (q : ∀ H', But l H H' → Txt H H' → H' l = some (.lst xs) → Q y H') : rPop (.ref l) [] H Q := by
  refine ⟨l, xs ++ [y], y, rfl, rfl, h, ?_, ?_⟩
  · rw [List.length_append, List.length_singleton, Nat.add_sub_cancel, List.getElem?_append_right (Nat.le_refl _), Nat.sub_self]
    rfl
  · have e : (xs ++ [y]).dropLast = xs := by simp
    rw [e]
    exact q _ (But.upd (But.refl H)) (Txt.lst h) upd_same
theorem same_but {H0 H1 H2 : Hp} (e : Same H0 H1) (b : But l H1 H2) (n : H0 l = none) : Same H0 H2 := fun a o h => b a o (ne_of_none h n) (e a o h)
theorem w_gtup {n : Nat} {t : TGs} {a : Addr} {xs : List V} {R : L2.St → Hp → Prop} (h : SqT K H a xs) (hl : xs.length = n) (q : t xs σ H R) : gTup K n t (.ref a) σ H R := ⟨a, xs, rfl, h, hl, q⟩
theorem w_gcons {g : TG} {t : TGs} {v : V} {vs : List V} {R : L2.St → Hp → Prop} (q : g v σ H fun σ' H' => t vs σ' H' R) : gCons g t (v :: vs) σ H R := ⟨v, vs, rfl, q⟩
theorem w_gnil {R : L2.St → Hp → Prop} (q : R σ H) : gNil [] σ H R := ⟨rfl, q⟩
end
theorem str_ext {a b : Str} (h : a.cps.toList = b.cps.toList) : a = b := by
  cases a
  cases b
  congr 1
  exact Array.toList_inj.mp h
theorem app_l (a b : Str) : (a ++ b).cps.toList = a.cps.toList ++ b.cps.toList := Array.toList_append
theorem len_l (s : Str) : s.cps.toList.length = s.length := Array.length_toList
theorem app_len (a b : Str) : (a ++ b).length = a.length + b.length := by
  rw [← len_l, app_l, List.length_append, len_l, len_l]
theorem fold_l (sep : Str) : ∀ (r : List Str) (acc : Array Nat), (r.foldl (fun acc p => acc ++ sep.cps ++ p.cps) acc).toList = acc.toList ++ (r.map fun q => sep.cps.toList ++ q.cps.toList).flatten
  | [], acc => by simp
  | q :: r, acc => by
    rw [List.foldl_cons, fold_l sep r]
    simp
theorem join_l (sep p : Str) (r : List Str) : (Txt.join sep (p :: r)).cps.toList = p.cps.toList ++ (r.map fun q => sep.cps.toList ++ q.cps.toList).flatten := by
  show (List.foldl _ p.cps r).toList = _
  exact fold_l sep r p.cps
theorem join_nil (sep : Str) : Txt.join sep [] = ⟨#[]⟩ := rfl
theorem join_flat : ∀ parts : List Str, (Txt.join ⟨#[]⟩ parts).cps.toList = (parts.map fun s => s.cps.toList).flatten
  | [] => rfl
  | p :: r => by
    rw [join_l]
    simp
theorem join_len (parts : List Str) : ((parts.map fun s => s.cps.toList).flatten).length = (parts.map (·.length)).sum := by
  rw [List.length_flatten, List.map_map]
  congr 1
theorem w_m1 {r : V → List V → Hp → VK → Prop} {to te : TE} {σ : L2.St} {H : Hp} {Q : VK} (h : to σ H fun x H1 => (∃ a, x = .str a) ∧ te σ H1 fun y H2 => r x [y] H2 Q) : tM1 r to te σ H Q := h
theorem w_isstr {a : Str} {R : Prop} (q : R) : (∃ b, V.str a = .str b) ∧ R := ⟨⟨a, rfl⟩, q⟩
theorem w_join {K : PySem.W.Frag} {a : Str} {p : Addr} {ys : List Str} {H : Hp} {Q : VK} (h : SqA K H p (ys.map V.str)) (hl : (ys.map (·.length)).sum + ys.length * a.length ≤ 10000000) (q : Q (.str (Txt.join a ys)) H) :
    ∃ a' p', ∃ ys : List Str, V.str a = .str a' ∧ [V.ref p] = [.ref p'] ∧ SqA K H p' (ys.map V.str) ∧ (ys.map (·.length)).sum + ys.length * a'.length ≤ 16777216 ∧ Q (.str (Txt.join a' ys)) H := ⟨a, p, ys, rfl, rfl, h, Nat.le_trans hl (by decide), q⟩
theorem w_while {c : TT} {tb : TS} {D : Ends} {σ : L2.St} {H : Hp} (h : ∃ W : Nat → L2.St → Hp → Prop, (∃ m, W m σ H) ∧ ∀ m σ H, W m σ H → c σ H fun b H1 => if b = true then ∃ N : L2.St → Hp → Prop, (∀ σ' H', N σ' H' → ∃ m', m' < m ∧ W m' σ' H') ∧ tb { D with nx := N, ct := N, bk := D.nx } σ H1 else D.nx σ H1) : tWhile c tb D σ H := h
theorem bnotT {b : Bool} (h : b = false) : (!b) = true := by rw [h] <;> rfl
theorem bnotF {b : Bool} (h : b = true) : (!b) = false := by rw [h] <;> rfl
theorem w_start {t : TS} {D : Ends} {N : List Str} {vs : List V} {σ : L2.St} {H : Hp} (e : start N vs = σ) (h : t D σ H) : t D (start N vs) H := by rw [e]; exact h
theorem at_same {H H' : Hp} {a : Addr} {o : HO} (e : Same H H') (h : H a = some o) : H' a = some o := e a o h
theorem at_but {H H' : Hp} {p a : Addr} {o : HO} (e : But p H H') (n : a ≠ p) (h : H a = some o) : H' a = some o := e a o n h
theorem sqa_l {K : PySem.W.Frag} {H : Hp} {a : Addr} {xs : List V} (h : SqL K H a xs) : SqA K H a xs := .inl h
theorem sqa_t {K : PySem.W.Frag} {H : Hp} {a : Addr} {xs : List V} (h : SqT K H a xs) : SqA K H a xs := .inr h
theorem none_same {H H' : Hp} {p : Addr} (e : Same H H') (h : H' p = none) : H p = none := Same.free e h
end Lay

set_option exponentiation.threshold 256
set_option Elab.async false
set_option linter.all false
set_option maxRecDepth 100000
set_option maxHeartbeats 4000000
namespace Lay
open PySem PySem.Spec PyProof.Rows L2 PySem.NumText PySem.W PySem.Calls
theorem intMax_none {M : Model} {A : Around} {E : Value → Shared → Prop} {s : Shared} {Q : Nat → Shared → Prop} (hn : s.heap.NoDigits) (h : Q 4300 s) : wpAny M A Builtin.intMaxStrDigits Q E s := by
  obtain ⟨mc, hns, hnone⟩ := hn
  unfold Builtin.intMaxStrDigits
  refine wpAny_bind (wpAny_nsGet hns ?_)
  rw [hnone]
  exact wpAny_pure h
theorem wp_textG {M : Model} {A : Around} {E : Value → Shared → Prop} {s : Shared} {Q : Value → Shared → Prop} {v : Value} {text : List Nat} {n : Int} (hn : s.heap.NoDigits)
    (hr0 : (int_private% "readNumeral") 0 10 (text.takeWhile (· != 0)) = (int_private% "Numeral.value") n) (hr : (int_private% "readNumeral") 4300 10 (text.takeWhile (· != 0)) = (int_private% "Numeral.value") n)
    (ha : ((text.takeWhile (· != 0)).length == text.length) = true) (h : Q (.int n s.toks) { s with toks := s.toks + 1 }) :
    wpAny M A ((int_private% "intFromText") v text 10) Q E s := by
  by_cases hs : (text.takeWhile (· != 0)).length ≤ 640
  · exact PySem.W.KIN.wp_text hs hr0 ha h
  obtain ⟨hp, g, d, tk, os⟩ := s
  repeat (any_goals (first
    | assumption
    | (with_reducible refine wpAny_ite_false (decide_eq_false hs) ?_)
    | (with_reducible refine wpAny_ite_true (decide_eq_true ha) ?_)
    | (with_reducible refine intMax_none hn ?_)
    | wp_step))
  all_goals (try rw [hr])
  all_goals (try dsimp only)
  repeat (any_goals (first
    | assumption
    | (with_reducible refine wpAny_ite_true (decide_eq_true ha) ?_)
    | (with_reducible refine intMax_none hn ?_)
    | wp_step))
structure NumT (x : Str) (n : Int) : Prop where
  r0 : (int_private% "readNumeral") 0 10 (numSeenOf x) = (int_private% "Numeral.value") n
  r1 : (int_private% "readNumeral") 4300 10 (numSeenOf x) = (int_private% "Numeral.value") n
  ln : ((numSeenOf x).length == (numTextOf x).length) = true
theorem meets_text {x : Str} {u : Tok} {n : Int} (z : NumT x n) : Meets (Builtin.«int.__new__» ⟨[.type "int", .str x u], []⟩) (fun _ R s => s.heap.NoDigits ∧ R (.ok (.ret (.int n s.toks))) { s with toks := s.toks + 1 }) :=
  Meets.of_wp fun prog w A R s hs => by
    obtain ⟨hn, h⟩ := hs
    obtain ⟨hp, g, d, tk, os⟩ := s
    have f1 := F.conv_sub_int
    have f2 := F.madeHere_int
    have f3 := PySem.W.KIN.str_int
    have f4 := PySem.W.KIN.str_idx
    have f5 := PySem.W.KIN.str_trunc
    have f6 : typeOf (.str x u) = pure (.type "str") := rfl
    repeat (any_goals (first
      | assumption
      | ((with_reducible show wpAny _ _ ((int_private% "intFromText") _ _ _) _ _ _); refine wp_textG hn z.r0 z.r1 z.ln ?_)
      | wp_step))
    all_goals first | exact ⟨_, rfl, h⟩ | skip
theorem call_textG {prog : Program} {w : World} {A : Around} {E : Value → Shared → Prop} {s : Shared} {Q : Value → Shared → Prop} {x : Str} {t : Tok} {n : Int} (z : NumT x n) (hn : s.heap.NoDigits) (h : Q (.int n s.toks) { s with toks := s.toks + 1 }) :
    wpAny (model prog w) A (call (.type "int") [.str x t]) Q E s :=
  call_int_1 (meets_text z) ⟨hn, (rfl : _), h⟩
theorem judge_ok {limit : Nat} {neg : Bool} {ds : Array Nat} (h : ds.size ≤ 4300) (hl : limit = 0 ∨ limit = 4300) : judge limit neg 10 false (some ds) = (int_private% "Numeral.value") (worth neg ds) := by
  unfold judge
  have e1 : (![2, 4, 8, 16, 32].contains 10 && limit != 0 && decide (ds.size > limit)) = false := by
    rcases hl with rfl | rfl
    · rfl
    · rw [decide_eq_false (by omega)]
      simp
  have e2 : ((10 : Nat) == 10 && decide (ds.size > 6000)) = false := by
    rw [decide_eq_false (by omega)]
    rfl
  simp only [e1, e2]
  rfl
theorem numT_of {x : Str} (h : ∀ c ∈ x.cps.toList, c = 45 ∨ (48 ≤ c ∧ c ≤ 57)) {ds : Array Nat} (hd : digits? 10 (core x.cps.toList) = some ds) (hz : ds.size ≤ 4300) : NumT x (worth (sign (x.cps.toList.dropWhile blank)).1 ds) := by
  obtain ⟨e1, e2⟩ := numText_signs h
  refine ⟨?_, ?_, ?_⟩
  · rw [readNumeral_ten, e2, hd]
    exact judge_ok hz (.inl rfl)
  · rw [readNumeral_ten, e2, hd]
    exact judge_ok hz (.inr rfl)
  · rw [e1, e2]
    exact beq_self_eq_true _
theorem numT_digits {x : Str} (h : AllDigits x.cps.toList) (h1 : x.cps.toList ≠ []) (h2 : x.length ≤ 4300) : NumT x ((digitsVal x.cps.toList : Nat) : Int) := by
  have hs : ∀ c ∈ x.cps.toList, c = 45 ∨ (48 ≤ c ∧ c ≤ 57) := fun c hc => Or.inr (h c hc)
  have hl : x.cps.toList.length = x.length := Array.length_toList
  have key := fun ds hd hz => numT_of hs (ds := ds) hd hz
  generalize x.cps.toList = cs at *
  cases cs with
  | nil => exact absurd rfl h1
  | cons c cs =>
    have hc := h.head
    have es : sign ((c :: cs).dropWhile blank) = (false, c :: cs) := by rw [dropWhile_digits h]; exact sign_of (by omega) (by omega)
    have ec : core (c :: cs) = c :: cs := by
      unfold core
      rw [es]
      show ((c :: cs).reverse.dropWhile blank).reverse = c :: cs
      rw [dropWhile_digits h.reverse, List.reverse_reverse]
    have hsz := push_size (c :: cs) #[]
    have hv := push_foldl (c :: cs) #[]
    have k := key _ (by rw [ec]; exact digits_of h h1) (by rw [hsz]; simp only [Array.size_empty]; omega)
    rw [es] at k
    unfold worth at k
    unfold digitsVal
    rw [hv] at k
    exact k
theorem numT_neg {x : Str} {cs : List Nat} (hx : x.cps.toList = 45 :: cs) (h : AllDigits cs) (h1 : cs ≠ []) (h2 : x.length ≤ 4300) : NumT x (-((digitsVal cs : Nat) : Int)) := by
  have hs : ∀ c ∈ x.cps.toList, c = 45 ∨ (48 ≤ c ∧ c ≤ 57) := by
    rw [hx]
    intro c hc
    rcases List.mem_cons.mp hc with e | hc
    · exact Or.inl e
    · exact Or.inr (h c hc)
  have hl : x.cps.toList.length = x.length := Array.length_toList
  have key := fun ds hd hz => numT_of hs (ds := ds) hd hz
  rw [hx] at hl key
  rw [List.length_cons] at hl
  have es : sign ((45 :: cs).dropWhile blank) = (true, cs) := by rw [dropWhile_of (by decide)]; rfl
  have ec : core (45 :: cs) = cs := by
    unfold core
    rw [es]
    show (cs.reverse.dropWhile blank).reverse = cs
    rw [dropWhile_digits h.reverse, List.reverse_reverse]
  have hsz := push_size cs #[]
  have hv := push_foldl cs #[]
  have k := key _ (by rw [ec]; exact digits_of h h1) (by rw [hsz]; simp only [Array.size_empty]; omega)
  rw [es] at k
  unfold worth at k
  unfold digitsVal
  rw [hv] at k
  exact k
section
variable {X : Cx}
def rIntG : List V → Hp → VK → Prop := fun xs H Q => match xs with
  | [.int i] => Q (.int i) H
  | [.str a] => ∃ n, NumT a n ∧ Q (.int n) H
  | _ => False
theorem call_intG (z : PySem.W.nsIn X.K cStatics "sys.int_max_str_digits" = some none) : CallR X (.type "int") rIntG := by
  intro pins s σ H xs us Q I r h
  unfold rIntG at h
  split at h
  · exact call_int1 pins s σ H _ us Q I r (.inl ⟨_, rfl, h⟩)
  · obtain ⟨n, h1, q⟩ := h
    obtain ⟨u, rfl, t, rfl⟩ := vals1 r
    exact call_textG h1 (noDigits_of I.kIn z I.nolimit) ⟨.int n, H, I.tok _, ⟨_, rfl⟩, q⟩
  · exact h.elim
end
theorem cut_l (z : Str) (lo hi : Option Int) : (cutS z lo hi).cps.toList = (z.cps.toList.drop (HT.sIx z.length 0 lo)).take (HT.sIx z.length z.length hi - HT.sIx z.length 0 lo) := rfl
theorem cut_hi (z : Str) (i : Nat) : (cutS z none (some (i : Int))).cps.toList = z.cps.toList.take i := by
  rw [cut_l, HT.sIx_nat, HT.sIx_none, List.drop_zero, Nat.sub_zero, ← len_l]
  by_cases h : i ≤ z.cps.toList.length
  · rw [Nat.min_eq_left h]
  · rw [Nat.min_eq_right (by omega), List.take_length, List.take_of_length_le (by omega)]
theorem cut_lo (z : Str) (i : Nat) : (cutS z (some (i : Int)) none).cps.toList = z.cps.toList.drop i := by
  rw [cut_l, HT.sIx_nat, HT.sIx_none, ← len_l]
  rw [List.take_of_length_le (by rw [List.length_drop]; omega)]
  by_cases h : i ≤ z.cps.toList.length
  · rw [Nat.min_eq_left h]
  · rw [Nat.min_eq_right (by omega), List.drop_length, List.drop_of_length_le (by omega)]
theorem cut_lh (z : Str) (i j : Nat) (h : j ≤ z.length) : (cutS z (some (i : Int)) (some (j : Int))).cps.toList = (z.cps.toList.take j).drop i := by
  rw [cut_l, HT.sIx_nat, HT.sIx_nat, Nat.min_eq_left h, List.drop_take]
  by_cases hi : i ≤ z.length
  · rw [Nat.min_eq_left hi]
  · rw [Nat.min_eq_right (by omega)]
    have e1 : j - z.length = 0 := by omega
    have e2 : j - i = 0 := by omega
    rw [e1, e2, List.take_zero, List.take_zero]
section
variable {σ : L2.St} {H : Hp} {Q : VK} {K : PySem.W.Frag} {C a dx : Addr} {m f : Str} {fs fs' : List (Str × V)} {nx bk ct : L2.St → Hp → Prop} {rt : VK} {ta tv : TE} {y : V} {R : Prop} {RR : List (Str × V) → Prop}
theorem w_sfld (h : tv σ H fun y H1 => ta σ H1 fun x H2 => ∃ a C dx fs, x = .ref a ∧ H2 a = some (.ins C dx fs) ∧ Cls K C ∧ NoAttr K C f ∧ fs.length < 1000 ∧ nx σ (upd H2 a (.ins C dx (putF f y fs)))) : sFld K ta tv f ⟨nx, rt, bk, ct⟩ σ H := h
theorem w_sfldAt {R : Hp → Prop} (ha : H a = some (.ins C dx fs)) (hc : Cls K C) (hn : NoAttr K C f) (hl : fs.length < 1000) (q : ∀ H', But a H H' → Txt H H' → H' a = some (.ins C dx (putF f y fs)) → R H') :
    ∃ a' C dx fs, V.ref a = .ref a' ∧ H a' = some (.ins C dx fs) ∧ Cls K C ∧ NoAttr K C f ∧ fs.length < 1000 ∧ R (upd H a' (.ins C dx (putF f y fs))) :=
  ⟨a, C, dx, fs, rfl, ha, hc, hn, hl, q _ (But.upd (But.refl H)) (Txt.ins ha) upd_same⟩
theorem w_methAt {R : Prop} (h1 : H a = some (.ins C dx fs)) (h2 : fs.lookup m = none) (q : R) : ∃ a' dx fs, V.ref a = .ref a' ∧ H a' = some (.ins C dx fs) ∧ fs.lookup m = none ∧ R := ⟨a, dx, fs, rfl, h1, h2, q⟩
theorem made_same {H : Hp} {x dx C : Addr} (h1 : H x = none) (h2 : H dx = none) : Same H (upd (upd H dx (.own x)) x (.ins C dx [])) := fun b o hb => by
  rw [upd_ne (ne_of_none hb h1), upd_ne (ne_of_none hb h2)]
  exact hb
def tMakeG (C : Addr) (sp : Sp) (E : XK) (t : TA) : TE := fun σ H Q => t σ H fun vs H1 => ∀ a dx H2, H1 a = none → H2 a = some (.ins C dx []) → Same H1 H2 → sp (.ref a :: vs) H2 (fun v H3 => v = .non ∧ Q (.ref a) H3) E
theorem w_make {sp : Sp} {E : XK} {σ : L2.St} {H : Hp} {Q : VK} {C : Addr} {tr : TA} (h : tr σ H fun vs H1 => ∀ a dx H2, H1 a = none → H2 a = some (.ins C dx []) → Same H1 H2 → sp (.ref a :: vs) H2 (fun v H3 => v = .non ∧ Q (.ref a) H3) E) : tMakeG C sp E tr σ H Q := h
section
variable {X : Cx} {j k : Nat} {sp : Sp} {x : Str} {p pos : Pos} {e : Expr} {es : List Expr} {t : TA} {C : Addr}
theorem pe_newG0 (c : MkC X.prog X.w X.K X.mg X.base k x C sp) (hr : Room j X.A) (hk : k + 1 ≤ j) (hg : Gl X x := by rfl) (hdb : (x == ("__debug__" : Str)) = false := by decide) :
    PE X (.Call (.Name x p) [] [] pos) (tMakeG C sp E0 tNil) := by
  obtain ⟨f, fd, ps, F, M, hm, b⟩ := c.ex
  exact ⟨fun pins s σ H Q I hw => (pe_make0 (p := p) (pos := pos) M F (hr.mono hk) hg hm b .nil pass0 hdb).run pins s σ H Q I fun y dx h1 h2 hn => hw y dx _ h1 upd_same (made_same h1 h2)⟩
theorem pe_newG (c : MkC X.prog X.w X.K X.mg X.base k x C sp) (hr : Room j X.A) (hk : k + 1 ≤ j) (ha : PA X (e :: es) t) (hg : Gl X x := by rfl) (hdb : (x == ("__debug__" : Str)) = false := by decide)
    (he : starEach (e :: es) X.env = (false, eval e X.env) :: starEach es X.env := by rfl) (hpl : (backTo pos (starEach es X.env)).any (·.1) = false := by rfl) :
    PE X (.Call (.Name x p) (e :: es) [] pos) (tMakeG C sp E0 t) := by
  obtain ⟨f, fd, ps, F, M, hm, b⟩ := c.ex
  refine ⟨fun pins s σ H Q I hw => (pe_make (p := p) (pos := pos) M F (hr.mono hk) hg hm b .nil pass0 (PA.cl ha) hdb he hpl).run pins s σ H Q I ⟨_, hw, fun vs H1 q y dx h1 h2 hn => ?_⟩⟩
  have z := q y dx _ h1 upd_same (made_same h1 h2)
  rw [List.append_nil]
  exact z
end
end
end Lay

set_option exponentiation.threshold 256
set_option Elab.async false
set_option linter.all false
set_option maxRecDepth 100000
set_option maxHeartbeats 4000000
namespace Lay
open PySem PySem.Spec PyProof.Rows L2
def LcG (J : It) (g : TG) (tt : TT) (te : TE) (vs : List Nat) (σ : L2.St) (H1 : Hp) (Q : VK) : Prop := ∀ D, H1 D = none → ∃ W : Nat → Nat → Hp → Prop, (∃ m, W 0 m (upd H1 D (.lst []))) ∧ ∀ i m H, W i m H →
  (J.stop i H ∧ Q (.ref D) H) ∨ (J.go i H ∧ ∃ Nx : Hp → Prop, (∀ H', Nx H' → ∃ m', m' < m ∧ W (i + 1) m' H') ∧ ∀ x H', J.yld i H x H' → g x (wipe σ vs) H' fun σ2 H2 => wipe σ2 vs = wipe σ vs ∧ tt σ2 H2 fun b H3 =>
    if b = true then te σ2 H3 fun y H4 => ∃ acc, H4 D = some (.lst acc) ∧ acc.length < sizeLine ∧ Nx (upd H4 D (.lst (acc ++ [y]))) else Nx H3)
section
variable {K : PySem.W.Frag} {σ : L2.St} {H H1 : Hp} {Q : VK} {ta : TA} {te te0 : TE} {g : TG} {tt : TT} {vs : List Nat} {a : Addr} {xs : List V} {wi : TI} {j : Nat}
theorem w_lcI (h : wi σ H fun J H1 => LcG J g tt te vs σ H1 Q) : tLc wi g tt te vs σ H Q := h
theorem w_iAny {R : It → Hp → Prop} (h : te0 σ H fun v H1 => itA K v H1 R) : iAny K te0 σ H R := h
theorem w_iR1 {R : It → Hp → Prop} (h : ta σ H fun vs H1 => ∃ j : Int, vs = [.int j] ∧ -(2 ^ 62) ≤ j ∧ j < 2 ^ 62 ∧ R (Itr 0 j.toNat) H1) : iRng1 ta σ H R := h
theorem w_yes {QT : Bool → Hp → Prop} (q : QT true H) : tYes σ H QT := q
def LcS (te : TE) (vs : List Nat) (j : Nat) (σ : L2.St) (H1 : Hp) (Q : VK) (n : Nat) (at_ : Nat → V → Prop) (inv : Hp → Prop) : Prop := ∀ D, H1 D = none → ∃ Pv : Nat → List V → Hp → Prop,
  (∀ H2, Same H1 H2 → H2 D = some (.lst []) → Pv 0 [] H2) ∧ (∀ i acc H', Pv i acc H' → inv H') ∧
  (∀ i y acc H' (R : VK), at_ i y → Pv i acc H' → H' D = some (.lst acc) → (∀ z H4, H4 D = some (.lst acc) → acc.length ≤ 10000000 → (∀ H5, But D H4 H5 → Txt H4 H5 → H5 D = some (.lst (acc ++ [z])) → Pv (i + 1) (acc ++ [z]) H5) → R z H4) → te ((wipe σ vs).set j (some y)) H' R) ∧
  (∀ acc H', Pv n acc H' → H' D = some (.lst acc) → Q (.ref D) H')
theorem lc_step {D : Addr} {Pv : Nat → List V → Hp → Prop} {i : Nat} {y : V} {H' : Hp} (hw : ∀ v, wipe ((wipe σ vs).set j (some v)) vs = wipe σ vs)
    (hs : ∀ acc (R : VK), Pv i acc H' → H' D = some (.lst acc) → (∀ z H4, H4 D = some (.lst acc) → acc.length ≤ 10000000 → (∀ H5, But D H4 H5 → Txt H4 H5 → H5 D = some (.lst (acc ++ [z])) → Pv (i + 1) (acc ++ [z]) H5) → R z H4) → te ((wipe σ vs).set j (some y)) H' R)
    (p : ∃ acc, H' D = some (.lst acc) ∧ Pv i acc H') : gName j y (wipe σ vs) H' fun σ2 H2 => wipe σ2 vs = wipe σ vs ∧ tYes σ2 H2 fun b H3 =>
      if b = true then te σ2 H3 fun y H4 => ∃ acc, H4 D = some (.lst acc) ∧ acc.length < sizeLine ∧ (∃ acc', upd H4 D (.lst (acc ++ [y])) D = some (.lst acc') ∧ Pv (i + 1) acc' (upd H4 D (.lst (acc ++ [y])))) else ∃ acc', H3 D = some (.lst acc') ∧ Pv (i + 1) acc' H3 := by
  obtain ⟨acc, h1, h2⟩ := p
  refine ⟨hw y, w_yes (w_iteT ?_)⟩
  exact hs acc _ h2 h1 fun z H4 q1 q2 q3 => ⟨acc, q1, Nat.lt_of_le_of_lt q2 (by decide), acc ++ [z], upd_same, q3 _ (But.upd (But.refl H4)) (Txt.lst q1) upd_same⟩
theorem lcL (hw : ∀ v, wipe ((wipe σ vs).set j (some v)) vs = wipe σ vs) (hq : SqL K H1 a xs) (h : LcS te vs j σ H1 Q xs.length (fun i y => xs[i]? = some y) (fun H' => SqL K H' a xs)) : itA K (.ref a) H1 fun J H2 => LcG J (gName j) tYes te vs σ H2 Q := by
  refine .inl ⟨⟨xs, hq⟩, fun D hD => ?_⟩
  obtain ⟨Pv, h0, hl, hs, hd⟩ := h D hD
  refine lc_list (xs := xs) (fun i H' => ∃ acc, H' D = some (.lst acc) ∧ Pv i acc H') ⟨[], upd_same, h0 _ (same_upd hD) upd_same⟩ (fun i H' hi p => ?_) (fun i y H' hy p => ?_) (fun H' p => ?_)
  · obtain ⟨acc, _, p2⟩ := p
    exact hl _ _ _ p2
  · exact lc_step hw (fun acc R q1 q2 q3 => hs i y acc H' R hy q1 q2 q3) p
  · obtain ⟨acc, p1, p2⟩ := p
    exact hd _ _ p2 p1
theorem lcT (hw : ∀ v, wipe ((wipe σ vs).set j (some v)) vs = wipe σ vs) (hq : SqT K H1 a xs) (h : LcS te vs j σ H1 Q xs.length (fun i y => xs[i]? = some y) (fun H' => SqT K H' a xs)) : itA K (.ref a) H1 fun J H2 => LcG J (gName j) tYes te vs σ H2 Q := by
  refine .inr ⟨⟨xs, hq⟩, fun D hD => ?_⟩
  obtain ⟨Pv, h0, hl, hs, hd⟩ := h D hD
  refine lc_tup (xs := xs) (fun i H' => ∃ acc, H' D = some (.lst acc) ∧ Pv i acc H') ⟨[], upd_same, h0 _ (same_upd hD) upd_same⟩ (fun i H' hi p => ?_) (fun i y H' hy p => ?_) (fun H' p => ?_)
  · obtain ⟨acc, _, p2⟩ := p
    exact hl _ _ _ p2
  · exact lc_step hw (fun acc R q1 q2 q3 => hs i y acc H' R hy q1 q2 q3) p
  · obtain ⟨acc, p1, p2⟩ := p
    exact hd _ _ p2 p1
theorem lcR {n : Nat} (hw : ∀ v, wipe ((wipe σ vs).set j (some v)) vs = wipe σ vs) (h : LcS te vs j σ H1 Q n (fun i y => i < n ∧ y = .int (i : Nat)) (fun _ => True)) : LcG (Itr 0 n) (gName j) tYes te vs σ H1 Q := fun D hD => by
  obtain ⟨Pv, h0, _, hs, hd⟩ := h D hD
  refine lc_range (fun i H' => ∃ acc, H' D = some (.lst acc) ∧ Pv i acc H') ⟨[], upd_same, h0 _ (same_upd hD) upd_same⟩ (fun i H' hi p => ?_) (fun H' p => ?_)
  · have e : (0 : Int) + (i : Nat) = (i : Nat) := Int.zero_add _
    show gName j (.int (0 + (i : Nat))) _ _ _
    rw [e]
    exact lc_step hw (fun acc R q1 q2 q3 => hs i _ acc H' R ⟨hi, rfl⟩ q1 q2 q3) p
  · obtain ⟨acc, p1, p2⟩ := p
    exact hd _ _ p2 p1
theorem lcX {x : Str} (hw : ∀ v, wipe ((wipe σ vs).set j (some v)) vs = wipe σ vs) (h : LcS te vs j σ H1 Q x.cps.toList.length (fun i y => ∃ c, x.cps.toList[i]? = some c ∧ y = .str ⟨#[c]⟩) (fun _ => True)) : itA K (.str x) H1 fun J H2 => LcG J (gName j) tYes te vs σ H2 Q := fun D hD => by
  obtain ⟨Pv, h0, _, hs, hd⟩ := h D hD
  refine lc_str (fun i H' => ∃ acc, H' D = some (.lst acc) ∧ Pv i acc H') ⟨[], upd_same, h0 _ (same_upd hD) upd_same⟩ (fun i c H' hy p => ?_) (fun H' p => ?_)
  · exact lc_step hw (fun acc R q1 q2 q3 => hs i _ acc H' R ⟨c, hy, rfl⟩ q1 q2 q3) p
  · obtain ⟨acc, p1, p2⟩ := p
    exact hd _ _ p2 p1
theorem lr1_of {m : Int} {n : Nat} (hm : m = (n : Int)) (hn : n ≤ 1000000000) (h : LcG (Itr 0 n) g tt te vs σ H Q) : ∃ j : Int, [V.int m] = [.int j] ∧ -(2 ^ 62) ≤ j ∧ j < 2 ^ 62 ∧ LcG (Itr 0 j.toNat) g tt te vs σ H Q := by
  refine ⟨m, rfl, by omega, by omega, ?_⟩
  rw [hm, Int.toNat_natCast]
  exact h
theorem LcS.map {n : Nat} {ys : List V} {at_ : Nat → V → Prop} {inv : Hp → Prop} (f : V → V) (hn : n = ys.length) (hl : ys.length ≤ 10000000) (hat : ∀ i y, at_ i y → ys[i]? = some y) (hi : ∀ H', Same H1 H' → inv H')
    (he : ∀ y H2, y ∈ ys → Same H1 H2 → ∀ R : VK, (∀ H3, Same H2 H3 → R (f y) H3) → te ((wipe σ vs).set j (some y)) H2 R) (q : ∀ D H2, H1 D = none → Same H1 H2 → H2 D = some (.lst (ys.map f)) → Q (.ref D) H2) : LcS te vs j σ H1 Q n at_ inv := fun D hD => by
  subst hn
  refine ⟨fun i acc H' => i ≤ ys.length ∧ acc = (ys.take i).map f ∧ Same H1 H', fun H2 e h => ⟨Nat.zero_le _, rfl, e⟩, fun i acc H' p => hi H' p.2.2, fun i y acc H' R hy p hD2 hR => ?_, fun acc H' p hD2 => ?_⟩
  · obtain ⟨p1, rfl, p2⟩ := p
    have hy' := hat i y hy
    have hlt := (List.getElem?_eq_some_iff.mp hy').1
    refine he y H' (List.mem_of_getElem? hy') p2 R fun H3 e3 => hR (f y) H3 (e3 _ _ hD2) ?_ fun H5 b5 t5 h5 => ⟨hlt, ?_, same_but (p2.trans e3) b5 hD⟩
    · rw [List.length_map, List.length_take]
      omega
    · rw [List.take_add_one, hy', List.map_append]
      rfl
  · obtain ⟨p1, rfl, p2⟩ := p
    rw [List.take_length] at hD2
    exact q D H' hD p2 hD2
theorem LcS.mapI {ys zs : List V} {inv : Hp → Prop} (hz : zs.length = ys.length) (hl : ys.length ≤ 10000000) (hi : ∀ H', Same H1 H' → inv H')
    (he : ∀ (i : Nat) y z H2, ys[i]? = some y → zs[i]? = some z → Same H1 H2 → ∀ R : VK, (∀ H3, Same H2 H3 → R z H3) → te ((wipe σ vs).set j (some y)) H2 R) (q : ∀ D H2, H1 D = none → Same H1 H2 → H2 D = some (.lst zs) → Q (.ref D) H2) :
    LcS te vs j σ H1 Q ys.length (fun i y => ys[i]? = some y) inv := fun D hD => by
  refine ⟨fun i acc H' => i ≤ ys.length ∧ acc = zs.take i ∧ Same H1 H', fun H2 e h => ⟨Nat.zero_le _, rfl, e⟩, fun i acc H' p => hi H' p.2.2, fun i y acc H' R hy p hD2 hR => ?_, fun acc H' p hD2 => ?_⟩
  · obtain ⟨p1, rfl, p2⟩ := p
    have hlt := (List.getElem?_eq_some_iff.mp hy).1
    have hzi : zs[i]? = some zs[i] := List.getElem?_eq_getElem (by omega)
    refine he i y zs[i] H' hy hzi p2 R fun H3 e3 => hR zs[i] H3 (e3 _ _ hD2) ?_ fun H5 b5 t5 h5 => ⟨hlt, ?_, same_but (p2.trans e3) b5 hD⟩
    · rw [List.length_take]
      omega
    · rw [List.take_add_one, hzi]
      rfl
  · obtain ⟨p1, rfl, p2⟩ := p
    rw [← hz, List.take_length] at hD2
    exact q D H' hD p2 hD2
end
section
variable {σ : L2.St} {H : Hp} {l : Addr} {xs : List V} {v : V} {k : Int} {to ti : TE} {t : TSet} {Q : L2.St → Hp → Prop}
theorem w_ixL {K : PySem.W.Frag} {R : VK} {n : Int} {y : V} (h : H l = some (.lst xs)) (ha : atI xs n = some y) (q : R y H) : rIxA K (.ref l) (.int n) H R := ⟨n, xs, y, rfl, .inl (SqL.of h), ha, q⟩
theorem w_gsub (h : to σ H fun o H1 => ti σ H1 fun i H2 => t o i v H2 fun H3 => Q σ H3) : gSub to ti t v σ H Q := h
theorem w_setl {R : Hp → Prop} {i : Nat} (h : H l = some (.lst xs)) (hk : k = (i : Int)) (hi : i < xs.length) (q : ∀ H', But l H H' → Txt H H' → H' l = some (.lst (xs.set i v)) → R H') : rSetL (.ref l) (.int k) v H R := by
  refine ⟨l, xs, k, i, rfl, rfl, h, ?_, q _ (But.upd (But.refl H)) (Txt.lst h) upd_same⟩
  unfold ixN
  rw [hk, if_pos (by omega), if_pos (by omega)]
  rfl
end
structure DrAt (H : Hp) (pd : Addr) (c : Nat) (pc : Addr) (cells : List Int) (i : Nat) (x : Int) (k : Nat) (s : Int) : Prop where
  obj : H pd = some (.lst [.ref pc, .int (i : Nat), .int x, .int (k : Nat), .int s, .int (c : Nat)])
  cel : H pc = some (.lst (cells.map V.int))
  ne : pc ≠ pd
  le : i ≤ cells.length
def Dr (H : Hp) (pd pc : Addr) (c : Nat) : Prop := ∃ c0 cells i x k s, c0 ≤ c ∧ DrAt H pd c0 pc cells i x k s
theorem Dr.same {H H' : Hp} {pd pc : Addr} {c : Nat} (e : Same H H') (d : Dr H pd pc c) : Dr H' pd pc c := by
  obtain ⟨c0, cells, i, x, k, s, hl, D⟩ := d
  exact ⟨c0, cells, i, x, k, s, hl, e _ _ D.obj, e _ _ D.cel, D.ne, D.le⟩
theorem Dr.mono {H : Hp} {pd pc : Addr} {c c' : Nat} (d : Dr H pd pc c) (h : c ≤ c') : Dr H pd pc c' := by
  obtain ⟨c0, cells, i, x, k, s, hl, D⟩ := d
  exact ⟨c0, cells, i, x, k, s, Nat.le_trans hl h, D⟩
theorem Dr.but {H H' : Hp} {pd pc p : Addr} {c : Nat} (e : But p H H') (d : Dr H pd pc c) (h1 : pd ≠ p) (h2 : pc ≠ p) : Dr H' pd pc c := by
  obtain ⟨c0, cells, i, x, k, s, hl, D⟩ := d
  exact ⟨c0, cells, i, x, k, s, hl, e _ _ h1 D.obj, e _ _ h2 D.cel, D.ne, D.le⟩
theorem Dr.new {H : Hp} {pd pc p : Addr} {c : Nat} (d : Dr H pd pc c) (h : H p = none) : pd ≠ p ∧ pc ≠ p := by
  obtain ⟨c0, cells, i, x, k, s, hl, D⟩ := d
  exact ⟨ne_of_none D.obj h, ne_of_none D.cel h⟩
theorem but_new {H H1 H2 : Hp} {p D : Addr} (a : But p H H1) (n : H D = none) (b : But D H1 H2) : But p H H2 := fun x o hx ho => b x o (ne_of_none ho n) (a x o hx ho)
def spTakeN (_ : PySem.W.Frag) : Sp := fun vs H Q _ => ∃ pd pc c, ∃ many : Int, vs = [.ref pd, .int many] ∧ 0 < many ∧ many < 1073741824 ∧ Dr H pd pc c ∧ c ≤ 1000000 ∧ ∀ (m : Nat) H', (m : Int) < many → But pd H H' → Txt H H' → Dr H' pd pc (c + 1) → Q (.int (m : Nat)) H'
def spDraw (K : PySem.W.Frag) : Sp := fun vs H Q _ => ∃ a, ∃ ns : List Int, vs = [.ref a] ∧ SqL K H a (ns.map V.int) ∧ ns.length ≤ 1000 ∧ ∀ pd pc H', H pd = none → H pc = none → Same H H' → Dr H' pd pc 0 → Q (.ref pd) H'
theorem cutV_hi (xs : List V) (i : Nat) : cutV xs none (some (i : Int)) = xs.take i := by
  unfold cutV
  rw [HT.sIx_nat, HT.sIx_none, List.drop_zero, Nat.sub_zero]
  by_cases h : i ≤ xs.length
  · rw [Nat.min_eq_left h]
  · rw [Nat.min_eq_right (by omega), List.take_length, List.take_of_length_le (by omega)]
theorem cutV_lo (xs : List V) (i : Nat) : cutV xs (some (i : Int)) none = xs.drop i := by
  unfold cutV
  rw [HT.sIx_nat, HT.sIx_none]
  rw [List.take_of_length_le (by rw [List.length_drop]; omega)]
  by_cases h : i ≤ xs.length
  · rw [Nat.min_eq_left h]
  · rw [Nat.min_eq_right (by omega), List.drop_length, List.drop_of_length_le (by omega)]
theorem w_dispC {σ : L2.St} {H : Hp} {Q : VK} {kvs : List (Key × V)} (hk : kvs.length ≤ 15) (h : ∀ p H3, H p = none → Same H H3 → H3 p = some (.dK (mergeK [] kvs)) → Q (.ref p) H3) : tDisp (kvs.map fun kv => (tC (kV kv.1), tC kv.2)) σ H Q := by
  intro p hp
  have key : ∀ (l : List (Key × V)) (R : List (V × V) → Hp → Prop) H1, R (l.map fun kv => (kV kv.1, kv.2)) H1 → tPairs (l.map fun kv => (tC (kV kv.1), tC kv.2)) σ H1 R := by
    intro l
    induction l with
    | nil => exact fun R H1 r => r
    | cons a l ih => exact fun R H1 r => ih (fun ps H3 => R ((kV a.1, a.2) :: ps) H3) H1 r
  exact key kvs _ _ ⟨upd_same, kvs, rfl, hk, h p _ hp (Same.mut (same_upd hp) hp) upd_same⟩
section
variable {σ : L2.St} {H : Hp} {Q : VK} {td ty tx : TE} {p : Addr} {kvs : List (Key × V)} {k : Key} {y z v : V}
theorem w_dget (h : td σ H fun x H1 => ty σ H1 fun y H2 => ∃ a v, x = .ref a ∧ DGet H2 a y (some v) ∧ Q v H2) : tDGet td ty σ H Q := h
theorem w_dgetAt {R : V → Prop} (h : H p = some (.dK kvs)) (e : valV kvs k = some v) (q : R v) : ∃ a v, V.ref p = .ref a ∧ DGet H a (kV k) (some v) ∧ R v := ⟨p, v, rfl, e ▸ DGet.k h, q⟩
theorem w_dget2 (h : td σ H fun x H1 => ∃ a, x = .ref a ∧ IsD H1 a ∧ ty σ H1 fun y H2 => tx σ H2 fun z H3 => ∃ o, DGet H3 a y o ∧ Q (o.getD z) H3) : tDGet2 td ty tx σ H Q := h
theorem w_isD {R : Addr → Prop} (h : H p = some (.dK kvs)) (q : R p) : ∃ a, V.ref p = .ref a ∧ IsD H a ∧ R a := ⟨p, rfl, .inl ⟨kvs, .inl h⟩, q⟩
theorem w_dget2At {R : Option V → Prop} (h : H p = some (.dK kvs)) (q : R (valV kvs k)) : ∃ o, DGet H p (kV k) o ∧ R o := ⟨_, DGet.k h, q⟩
end
theorem w_joinR {K : PySem.W.Frag} {a : Str} {p : Addr} {ys : List Str} {H : Hp} {R : V → Prop} (h : SqA K H p (ys.map V.str)) (hl : (ys.map (·.length)).sum + ys.length * a.length ≤ 10000000) (q : R (.str (Txt.join a ys))) :
    ∃ a' p', ∃ ys : List Str, V.str a = .str a' ∧ [V.ref p] = [.ref p'] ∧ SqA K H p' (ys.map V.str) ∧ (ys.map (·.length)).sum + ys.length * a'.length ≤ 16777216 ∧ R (.str (Txt.join a' ys)) := ⟨a, p, ys, rfl, rfl, h, Nat.le_trans hl (by decide), q⟩
theorem fng0 {P : Program} {w : World} {K : PySem.W.Frag} {mg : Str → Option Value} {base : Heap} {x qual : Str} {st : Stmt} {f : Addr} {fd : FuncData} {N ps : List Str} {k : Nat} {sp : Sp} (F : Fun K x qual st f fd) (S : FnScope N ps (defScope st)) (len : ∀ vs H Q E, sp vs H Q E → vs.length = ps.length)
    (hbody : ∀ (cdv : Value) (A : Around) (outer : List Env) (s : Shared) (H : Hp) (vs : List V) (Q : VK) (E : XK), Bare (A.deeper (envOfC qual (defScope st) s.heap.objs.size f cdv)) → Room k (A.deeper (envOfC qual (defScope st) s.heap.objs.size f cdv)) → sp vs H Q E →
      ∃ t, PSs (cxOf CX0 P w K mg base N qual (defScope st) f cdv A outer s H E).nox (defBody st) t ∧ t { nx := fun _ H' => Q .non H', rt := Q } (start N vs) H) : FnG P w K mg base CX0 (k + 1) f fd ps sp :=
  fng F S len fun cdv A outer s H vs Q E hG hr h => by
    obtain ⟨t, ht, q⟩ := hbody cdv A outer s H vs Q E hG hr h
    exact ⟨t, ht.nox, q⟩
end Lay

set_option exponentiation.threshold 256
set_option Elab.async false
set_option linter.all false
set_option maxRecDepth 100000
set_option maxHeartbeats 4000000
namespace DataM
open PySem PySem.NumText
abbrev Tx := List Nat
def isLet (c : Nat) : Bool := decide (97 ≤ c ∧ c ≤ 122)
def isDig (c : Nat) : Bool := decide (48 ≤ c ∧ c ≤ 57)
def sep (c : Nat) : Bool := c == 91 || c == 93 || c == 44
def isWordT (p : Tx) : Bool := decide (1 ≤ p.length) && decide (p.length ≤ 12) && isLet (p.headD 0) && p.all fun c => isLet c || isDig c
def digs (i : Int) : Tx := (Str.ofString (toString i)).cps.toList
def bodyT (p : Tx) : Tx := if p.take 1 = [45] then p.drop 1 else p
def numOk (p : Tx) : Bool := decide (1 ≤ (bodyT p).length) && decide ((bodyT p).length ≤ 4000) && (bodyT p).all isDig && !(decide ((bodyT p).headD 0 = 48) && !decide (p = [48]))
def numV (p : Tx) : Int := if p.take 1 = [45] then -((digitsVal (bodyT p) : Nat) : Int) else ((digitsVal (bodyT p) : Nat) : Int)
def nats (m : Nat) : Tx := (Nat.toDigits 10 m).map Char.toNat
theorem digs_nat (m : Nat) : digs (m : Int) = nats m := PySem.W.KIN.signs_num m
theorem digs_neg (m : Nat) : digs (Int.negSucc m) = 45 :: nats (m + 1) := by
  unfold digs nats
  have e : toString (Int.negSucc m) = "-" ++ Nat.repr (m + 1) := rfl
  rw [e, PyProof.Rows.signs_ofString, String.toList_append, List.map_append, Nat.toList_repr]
  rfl
theorem digit_ok (d : Nat) (h : d < 10) : 48 ≤ (Nat.digitChar d).toNat ∧ (Nat.digitChar d).toNat ≤ 57 := by
  have : ∀ d : Nat, d < 10 → 48 ≤ (Nat.digitChar d).toNat ∧ (Nat.digitChar d).toNat ≤ 57 := by decide
  exact this d h
theorem nats_all (m : Nat) : ∀ c ∈ nats m, 48 ≤ c ∧ c ≤ 57 := by
  intro c hc
  obtain ⟨ch, h1, rfl⟩ := List.mem_map.mp hc
  induction m using Nat.strongRecOn with
  | _ m ih =>
    by_cases h : m < 10
    · rw [Nat.toDigits_of_lt_base h] at h1
      rw [List.mem_singleton.mp h1]
      exact digit_ok m h
    · have t : Nat.toDigits 10 (m / 10) ++ Nat.toDigits 10 (m % 10) = Nat.toDigits 10 (10 * (m / 10) + m % 10) := Nat.toDigits_append_toDigits (by decide) (by omega) (Nat.mod_lt m (by decide))
      rw [Nat.div_add_mod] at t
      rw [← t, List.mem_append] at h1
      rcases h1 with h1 | h1
      · exact ih (m / 10) (by omega) (by first | exact List.mem_map.mpr ⟨ch, h1, rfl⟩ | exact h1) (by first | exact h1 | exact List.mem_map.mpr ⟨ch, h1, rfl⟩)
      · have hm : m % 10 < 10 := Nat.mod_lt m (by decide)
        rw [Nat.toDigits_of_lt_base hm] at h1
        rw [List.mem_singleton.mp h1]
        exact digit_ok _ hm
theorem nats_val (m : Nat) : digitsVal (nats m) = m := PySem.W.KIN.val_back m
theorem nats_ne (m : Nat) : nats m ≠ [] := by
  intro e
  by_cases h : m < 10
  · unfold nats at e
    rw [Nat.toDigits_of_lt_base h] at e
    cases e
  · have t : Nat.toDigits 10 (m / 10) ++ Nat.toDigits 10 (m % 10) = Nat.toDigits 10 (10 * (m / 10) + m % 10) := Nat.toDigits_append_toDigits (by decide) (by omega) (Nat.mod_lt m (by decide))
    rw [Nat.div_add_mod] at t
    unfold nats at e
    rw [← t, List.map_append] at e
    have e2 := (List.append_eq_nil_iff.mp e).2
    rw [Nat.toDigits_of_lt_base (Nat.mod_lt m (by decide))] at e2
    cases e2
theorem digitChar_lt (d : Nat) (h : d < 10) (e : (Nat.digitChar d).toNat = 48) : d = 0 := by
  have : ∀ d : Nat, d < 10 → (Nat.digitChar d).toNat = 48 → d = 0 := by decide
  exact this d h e
theorem nats_head (m : Nat) (h : (nats m).headD 0 = 48) : m = 0 := by
  induction m using Nat.strongRecOn with
  | _ m ih =>
    by_cases hm : m < 10
    · unfold nats at h
      rw [Nat.toDigits_of_lt_base hm] at h
      exact digitChar_lt m hm h
    · exfalso
      have t : Nat.toDigits 10 (m / 10) ++ Nat.toDigits 10 (m % 10) = Nat.toDigits 10 (10 * (m / 10) + m % 10) := Nat.toDigits_append_toDigits (by decide) (by omega) (Nat.mod_lt m (by decide))
      rw [Nat.div_add_mod] at t
      have hn := nats_ne (m / 10)
      have e : nats m = nats (m / 10) ++ (Nat.toDigits 10 (m % 10)).map Char.toNat := by
        unfold nats
        rw [← t, List.map_append]
      rw [e] at h
      cases hl : nats (m / 10) with
      | nil => exact hn hl
      | cons a r =>
        rw [hl] at h
        have := ih (m / 10) (by omega) (by rw [hl]; exact h)
        omega
theorem nats_len (m k : Nat) (hk : 0 < k) (h : m < 10 ^ k) : (nats m).length ≤ k := by
  unfold nats
  rw [List.length_map]
  induction k generalizing m with
  | zero => omega
  | succ k ih =>
    by_cases hm : m < 10
    · rw [Nat.toDigits_of_lt_base hm]
      exact Nat.le_add_left 1 k
    · have t : Nat.toDigits 10 (m / 10) ++ Nat.toDigits 10 (m % 10) = Nat.toDigits 10 (10 * (m / 10) + m % 10) := Nat.toDigits_append_toDigits (by decide) (by omega) (Nat.mod_lt m (by decide))
      rw [Nat.div_add_mod] at t
      rw [← t, List.length_append, Nat.toDigits_of_lt_base (Nat.mod_lt m (by decide))]
      have hk0 : 0 < k := by
        rcases Nat.eq_zero_or_pos k with z | z
        · subst z
          simp at h
          omega
        · exact z
      have := ih (m / 10) hk0 (by rw [Nat.pow_succ] at h; omega)
      simp only [List.length_cons, List.length_nil]
      omega
theorem nats_of {cs : Tx} (h : AllDigits cs) (hne : cs ≠ []) (hh : cs.headD 0 = 48 → cs = [48]) : nats (digitsVal cs) = cs := by
  have hb : ∀ l : Tx, AllDigits l → (l.map Char.ofNat).map Char.toNat = l := by
    intro l hl
    rw [List.map_map]
    have : ∀ c ∈ l, (Char.toNat ∘ Char.ofNat) c = c := by
      intro c hc
      have := hl c hc
      have key : ∀ c : Nat, c < 58 → Char.toNat (Char.ofNat c) = c := by decide
      exact key c (by omega)
    rw [List.map_congr_left this, List.map_id']
  obtain ⟨n, hn⟩ : ∃ n, cs.length = n + 1 := by
    cases cs with
    | nil => exact absurd rfl hne
    | cons a r => exact ⟨r.length, rfl⟩
  unfold nats
  cases cs with
  | nil => exact absurd rfl hne
  | cons a r =>
    have ha := h a List.mem_cons_self
    by_cases e : a = 48
    · subst e
      cases hh rfl
      decide
    · rw [toDigits_digitsVal n (a :: r) hn h (.inr ⟨a, r, rfl, by omega⟩)]
      exact hb _ h
theorem allDig_of {p : Tx} (h : p.all isDig = true) : AllDigits p := fun c hc => of_decide_eq_true (List.all_eq_true.mp h c hc)
theorem allDig_to {p : Tx} (h : AllDigits p) : p.all isDig = true := List.all_eq_true.mpr fun c hc => decide_eq_true (h c hc)
theorem body_neg (q : Tx) : bodyT (45 :: q) = q := by
  unfold bodyT
  rw [if_pos (by rfl)]
  rfl
theorem body_pos {p : Tx} (h : p.take 1 ≠ [45]) : bodyT p = p := by
  unfold bodyT
  rw [if_neg h]
theorem num_digs (i : Int) (h : i.natAbs < 10 ^ 4000) : numOk (digs i) = true ∧ numV (digs i) = i := by
  cases i with
  | ofNat m =>
    have e : digs (Int.ofNat m) = nats m := digs_nat m
    have h1 : m < 10 ^ 4000 := h
    have hd := nats_all m
    have ht : (nats m).take 1 ≠ [45] := by
      cases hl : nats m with
      | nil => exact absurd hl (nats_ne m)
      | cons a r =>
        have := hd a (by rw [hl]; exact List.mem_cons_self)
        intro z
        have z' : [a] = [45] := z
        injection z' with z1 _
        omega
    rw [e]
    refine ⟨?_, ?_⟩
    · unfold numOk
      rw [body_pos ht, allDig_to hd]
      have l1 : 1 ≤ (nats m).length := List.length_pos_iff.mpr (nats_ne m)
      have l2 : (nats m).length ≤ 4000 := nats_len m 4000 (by decide) h1
      rw [decide_eq_true l1, decide_eq_true l2]
      by_cases c : (nats m).headD 0 = 48
      · have := nats_head m c
        subst this
        decide
      · rw [decide_eq_false c]
        rfl
    · unfold numV
      rw [if_neg ht, body_pos ht, nats_val]
      rfl
  | negSucc m =>
    have h1 : m + 1 < 10 ^ 4000 := h
    have hd := nats_all (m + 1)
    rw [digs_neg]
    refine ⟨?_, ?_⟩
    · unfold numOk
      rw [body_neg, allDig_to hd]
      have l1 : 1 ≤ (nats (m + 1)).length := List.length_pos_iff.mpr (nats_ne _)
      have l2 : (nats (m + 1)).length ≤ 4000 := nats_len _ 4000 (by decide) h1
      rw [decide_eq_true l1, decide_eq_true l2]
      have c : ¬ (nats (m + 1)).headD 0 = 48 := fun z => by
        have := nats_head _ z
        omega
      rw [decide_eq_false c]
      rfl
    · unfold numV
      rw [if_pos (by rfl), body_neg, nats_val]
      rfl
theorem digs_num (p : Tx) (h : numOk p = true) : digs (numV p) = p := by
  unfold numOk at h
  simp only [Bool.and_eq_true, Bool.not_eq_true', Bool.and_eq_false_iff, decide_eq_true_eq, decide_eq_false_iff_not, Bool.not_eq_false'] at h
  obtain ⟨⟨⟨h1, h2⟩, h3⟩, h4⟩ := h
  have hd := allDig_of h3
  have hne : bodyT p ≠ [] := List.length_pos_iff.mp h1
  unfold numV
  by_cases c : p.take 1 = [45]
  · rw [if_pos c]
    have hp : p = 45 :: bodyT p := by
      unfold bodyT
      rw [if_pos c]
      cases p with
      | nil => cases c
      | cons a r =>
        have z : [a] = [45] := c
        injection z with z1 _
        subst z1
        rfl
    have hh : ¬ (bodyT p).headD 0 = 48 := by
      rcases h4 with z | z
      · exact z
      · rw [z] at c
        cases c
    have hpos : 0 < digitsVal (bodyT p) := by
      cases hl : bodyT p with
      | nil => exact absurd hl hne
      | cons a r =>
        have ha := hd a (by rw [hl]; exact List.mem_cons_self)
        rw [hl] at hh
        have hh' : ¬ a = 48 := hh
        exact digitsVal_pos (by omega)
    obtain ⟨m, hm⟩ : ∃ m, digitsVal (bodyT p) = m + 1 := ⟨digitsVal (bodyT p) - 1, by omega⟩
    rw [hm, show -(((m + 1 : Nat)) : Int) = Int.negSucc m from rfl, digs_neg, ← hm, nats_of hd hne (fun z => absurd z hh)]
    exact hp.symm
  · rw [if_neg c, digs_nat, nats_of hd hne (fun z => ?_), body_pos c]
    rcases h4 with y | y
    · exact absurd z y
    · rw [y]
      rfl
mutual
def wr : PyData → Option Tx
  | .tuple ds => (wrj ds).map fun l => 91 :: (l ++ [93])
  | .str s => if isWordT s.cps.toList then some s.cps.toList else if s.cps.toList = [] then some [46] else none
  | .bool b => some (if b then [43] else [45])
  | .int i => some (digs i)
  | .none => none
  | .list _ => none
  | .dict _ => none
def wrj : List PyData → Option Tx
  | [] => some []
  | d :: ds => (wr d).bind fun a => (wrj ds).map fun b => if ds.isEmpty then a else a ++ 44 :: b
end
def pcs (tok : Tx) : Tx → List Tx
  | [] => if tok = [] then [] else [tok]
  | c :: r => if sep c then (if tok = [] then [] else [tok]) ++ [c] :: pcs [] r else pcs (tok ++ [c]) r
def atomT (p : Tx) : Option PyData :=
  if p = [43] then some (.bool true) else if p = [45] then some (.bool false) else if p = [46] then some (.str ⟨#[]⟩) else
    if isWordT p then some (.str ⟨p.toArray⟩) else if numOk p then some (.int (numV p)) else none
structure R where
  st : List (List PyData)
  rd : Bool
  td : List PyData
def R.item (r : R) (v : PyData) : Option R := if r.rd then (match r.st with | [] => some ⟨[], false, r.td ++ [v]⟩ | row :: s => some ⟨(row ++ [v]) :: s, false, r.td⟩) else none
def R.opn (r : R) : Option R := if r.rd = true ∧ r.st.length < 1000 then some ⟨[] :: r.st, r.rd, r.td⟩ else none
def R.cls (r : R) : Option R := match r.st with
  | [] => none
  | row :: s => if r.rd = true ∧ row ≠ [] then none else R.item ⟨s, true, r.td⟩ (.tuple row)
def R.com (r : R) : Option R := if r.rd = true ∨ r.st = [] then none else some ⟨r.st, true, r.td⟩
def R.take (r : R) (p : Tx) : Option R := if p = [91] then r.opn else if p = [93] then r.cls else if p = [44] then r.com else (atomT p).bind r.item
def R.zero : R := ⟨[], true, []⟩
def R.fin (r : R) : Option PyData := match r.st, r.td with
  | [], [v] => some v
  | _, _ => none
def readT (l : Tx) : Option PyData := ((pcs [] l).foldlM R.take R.zero).bind R.fin
theorem pcs_flat : ∀ (l tok : Tx), (pcs tok l).flatten = tok ++ l
  | [], tok => by
    unfold pcs
    by_cases h : tok = []
    · rw [if_pos h, h]
      rfl
    · rw [if_neg h]
      simp
  | c :: r, tok => by
    unfold pcs
    by_cases hs : sep c = true
    · rw [if_pos hs, List.flatten_append, List.flatten_cons, pcs_flat r []]
      by_cases h : tok = []
      · rw [if_pos h, h]
        rfl
      · rw [if_neg h]
        simp
    · rw [if_neg hs, pcs_flat r (tok ++ [c])]
      simp
inductive WrC : List PyData → Tx → Prop
  | nil : WrC [] []
  | snoc {row : List PyData} {l a : Tx} {v : PyData} : WrC row l → wr v = some a → WrC (row ++ [v]) (l ++ a ++ [44])
inductive Pre : List (List PyData) → Tx → Prop
  | nil : Pre [] []
  | cons {s : List (List PyData)} {row : List PyData} {l a : Tx} : Pre s l → WrC row a → Pre (row :: s) (l ++ 91 :: a)
inductive Ren : R → Tx → Prop
  | ready {st : List (List PyData)} {l : Tx} : Pre st l → Ren ⟨st, true, []⟩ l
  | top {v : PyData} {l : Tx} : wr v = some l → Ren ⟨[], false, [v]⟩ l
  | inn {s : List (List PyData)} {row : List PyData} {v : PyData} {l a b : Tx} : Pre s l → WrC row a → wr v = some b → Ren ⟨(row ++ [v]) :: s, false, []⟩ (l ++ 91 :: (a ++ b))
theorem wrj_snoc : ∀ (ds : List PyData) (v : PyData) (l b : Tx), WrC ds l → wr v = some b → wrj (ds ++ [v]) = some (l ++ b) := by
  intro ds
  have key : ∀ (ds : List PyData) (v : PyData) (l b : Tx), (∃ parts : List Tx, ds.length = parts.length ∧ (∀ (i : Nat) (d : PyData) (p : Tx), ds[i]? = some d → parts[i]? = some p → wr d = some p) ∧ l = (parts.map fun p => p ++ [44]).flatten) → wr v = some b → wrj (ds ++ [v]) = some (l ++ b) := by
    intro ds
    induction ds with
    | nil =>
      intro v l b ⟨parts, h1, h2, h3⟩ hb
      have : parts = [] := by
        cases parts with
        | nil => rfl
        | cons a r => simp at h1
      subst this
      subst h3
      show wrj [v] = _
      simp only [wrj, hb]
      rfl
    | cons d ds ih =>
      intro v l b ⟨parts, h1, h2, h3⟩ hb
      cases parts with
      | nil => simp at h1
      | cons p parts =>
        have hd := h2 0 d p rfl rfl
        have ht := ih v (parts.map fun p => p ++ [44]).flatten b ⟨parts, by simpa using h1, fun i d p e1 e2 => h2 (i + 1) d p (by simpa using e1) (by simpa using e2), rfl⟩ hb
        show wrj (d :: (ds ++ [v])) = _
        simp only [wrj, hd, ht]
        subst h3
        show some (if (ds ++ [v]).isEmpty = true then p else p ++ 44 :: ((parts.map fun p => p ++ [44]).flatten ++ b)) = _
        rw [if_neg (by simp)]
        simp
  intro v l b hl hb
  refine key ds v l b ?_ hb
  clear hb
  induction hl with
  | nil => exact ⟨[], rfl, fun i d p e => by simp at e, rfl⟩
  | @snoc row l a u h1 h2 ih =>
    obtain ⟨parts, e1, e2, e3⟩ := ih
    refine ⟨parts ++ [a], by simp [e1], fun i d p q1 q2 => ?_, by rw [e3]; simp⟩
    by_cases hi : i < row.length
    · rw [List.getElem?_append_left hi] at q1
      rw [List.getElem?_append_left (by omega)] at q2
      exact e2 i d p q1 q2
    · rw [List.getElem?_append_right (by omega)] at q1
      rw [List.getElem?_append_right (by omega)] at q2
      cases hj : i - row.length with
      | zero =>
        rw [hj] at q1
        rw [show i - parts.length = 0 by omega] at q2
        simp at q1 q2
        subst q1 q2
        exact h2
      | succ k =>
        rw [hj] at q1
        simp at q1
theorem atom_wr {p : Tx} {v : PyData} (h : atomT p = some v) : wr v = some p := by
  unfold atomT at h
  split at h
  · rename_i e
    cases h
    rw [e]
    rfl
  · split at h
    · rename_i e
      cases h
      rw [e]
      rfl
    · split at h
      · rename_i e
        cases h
        rw [e]
        rfl
      · split at h
        · rename_i e
          cases h
          simp only [wr, e]
          rfl
        · split at h
          · rename_i e
            cases h
            simp only [wr]
            rw [digs_num p e]
          · cases h
theorem item_ren {s : List (List PyData)} {l b : Tx} {v : PyData} {r : R} (hp : Pre s l) (hb : wr v = some b) (h : R.item ⟨s, true, []⟩ v = some r) : Ren r (l ++ b) := by
  unfold R.item at h
  rw [if_pos rfl] at h
  cases hp with
  | nil =>
    cases h
    exact .top hb
  | @cons s row l a h1 h2 =>
    cases h
    have := Ren.inn h1 h2 hb
    simpa using this
theorem take_ren {r r' : R} {l p : Tx} (hr : Ren r l) (h : r.take p = some r') : Ren r' (l ++ p) := by
  unfold R.take at h
  split at h
  · rename_i e
    subst e
    unfold R.opn at h
    cases hr with
    | ready hp =>
      split at h
      · cases h
        exact .ready (.cons hp .nil)
      · cases h
    | top hb => simp at h
    | inn h1 h2 h3 => simp at h
  · split at h
    · rename_i e
      subst e
      unfold R.cls at h
      cases hr with
      | ready hp =>
        cases hp with
        | nil => cases h
        | @cons s row l a h1 h2 =>
          simp only at h
          split at h
          · cases h
          · rename_i c
            have e0 : row = [] := by
              by_cases q : row = []
              · exact q
              · simp [q] at c
            have ea : a = [] := by
              cases h2 with
              | nil => rfl
              | snoc _ _ => simp at e0
            subst e0
            subst ea
            have := item_ren h1 (show wr (.tuple []) = some [91, 93] from rfl) h
            simpa using this
      | top hb => cases h
      | @inn s row v l a b h1 h2 h3 =>
        simp only at h
        split at h
        · rename_i c
          exact absurd c.1 (by decide)
        · have hw : wr (.tuple (row ++ [v])) = some (91 :: ((a ++ b) ++ [93])) := by
            simp only [wr, wrj_snoc row v a b h2 h3]
            rfl
          have := item_ren h1 hw h
          simpa using this
    · split at h
      · rename_i e
        subst e
        unfold R.com at h
        cases hr with
        | ready hp => simp at h
        | top hb => simp at h
        | @inn s row v l a b h1 h2 h3 =>
          split at h
          · cases h
          · cases h
            have := Ren.ready (Pre.cons h1 (WrC.snoc h2 h3))
            simpa using this
      · cases ha : atomT p with
        | none =>
          rw [ha] at h
          cases h
        | some v =>
          rw [ha] at h
          have h' : r.item v = some r' := h
          cases hr with
          | ready hp => exact item_ren hp (atom_wr ha) h'
          | top hb => simp [R.item] at h'
          | inn h1 h2 h3 => simp [R.item] at h'
theorem fold_ren : ∀ (ps : List Tx) {r r' : R} {l : Tx}, Ren r l → ps.foldlM R.take r = some r' → Ren r' (l ++ ps.flatten)
  | [], r, r', l, hr, h => by
    cases h
    simpa using hr
  | p :: ps, r, r', l, hr, h => by
    rw [List.foldlM_cons] at h
    cases hp : r.take p with
    | none =>
      rw [hp] at h
      cases h
    | some r1 =>
      rw [hp] at h
      have := fold_ren ps (take_ren hr hp) h
      simpa using this
theorem read_wr {l : Tx} {v : PyData} (h : readT l = some v) : wr v = some l := by
  unfold readT at h
  cases hf : (pcs [] l).foldlM R.take R.zero with
  | none =>
    rw [hf] at h
    cases h
  | some r =>
    rw [hf] at h
    have hr := fold_ren _ (Ren.ready Pre.nil) hf
    rw [pcs_flat] at hr
    have h' : r.fin = some v := h
    unfold R.fin at h'
    cases hr with
    | ready hp =>
      cases hp with
      | nil => cases h'
      | cons _ _ => cases h'
    | top hb =>
      cases h'
      exact hb
    | inn _ _ _ => cases h'
mutual
def dep : PyData → Nat
  | .tuple ds => depAll ds + 1
  | _ => 0
def depAll : List PyData → Nat
  | [] => 0
  | d :: ds => max (dep d) (depAll ds)
end
mutual
def okI : PyData → Prop
  | .tuple ds => okIs ds
  | .int i => i.natAbs < 10 ^ 4000
  | _ => True
def okIs : List PyData → Prop
  | [] => True
  | d :: ds => okI d ∧ okIs ds
end
theorem pcs_tok : ∀ (p tok t : Tx), (∀ c ∈ p, sep c = false) → pcs tok (p ++ t) = pcs (tok ++ p) t
  | [], tok, t, _ => by simp
  | c :: p, tok, t, h => by
    show pcs tok (c :: (p ++ t)) = _
    rw [show pcs tok (c :: (p ++ t)) = if sep c then (if tok = [] then [] else [tok]) ++ [c] :: pcs [] (p ++ t) else pcs (tok ++ [c]) (p ++ t) from rfl,
      h c List.mem_cons_self, if_neg Bool.false_ne_true, pcs_tok p (tok ++ [c]) t (fun d hd => h d (List.mem_cons_of_mem _ hd))]
    simp
def Brk (t : Tx) : Prop := t = [] ∨ ∃ c t', t = c :: t' ∧ sep c = true
theorem pcs_sep {c : Nat} {t : Tx} (h : sep c = true) : pcs [] (c :: t) = [c] :: pcs [] t := by
  rw [show pcs [] (c :: t) = if sep c then (if ([] : Tx) = [] then [] else [[]]) ++ [c] :: pcs [] t else pcs ([] ++ [c]) t from rfl, h, if_pos rfl, if_pos rfl]
  rfl
theorem pcs_atom {p t : Tx} (h : ∀ c ∈ p, sep c = false) (hne : p ≠ []) (ht : Brk t) : pcs [] (p ++ t) = p :: pcs [] t := by
  rw [pcs_tok p [] t h]
  rcases ht with rfl | ⟨c, t', rfl, hc⟩
  · show (if ([] : Tx) ++ p = [] then [] else [[] ++ p]) = _
    rw [List.nil_append, if_neg hne]
    rfl
  · rw [pcs_sep hc, show pcs ([] ++ p) (c :: t') = if sep c then (if ([] : Tx) ++ p = [] then [] else [[] ++ p]) ++ [c] :: pcs [] t' else pcs ([] ++ p ++ [c]) t' from rfl, hc, if_pos rfl, List.nil_append, if_neg hne]
    rfl
theorem word_sep {p : Tx} (h : isWordT p = true) : p ≠ [] ∧ (∀ c ∈ p, sep c = false) ∧ isLet (p.headD 0) = true := by
  unfold isWordT at h
  simp only [Bool.and_eq_true, decide_eq_true_eq] at h
  obtain ⟨⟨⟨h1, h2⟩, h3⟩, h4⟩ := h
  refine ⟨List.length_pos_iff.mp h1, fun c hc => ?_, h3⟩
  have := List.all_eq_true.mp h4 c hc
  unfold isLet isDig at this
  simp only [Bool.or_eq_true, decide_eq_true_eq] at this
  unfold sep
  simp only [Bool.or_eq_false_iff, beq_eq_false_iff_ne]
  omega
theorem digs_sep (i : Int) : digs i ≠ [] ∧ (∀ c ∈ digs i, sep c = false ∧ isLet c = false ∧ c ≠ 43 ∧ c ≠ 46) ∧ digs i ≠ [45] := by
  have hs : ∀ c, (48 ≤ c ∧ c ≤ 57) ∨ c = 45 → sep c = false ∧ isLet c = false ∧ c ≠ 43 ∧ c ≠ 46 := by
    intro c hc
    unfold sep isLet
    simp only [Bool.or_eq_false_iff, beq_eq_false_iff_ne, decide_eq_false_iff_not]
    omega
  cases i with
  | ofNat m =>
    have e : digs (Int.ofNat m) = nats m := digs_nat m
    rw [e]
    refine ⟨nats_ne m, fun c hc => hs c (.inl (nats_all m c hc)), fun z => ?_⟩
    have := nats_all m 45 (by rw [z]; exact List.mem_cons_self)
    omega
  | negSucc m =>
    rw [digs_neg]
    refine ⟨List.cons_ne_nil _ _, fun c hc => ?_, fun z => ?_⟩
    · rcases List.mem_cons.mp hc with q | q
      · exact hs c (.inr q)
      · exact hs c (.inl (nats_all _ c q))
    · injection z with _ z2
      exact nats_ne _ z2
theorem digs_word (i : Int) : isWordT (digs i) = false := by
  obtain ⟨h1, h2, _⟩ := digs_sep i
  cases h : isWordT (digs i) with
  | false => rfl
  | true =>
    obtain ⟨_, _, h3⟩ := word_sep h
    cases hl : digs i with
    | nil => exact absurd hl h1
    | cons a r =>
      rw [hl] at h3
      have := (h2 a (by rw [hl]; exact List.mem_cons_self)).2.1
      have h3' : isLet a = true := h3
      rw [this] at h3'
      cases h3'
theorem atom_digs (i : Int) (h : i.natAbs < 10 ^ 4000) : atomT (digs i) = some (.int i) := by
  obtain ⟨h1, h2, h3⟩ := digs_sep i
  obtain ⟨n1, n2⟩ := num_digs i h
  unfold atomT
  rw [if_neg, if_neg h3, if_neg, digs_word, if_neg Bool.false_ne_true, n1, if_pos rfl, n2]
  · intro z
    exact (h2 46 (by rw [z]; exact List.mem_cons_self)).2.2.2 rfl
  · intro z
    exact (h2 43 (by rw [z]; exact List.mem_cons_self)).2.2.1 rfl
theorem str_back (s : Str) : (⟨s.cps.toList.toArray⟩ : Str) = s := by
  cases s
  simp
theorem atom_word (s : Str) (h : isWordT s.cps.toList = true) : atomT s.cps.toList = some (.str s) := by
  obtain ⟨h1, h2, h3⟩ := word_sep h
  have nl : ∀ c, c = 43 ∨ c = 45 ∨ c = 46 → s.cps.toList ≠ [c] := by
    intro c hc z
    rw [z] at h3
    have h3' : isLet c = true := h3
    unfold isLet at h3'
    have := of_decide_eq_true h3'
    omega
  unfold atomT
  rw [if_neg (nl 43 (.inl rfl)), if_neg (nl 45 (.inr (.inl rfl))), if_neg (nl 46 (.inr (.inr rfl))), h, if_pos rfl, str_back]
theorem take_atom {r r' : R} {p : Tx} {v : PyData} (hs : ∀ c ∈ p, sep c = false) (ha : atomT p = some v) (hi : r.item v = some r') : r.take p = some r' := by
  have np : ∀ c, sep c = true → p ≠ [c] := by
    intro c hc z
    have := hs c (by rw [z]; exact List.mem_cons_self)
    rw [hc] at this
    cases this
  unfold R.take
  rw [if_neg (np 91 (by decide)), if_neg (np 93 (by decide)), if_neg (np 44 (by decide)), ha]
  exact hi
theorem fold_atom {r r' : R} {p t : Tx} {v : PyData} (hne : p ≠ []) (hs : ∀ c ∈ p, sep c = false) (ha : atomT p = some v) (hi : r.item v = some r') (ht : Brk t) :
    (pcs [] (p ++ t)).foldlM R.take r = (pcs [] t).foldlM R.take r' := by
  rw [pcs_atom hs hne ht, List.foldlM_cons, take_atom hs ha hi]
  rfl
mutual
theorem fold_wr : ∀ (d : PyData) (l t : Tx) (r r' : R), wr d = some l → okI d → r.st.length + dep d ≤ 1000 → r.rd = true → Brk t → r.item d = some r' →
    (pcs [] (l ++ t)).foldlM R.take r = (pcs [] t).foldlM R.take r'
  | .tuple ds, l, t, r, r', hw, ho, hd, hr, ht, hi => by
    obtain ⟨j, hj, rfl⟩ : ∃ j, wrj ds = some j ∧ l = 91 :: (j ++ [93]) := by
      simp only [wr] at hw
      cases q : wrj ds with
      | none => rw [q] at hw; cases hw
      | some j => rw [q] at hw; cases hw; exact ⟨j, rfl, rfl⟩
    simp only [dep] at hd
    have e1 : (91 :: (j ++ [93])) ++ t = 91 :: (j ++ 93 :: t) := by simp
    have e2 : r.take [91] = some ⟨[] :: r.st, r.rd, r.td⟩ := by
      show r.opn = _
      unfold R.opn
      rw [if_pos ⟨hr, by omega⟩]
    rw [e1, pcs_sep (by decide), List.foldlM_cons, e2]
    show (pcs [] (j ++ 93 :: t)).foldlM R.take ⟨[] :: r.st, r.rd, r.td⟩ = _
    rw [hr]
    refine fold_wrj ds j t [] r.st r.td r' hj (by simpa [okI] using ho) (by omega) ?_ (.inl rfl)
    have e3 : r = ⟨r.st, true, r.td⟩ := by
      cases r
      simp only at hr
      rw [hr]
    rw [List.nil_append, ← e3]
    exact hi
  | .str s, l, t, r, r', hw, ho, hd, hr, ht, hi => by
    simp only [wr] at hw
    split at hw
    · rename_i h
      cases hw
      obtain ⟨h1, h2, _⟩ := word_sep h
      exact fold_atom h1 h2 (atom_word s h) hi ht
    · split at hw
      · rename_i h
        cases hw
        have es : s = ⟨#[]⟩ := by
          rw [← str_back s, h]
        subst es
        exact fold_atom (by decide) (by decide) rfl hi ht
      · cases hw
  | .bool b, l, t, r, r', hw, ho, hd, hr, ht, hi => by
    cases b with
    | true =>
      cases hw
      exact fold_atom (by decide) (by decide) rfl hi ht
    | false =>
      cases hw
      exact fold_atom (by decide) (by decide) rfl hi ht
  | .int i, l, t, r, r', hw, ho, hd, hr, ht, hi => by
    cases hw
    obtain ⟨h1, h2, _⟩ := digs_sep i
    exact fold_atom h1 (fun c hc => (h2 c hc).1) (atom_digs i (by simpa [okI] using ho)) hi ht
  | .none, l, t, r, r', hw, _, _, _, _, _ => by cases hw
  | .list _, l, t, r, r', hw, _, _, _, _, _ => by cases hw
  | .dict _, l, t, r, r', hw, _, _, _, _, _ => by cases hw
theorem fold_wrj : ∀ (ds : List PyData) (l t : Tx) (row : List PyData) (s : List (List PyData)) (td : List PyData) (r' : R), wrj ds = some l → okIs ds → s.length + 1 + depAll ds ≤ 1000 →
    R.item ⟨s, true, td⟩ (.tuple (row ++ ds)) = some r' → (row = [] ∨ ds ≠ []) → (pcs [] (l ++ 93 :: t)).foldlM R.take ⟨row :: s, true, td⟩ = (pcs [] t).foldlM R.take r'
  | [], l, t, row, s, td, r', hw, ho, hd, hi, hn => by
    cases hw
    have hr : row = [] := by
      rcases hn with h | h
      · exact h
      · exact absurd rfl h
    subst hr
    rw [List.nil_append, pcs_sep (by decide), List.foldlM_cons]
    have e : R.take ⟨[] :: s, true, td⟩ [93] = some r' := by
      unfold R.take
      rw [if_neg (by decide), if_pos rfl]
      unfold R.cls
      simp only
      rw [if_neg (by simp)]
      simpa using hi
    rw [e]
    rfl
  | d :: ds, l, t, row, s, td, r', hw, ho, hd, hi, hn => by
    simp only [wrj] at hw
    cases ha : wr d with
    | none => rw [ha] at hw; cases hw
    | some a =>
      rw [ha] at hw
      cases hb : wrj ds with
      | none => rw [hb] at hw; cases hw
      | some b =>
        rw [hb] at hw
        simp only [Option.bind_some, Option.map_some] at hw
        simp only [okIs] at ho
        simp only [depAll] at hd
        have it : R.item ⟨row :: s, true, td⟩ d = some ⟨(row ++ [d]) :: s, false, td⟩ := rfl
        cases ds with
        | nil =>
          have el : l = a := by simpa using hw.symm
          subst el
          rw [fold_wr d l (93 :: t) ⟨row :: s, true, td⟩ _ ha ho.1 (by simp only [List.length_cons]; omega) rfl (.inr ⟨93, t, rfl, by decide⟩) it]
          rw [pcs_sep (by decide), List.foldlM_cons]
          have e : R.take ⟨(row ++ [d]) :: s, false, td⟩ [93] = some r' := by
            unfold R.take
            rw [if_neg (by decide), if_pos rfl]
            unfold R.cls
            simp only
            rw [if_neg (by simp)]
            exact hi
          rw [e]
          rfl
        | cons d2 ds2 =>
          have el : l = a ++ 44 :: b := by simpa using hw.symm
          subst el
          have e1 : (a ++ 44 :: b) ++ 93 :: t = a ++ (44 :: (b ++ 93 :: t)) := by simp
          rw [e1, fold_wr d a (44 :: (b ++ 93 :: t)) ⟨row :: s, true, td⟩ _ ha ho.1 (by simp only [List.length_cons]; omega) rfl (.inr ⟨44, _, rfl, by decide⟩) it]
          rw [pcs_sep (by decide), List.foldlM_cons]
          have e : R.take ⟨(row ++ [d]) :: s, false, td⟩ [44] = some ⟨(row ++ [d]) :: s, true, td⟩ := rfl
          rw [e]
          show (pcs [] (b ++ 93 :: t)).foldlM R.take ⟨(row ++ [d]) :: s, true, td⟩ = _
          refine fold_wrj (d2 :: ds2) b t (row ++ [d]) s td r' hb ho.2 (by omega) ?_ (.inr (List.cons_ne_nil _ _))
          rw [List.append_assoc]
          exact hi
end
theorem wr_read {d : PyData} {l : Tx} (h : wr d = some l) (ho : okI d) (hd : dep d ≤ 1000) : readT l = some d := by
  have := fold_wr d l [] R.zero ⟨[], false, [d]⟩ h ho (by simpa [R.zero] using hd) rfl (.inl rfl) rfl
  unfold readT
  rw [List.append_nil] at this
  rw [this]
  rfl
end DataM

set_option exponentiation.threshold 256
set_option Elab.async false
set_option linter.all false
set_option maxRecDepth 100000
set_option maxHeartbeats 4000000
set_option exponentiation.threshold 10
namespace DataM
open PySem PySem.NumText
def wt (c : Nat) : Int := if c = 91 then 1 else if c = 93 then -1 else 0
def sm : Tx → Int
  | [] => 0
  | c :: l => wt c + sm l
def mb : Tx → Int
  | [] => 0
  | c :: l => max 0 (wt c + mb l)
theorem wt_le (c : Nat) : -1 ≤ wt c ∧ wt c ≤ 1 := by
  unfold wt
  split
  · omega
  · split <;> omega
theorem mb_nonneg : ∀ l, 0 ≤ mb l
  | [] => Int.le_refl 0
  | c :: l => by
    simp only [mb]
    omega
theorem sm_app : ∀ a b, sm (a ++ b) = sm a + sm b
  | [], b => by simp [sm]
  | c :: a, b => by
    rw [List.cons_append]
    simp only [sm, sm_app a b]
    omega
theorem mb_app : ∀ a b, mb (a ++ b) = max (mb a) (sm a + mb b)
  | [], b => by
    have := mb_nonneg b
    simp only [List.nil_append, mb, sm]
    omega
  | c :: a, b => by
    rw [List.cons_append]
    simp only [mb, sm, mb_app a b]
    omega
theorem flat0 : ∀ {l : Tx}, (∀ c ∈ l, sep c = false) → sm l = 0 ∧ mb l = 0
  | [], _ => ⟨rfl, rfl⟩
  | c :: l, h => by
    have h1 := h c List.mem_cons_self
    have h2 := flat0 (l := l) fun x hx => h x (List.mem_cons_of_mem _ hx)
    have e : wt c = 0 := by
      unfold wt
      rw [if_neg (by intro z; subst z; cases h1), if_neg (by intro z; subst z; cases h1)]
    simp only [sm, mb, e]
    omega
mutual
theorem mb_wr : ∀ (d : PyData) (l : Tx), wr d = some l → sm l = 0 ∧ mb l = (dep d : Int)
  | .tuple ds, l, h => by
    simp only [wr] at h
    cases hx : wrj ds with
    | none =>
      rw [hx] at h
      cases h
    | some x =>
      rw [hx] at h
      cases h
      have ih := mb_wrj ds x hx
      have e1 : wt 91 = 1 := rfl
      have e2 : wt 93 = -1 := rfl
      show sm (91 :: (x ++ [93])) = 0 ∧ mb (91 :: (x ++ [93])) = _
      simp only [sm, mb, sm_app, mb_app, dep, e1, e2]
      omega
  | .str s, l, h => by
    simp only [wr] at h
    split at h
    · rename_i hw
      cases h
      have := flat0 (word_sep hw).2.1
      simp only [dep]
      omega
    · split at h
      · cases h
        simp only [dep]
        exact ⟨rfl, rfl⟩
      · cases h
  | .bool b, l, h => by
    simp only [wr] at h
    cases h
    cases b <;> exact ⟨rfl, rfl⟩
  | .int i, l, h => by
    simp only [wr] at h
    cases h
    have := flat0 fun c hc => ((digs_sep i).2.1 c hc).1
    simp only [dep]
    omega
  | .none, _, h => by cases h
  | .list _, _, h => by cases h
  | .dict _, _, h => by cases h
theorem mb_wrj : ∀ (ds : List PyData) (l : Tx), wrj ds = some l → sm l = 0 ∧ mb l = (depAll ds : Int)
  | [], l, h => by
    simp only [wrj] at h
    cases h
    exact ⟨rfl, rfl⟩
  | d :: ds, l, h => by
    simp only [wrj] at h
    cases ha : wr d with
    | none =>
      rw [ha] at h
      cases h
    | some a =>
      cases hb : wrj ds with
      | none =>
        rw [ha, hb] at h
        cases h
      | some b =>
        rw [ha, hb] at h
        have i1 := mb_wr d a ha
        have i2 := mb_wrj ds b hb
        have e1 : wt 44 = 0 := rfl
        cases ds with
        | nil =>
          simp at h
          subst h
          simp only [depAll]
          omega
        | cons d2 ds =>
          simp at h
          subst h
          simp only [sm, mb, sm_app, mb_app, depAll, e1] at *
          omega
end
theorem mb_cons (c : Nat) (l : Tx) : mb (c :: l) ≤ mb l + 1 ∧ mb l ≤ mb (c :: l) + 1 := by
  have h1 := wt_le c
  have h2 := mb_nonneg l
  simp only [mb]
  omega
theorem mb_ins (a : Tx) (c : Nat) (b : Tx) : mb (a ++ c :: b) ≤ mb (a ++ b) + 1 := by
  rw [mb_app, mb_app]
  have := mb_cons c b
  omega
theorem mb_del (a : Tx) (c : Nat) (b : Tx) : mb (a ++ b) ≤ mb (a ++ c :: b) + 1 := by
  rw [mb_app, mb_app]
  have := mb_cons c b
  omega
theorem sm_pre (a b : Tx) : sm a ≤ mb (a ++ b) := by
  rw [mb_app]
  have := mb_nonneg b
  omega
def Runs (M : Nat) (l : Tx) : Prop := ∀ a p b, l = a ++ p ++ b → (∀ c ∈ p, sep c = false) → p.length ≤ M
theorem Runs.sub {M : Nat} {a l b : Tx} (h : Runs M (a ++ l ++ b)) : Runs M l := fun x p y e hp => h (a ++ x) p (y ++ b) (by rw [e]; simp) hp
theorem Runs.app {M N : Nat} {a b : Tx} (h : Runs M a) (k : Runs N b) : Runs (M + N) (a ++ b) := fun x p y e hp => by
  rw [List.append_assoc] at e
  rcases List.append_eq_append_iff.mp e with ⟨z, e1, e2⟩ | ⟨z, e1, e2⟩
  · have := k z p y (by rw [e2, List.append_assoc]) hp
    omega
  · rcases List.append_eq_append_iff.mp e2 with ⟨u, e3, e4⟩ | ⟨u, e3, e4⟩
    · have := h x p u (by rw [e1, e3]; simp) hp
      omega
    · have h1 := h x z [] (by rw [e1]; simp) fun c hc => hp c (by rw [e3]; exact List.mem_append_left _ hc)
      have h2 := k [] u y (by rw [e4]; rfl) fun c hc => hp c (by rw [e3]; exact List.mem_append_right _ hc)
      rw [e3, List.length_append]
      omega
theorem Runs.sep {M : Nat} {a b : Tx} {s : Nat} (hs : sep s = true) (h : Runs M a) (k : Runs M b) : Runs M (a ++ s :: b) := fun x p y e hp => by
  rw [List.append_assoc] at e
  rcases List.append_eq_append_iff.mp e with ⟨z, e1, e2⟩ | ⟨z, e1, e2⟩
  · cases z with
    | nil =>
      cases p with
      | nil => simp
      | cons c p =>
        have e3 : s = c := by
          simp at e2
          exact e2.1
        have := hp c List.mem_cons_self
        rw [← e3, hs] at this
        cases this
    | cons c z =>
      have e3 : b = z ++ (p ++ y) := by
        simp at e2
        exact e2.2
      exact k z p y (by rw [e3, List.append_assoc]) hp
  · rcases List.append_eq_append_iff.mp e2 with ⟨u, e3, e4⟩ | ⟨u, e3, e4⟩
    · exact h x p u (by rw [e1, e3]; simp) hp
    · cases u with
      | nil => exact h x p [] (by rw [e1, e3]; simp) hp
      | cons c u =>
        have e5 : s = c := by
          simp at e4
          exact e4.1
        have := hp c (by rw [e3]; simp)
        rw [← e5, hs] at this
        cases this
theorem Runs.of_len {M : Nat} {l : Tx} (h : l.length ≤ M) : Runs M l := fun a p b e _ => by
  rw [e] at h
  simp at h
  omega
theorem Runs.mono {M N : Nat} {l : Tx} (h : Runs M l) (k : M ≤ N) : Runs N l := fun a p b e hp => Nat.le_trans (h a p b e hp) k
theorem Runs.take {M : Nat} {l : Tx} (h : Runs M l) (i : Nat) : Runs M (l.take i) := fun a p b e hp => h a p (b ++ l.drop i) (by rw [← List.append_assoc, ← e, List.take_append_drop]) hp
theorem Runs.drop {M : Nat} {l : Tx} (h : Runs M l) (i : Nat) : Runs M (l.drop i) := fun a p b e hp => h (l.take i ++ a) p b (by
  have e2 : l = l.take i ++ l.drop i := (List.take_append_drop i l).symm
  rw [e] at e2
  simpa [List.append_assoc] using e2) hp
theorem val_lt : ∀ (cs : Tx) (a : Nat), AllDigits cs → cs.foldl (fun acc c => acc * 10 + (c - 48)) a < (a + 1) * 10 ^ cs.length
  | [], a, _ => by simp
  | c :: cs, a, h => by
    have hc := h.head
    have ih := val_lt cs (a * 10 + (c - 48)) h.tail
    rw [List.foldl_cons, List.length_cons, Nat.pow_succ]
    refine Nat.lt_of_lt_of_le ih ?_
    have : a * 10 + (c - 48) + 1 ≤ (a + 1) * 10 := by omega
    calc (a * 10 + (c - 48) + 1) * 10 ^ cs.length ≤ ((a + 1) * 10) * 10 ^ cs.length := Nat.mul_le_mul_right _ this
      _ = (a + 1) * (10 ^ cs.length * 10) := by rw [Nat.mul_assoc, Nat.mul_comm 10]
theorem nats_lt (m k : Nat) (h : (nats m).length ≤ k) : m < 10 ^ k := by
  have h1 := val_lt (nats m) 0 (nats_all m)
  have h2 : digitsVal (nats m) = m := nats_val m
  unfold digitsVal at h2
  rw [h2] at h1
  have : 10 ^ (nats m).length ≤ 10 ^ k := Nat.pow_le_pow_right (by decide) h
  omega
theorem digs_lt (i : Int) (k : Nat) (h : (digs i).length ≤ k) : i.natAbs < 10 ^ k := by
  cases i with
  | ofNat m =>
    rw [show (Int.ofNat m) = (m : Int) from rfl, digs_nat] at h
    exact nats_lt m k h
  | negSucc m =>
    rw [digs_neg] at h
    show m + 1 < 10 ^ k
    refine nats_lt (m + 1) k ?_
    simp at h
    omega
mutual
def intsB (M : Nat) : PyData → Prop
  | .tuple ds => intsBs M ds
  | .int i => i.natAbs < 10 ^ M
  | _ => True
def intsBs (M : Nat) : List PyData → Prop
  | [] => True
  | d :: ds => intsB M d ∧ intsBs M ds
end
mutual
theorem wr_ints {M : Nat} : ∀ (d : PyData) (l : Tx), wr d = some l → Runs M l → intsB M d
  | .tuple ds, l, h, k => by
    simp only [wr] at h
    cases hx : wrj ds with
    | none =>
      rw [hx] at h
      cases h
    | some x =>
      rw [hx] at h
      cases h
      simp only [intsB]
      exact wrj_ints ds x hx (Runs.sub (a := [91]) (b := [93]) k)
  | .int i, l, h, k => by
    simp only [wr] at h
    cases h
    simp only [intsB]
    exact digs_lt i M (k [] (digs i) [] (by simp) fun c hc => ((digs_sep i).2.1 c hc).1)
  | .str s, l, h, k => by simp only [intsB]
  | .bool b, l, h, k => by simp only [intsB]
  | .none, _, h, _ => by cases h
  | .list _, _, h, _ => by cases h
  | .dict _, _, h, _ => by cases h
theorem wrj_ints {M : Nat} : ∀ (ds : List PyData) (l : Tx), wrj ds = some l → Runs M l → intsBs M ds
  | [], l, h, k => by simp only [intsBs]
  | d :: ds, l, h, k => by
    simp only [wrj] at h
    cases ha : wr d with
    | none =>
      rw [ha] at h
      cases h
    | some a =>
      cases hb : wrj ds with
      | none =>
        rw [ha, hb] at h
        cases h
      | some b =>
        rw [ha, hb] at h
        simp only [intsBs]
        cases ds with
        | nil =>
          simp at h
          subst h
          exact ⟨wr_ints d a ha k, by simp only [intsBs]⟩
        | cons d2 ds =>
          simp at h
          subst h
          exact ⟨wr_ints d a ha (Runs.sub (a := []) (b := 44 :: b) (by simpa using k)), wrj_ints (d2 :: ds) b hb (Runs.sub (a := a ++ [44]) (b := []) (by simpa using k))⟩
end
end DataM

set_option exponentiation.threshold 256
set_option Elab.async false
set_option linter.all false
set_option maxRecDepth 100000
set_option maxHeartbeats 4000000
set_option exponentiation.threshold 10
namespace DataM
open PySem PySem.NumText
structure LS where
  rows : List (List PyData)
  dn : Option PyData
  tok : Tx
  ah : Bool
def LS.flush (s : LS) : Option LS := if s.tok = [] then some s else (atomT s.tok).bind fun v => if s.ah = true then some ⟨s.rows, some v, [], false⟩ else none
def LS.act (s : LS) (c : Nat) : Option LS :=
  if c = 91 then (if s.ah = true then some ⟨[] :: s.rows, s.dn, s.tok, s.ah⟩ else none)
  else if c = 44 then (match s.ah, s.rows, s.dn with
    | false, row :: rest, some v => some ⟨(row ++ [v]) :: rest, s.dn, s.tok, true⟩
    | _, _, _ => none)
  else if c = 93 then (match s.rows with
    | [] => none
    | row :: rest => if s.ah = true ∧ row ≠ [] then none else some ⟨rest, some (.tuple (row ++ (if s.ah = true then [] else s.dn.toList))), s.tok, false⟩)
  else some s
def cut (c : Nat) : Bool := sep c || c == 59
def LS.step (s : LS) (c : Nat) : Option LS := if cut c = true then s.flush.bind fun s => s.act c else some ⟨s.rows, s.dn, s.tok ++ [c], s.ah⟩
def LS.zero : LS := ⟨[], none, [], true⟩
def LS.fin (s : LS) : Option PyData := if s.rows = [] ∧ s.ah = false then s.dn else none
def lr (l : Tx) : Option PyData := ((l ++ [59]).foldlM LS.step LS.zero).bind LS.fin
structure Sim (s : LS) (r : R) : Prop where
  rd : r.rd = s.ah
  yes : s.ah = true → r.st = s.rows ∧ r.td = []
  no : s.ah = false → ∃ v, s.dn = some v ∧ ((s.rows = [] ∧ r.st = [] ∧ r.td = [v]) ∨ ∃ row rest, s.rows = row :: rest ∧ r.st = (row ++ [v]) :: rest ∧ r.td = [])
theorem Sim.len {s : LS} {r : R} (h : Sim s r) : r.st.length = s.rows.length := by
  cases e : s.ah with
  | true => rw [(h.yes e).1]
  | false =>
    obtain ⟨v, _, ⟨h1, h2, _⟩ | ⟨row, rest, h1, h2, _⟩⟩ := h.no e
    · rw [h1, h2]
    · rw [h1, h2]
      simp
def Both (o : Option LS) (p : Option R) (n : Int) : Prop := (o = none ∧ p = none) ∨ ∃ s r, o = some s ∧ p = some r ∧ Sim s r ∧ s.tok = [] ∧ (s.rows.length : Int) = n
theorem item_sim {s : LS} {r : R} {v : PyData} {t : Tx} (h : Sim s r) : (s.ah = false ∧ r.item v = none) ∨ (s.ah = true ∧ ∃ r', r.item v = some r' ∧ Sim ⟨s.rows, some v, t, false⟩ r') := by
  cases e : s.ah with
  | false =>
    refine .inl ⟨rfl, ?_⟩
    unfold R.item
    rw [h.rd, e]
    rfl
  | true =>
    refine .inr ⟨rfl, ?_⟩
    obtain ⟨h1, h2⟩ := h.yes e
    unfold R.item
    rw [h.rd, e, h1, h2]
    cases hr : s.rows with
    | nil => exact ⟨_, rfl, rfl, fun z => (by cases z), fun _ => ⟨v, rfl, .inl ⟨rfl, rfl, rfl⟩⟩⟩
    | cons row rest => exact ⟨_, rfl, rfl, fun z => (by cases z), fun _ => ⟨v, rfl, .inr ⟨row, rest, rfl, rfl, rfl⟩⟩⟩
theorem take_tok {r : R} {p : Tx} (h : ∀ c ∈ p, sep c = false) : r.take p = (atomT p).bind r.item := by
  have ne : ∀ c, sep c = true → ¬ p = [c] := fun c hc e => by
    rw [e] at h
    rw [h c List.mem_cons_self] at hc
    cases hc
  unfold R.take
  rw [if_neg (ne 91 rfl), if_neg (ne 93 rfl), if_neg (ne 44 rfl)]
theorem flush_sim {s : LS} {r : R} (h : Sim s r) (ht : ∀ c ∈ s.tok, sep c = false) (hne : s.tok ≠ []) : Both s.flush (r.take s.tok) s.rows.length := by
  rw [take_tok ht]
  unfold LS.flush
  rw [if_neg hne]
  cases ha : atomT s.tok with
  | none => exact .inl ⟨rfl, rfl⟩
  | some v =>
    rcases item_sim (v := v) (t := []) h with ⟨e, k⟩ | ⟨e, r', k, hs⟩
    · refine .inl ⟨?_, k⟩
      show (if s.ah = true then _ else none) = none
      rw [e]
      rfl
    · refine .inr ⟨_, r', ?_, k, hs, rfl, rfl⟩
      show (if s.ah = true then _ else none) = _
      rw [e]
      rfl
theorem act_sim {s : LS} {r : R} {c : Nat} (h : Sim s r) (ht : s.tok = []) (hc : sep c = true) (hl : s.rows.length < 1000) : Both (s.act c) (r.take [c]) (s.rows.length + wt c) := by
  have hlen := h.len
  have hcc : c = 91 ∨ c = 93 ∨ c = 44 := by
    unfold sep at hc
    simp only [Bool.or_eq_true, beq_iff_eq] at hc
    omega
  rcases hcc with rfl | rfl | rfl
  · show Both (if s.ah = true then _ else none) r.opn _
    unfold R.opn
    cases e : s.ah with
    | false =>
      refine .inl ⟨rfl, ?_⟩
      rw [if_neg (by rw [h.rd, e]; simp)]
    | true =>
      obtain ⟨h1, h2⟩ := h.yes e
      refine .inr ⟨_, _, if_pos rfl, if_pos ⟨by rw [h.rd, e], by omega⟩, ⟨by rw [h.rd, e], fun _ => ⟨by rw [h1], h2⟩, fun z => (by cases z)⟩, ht, ?_⟩
      show (([] :: s.rows).length : Int) = s.rows.length + 1
      simp
  · show Both (match s.rows with
      | [] => none
      | row :: rest => if s.ah = true ∧ row ≠ [] then none else some ⟨rest, some (.tuple (row ++ (if s.ah = true then [] else s.dn.toList))), s.tok, false⟩) r.cls _
    unfold R.cls
    have close : ∀ (row : List PyData) (rest : List (List PyData)) (new : List PyData), s.rows = row :: rest → Both (some ⟨rest, some (.tuple new), s.tok, false⟩) (R.item ⟨rest, true, []⟩ (.tuple new)) (s.rows.length + wt 93) := fun row rest new hr => by
      have hs0 : Sim ⟨rest, none, [], true⟩ ⟨rest, true, []⟩ := ⟨rfl, fun _ => ⟨rfl, rfl⟩, fun z => (by cases z)⟩
      rcases item_sim (v := .tuple new) (t := s.tok) hs0 with ⟨e, _⟩ | ⟨_, r', k, hs⟩
      · cases e
      · refine .inr ⟨_, r', rfl, k, hs, ht, ?_⟩
        show ((rest.length : Nat) : Int) = _
        rw [hr, show wt 93 = -1 from rfl, List.length_cons]
        omega
    cases e : s.ah with
    | true =>
      obtain ⟨h1, h2⟩ := h.yes e
      rw [h1, h2]
      cases hr : s.rows with
      | nil => exact .inl ⟨rfl, rfl⟩
      | cons row rest =>
        rw [h.rd, e]
        by_cases hrow : row ≠ []
        · refine .inl ⟨if_pos ⟨rfl, hrow⟩, if_pos ⟨rfl, hrow⟩⟩
        · have e1 : (if (true = true ∧ row ≠ []) then none else some (⟨rest, some (.tuple (row ++ (if true = true then [] else s.dn.toList))), s.tok, false⟩ : LS)) = some ⟨rest, some (.tuple row), s.tok, false⟩ := by
            rw [if_neg (fun z => hrow z.2), if_pos rfl, List.append_nil]
          have e2 : (if (true = true ∧ row ≠ []) then none else R.item ⟨rest, true, []⟩ (.tuple row)) = R.item ⟨rest, true, []⟩ (.tuple row) := if_neg (fun z => hrow z.2)
          show Both (if (true = true ∧ row ≠ []) then none else some (⟨rest, some (.tuple (row ++ (if true = true then [] else s.dn.toList))), s.tok, false⟩ : LS)) (if (true = true ∧ row ≠ []) then none else R.item ⟨rest, true, []⟩ (.tuple row)) _
          rw [e1, e2, ← hr]
          exact close row rest row hr
    | false =>
      obtain ⟨v, hd, ⟨h1, h2, h3⟩ | ⟨row, rest, h1, h2, h3⟩⟩ := h.no e
      · rw [h1, h2]
        exact .inl ⟨rfl, rfl⟩
      · rw [h1, h2, h3, h.rd, e, hd]
        have e1 : (if (false = true ∧ row ≠ []) then none else some (⟨rest, some (.tuple (row ++ (if false = true then [] else (some v).toList))), s.tok, false⟩ : LS)) = some ⟨rest, some (.tuple (row ++ [v])), s.tok, false⟩ := by
          rw [if_neg (fun z => Bool.false_ne_true z.1), if_neg Bool.false_ne_true]
          rfl
        have e2 : (if (false = true ∧ row ++ [v] ≠ []) then none else R.item ⟨rest, true, []⟩ (.tuple (row ++ [v]))) = R.item ⟨rest, true, []⟩ (.tuple (row ++ [v])) := if_neg (fun z => Bool.false_ne_true z.1)
        show Both (if (false = true ∧ row ≠ []) then none else some (⟨rest, some (.tuple (row ++ (if false = true then [] else (some v).toList))), s.tok, false⟩ : LS)) (if (false = true ∧ row ++ [v] ≠ []) then none else R.item ⟨rest, true, []⟩ (.tuple (row ++ [v]))) _
        rw [e1, e2, ← h1]
        exact close row rest (row ++ [v]) h1
  · show Both (match s.ah, s.rows, s.dn with
      | false, row :: rest, some v => some ⟨(row ++ [v]) :: rest, s.dn, s.tok, true⟩
      | _, _, _ => none) r.com _
    unfold R.com
    cases e : s.ah with
    | true =>
      refine .inl ⟨rfl, ?_⟩
      rw [if_pos (.inl (by rw [h.rd, e]))]
    | false =>
      obtain ⟨v, hd, ⟨h1, h2, h3⟩ | ⟨row, rest, h1, h2, h3⟩⟩ := h.no e
      · refine .inl ⟨?_, ?_⟩
        · rw [h1]
        · rw [if_pos (.inr h2)]
      · rw [h1, hd, h2, if_neg (by rw [h.rd, e]; simp)]
        refine .inr ⟨_, _, rfl, rfl, ⟨rfl, fun _ => ⟨rfl, h3⟩, fun z => (by cases z)⟩, ht, ?_⟩
        rw [show wt 44 = 0 from rfl]
        simp
theorem fin_sim {s : LS} {r : R} (h : Sim s r) : R.fin r = LS.fin s := by
  unfold R.fin LS.fin
  cases e : s.ah with
  | true =>
    obtain ⟨h1, h2⟩ := h.yes e
    rw [h2, if_neg (by simp)]
    cases r.st <;> rfl
  | false =>
    obtain ⟨v, hd, ⟨h1, h2, h3⟩ | ⟨row, rest, h1, h2, h3⟩⟩ := h.no e
    · rw [h2, h3, h1, hd]
      rfl
    · rw [h2, h1, if_neg (by simp)]
theorem pcs_cons' (tok : Tx) (c : Nat) (r : Tx) : pcs tok (c :: r) = if sep c then (if tok = [] then [] else [tok]) ++ [c] :: pcs [] r else pcs (tok ++ [c]) r := by
  rw [pcs]
theorem pcs_nil' (tok : Tx) : pcs tok [] = if tok = [] then [] else [tok] := by
  rw [pcs]
theorem run_sim : ∀ (l : Tx) (s : LS) (r : R), Sim s r → (∀ c ∈ s.tok, sep c = false) → (∀ c ∈ l, c ≠ 59) → s.rows.length + mb l ≤ 999 →
    ((pcs s.tok l).foldlM R.take r).bind R.fin = ((l ++ [59]).foldlM LS.step s).bind LS.fin
  | [], s, r, h, ht, _, _ => by
    show _ = (([59] : Tx).foldlM LS.step s).bind LS.fin
    have hstep : LS.step s 59 = s.flush.bind fun s => s.act 59 := rfl
    have hact : ∀ s : LS, s.act 59 = some s := fun s => rfl
    have e1 : (([59] : Tx).foldlM LS.step s) = s.flush := by
      show (LS.step s 59).bind (fun s' => some s') = _
      rw [hstep]
      cases s.flush with
      | none => rfl
      | some s' => exact congrArg (fun o : Option LS => o.bind fun s' => some s') (hact s')
    rw [e1, pcs_nil']
    by_cases hn : s.tok = []
    · rw [if_pos hn]
      unfold LS.flush
      rw [if_pos hn]
      exact fin_sim h
    · rw [if_neg hn]
      have e2 : ([s.tok].foldlM R.take r) = r.take s.tok := by
        show (r.take s.tok).bind (fun s' => some s') = _
        cases r.take s.tok <;> rfl
      rw [e2]
      rcases flush_sim h ht hn with ⟨k1, k2⟩ | ⟨s', r', k1, k2, k3, _⟩
      · rw [k1, k2]
        rfl
      · rw [k1, k2]
        exact fin_sim k3
  | c :: l, s, r, h, ht, hl, hb => by
    have hl2 : ∀ c ∈ l, c ≠ 59 := fun x hx => hl x (List.mem_cons_of_mem _ hx)
    have hc59 : c ≠ 59 := hl c List.mem_cons_self
    have hmb := mb_nonneg l
    have hwt := wt_le c
    simp only [mb] at hb
    rw [List.cons_append, pcs_cons', List.foldlM_cons]
    cases hs : sep c with
    | false =>
      have hcut : cut c = false := by
        unfold cut
        rw [hs, beq_eq_false_iff_ne.mpr hc59]
        rfl
      have hst : LS.step s c = some ⟨s.rows, s.dn, s.tok ++ [c], s.ah⟩ := by
        unfold LS.step
        rw [hcut]
        rfl
      rw [hst]
      have hw0 : wt c = 0 := by
        unfold wt
        rw [if_neg (by intro z; subst z; cases hs), if_neg (by intro z; subst z; cases hs)]
      show ((pcs (s.tok ++ [c]) l).foldlM R.take r).bind R.fin = ((l ++ [59]).foldlM LS.step ⟨s.rows, s.dn, s.tok ++ [c], s.ah⟩).bind LS.fin
      refine run_sim l ⟨s.rows, s.dn, s.tok ++ [c], s.ah⟩ r ⟨h.rd, h.yes, h.no⟩ (fun x hx => ?_) hl2 (by show (s.rows.length : Int) + mb l ≤ 999; omega)
      rcases List.mem_append.mp hx with hx | hx
      · exact ht x hx
      · rw [List.mem_singleton.mp hx]
        exact hs
    | true =>
      have hcut : cut c = true := by
        unfold cut
        rw [hs]
        rfl
      have hst : LS.step s c = s.flush.bind fun s => s.act c := by
        unfold LS.step
        rw [hcut]
        rfl
      rw [hst, if_pos rfl]
      have go : ∀ (s : LS) (r : R), Sim s r → s.tok = [] → s.rows.length + max 0 (wt c + mb l) ≤ 999 → (([c] :: pcs [] l).foldlM R.take r).bind R.fin = ((s.act c).bind fun s' => (l ++ [59]).foldlM LS.step s').bind LS.fin := fun s r h htok hb => by
        rw [List.foldlM_cons]
        have hlen : s.rows.length < 1000 := by omega
        rcases act_sim h htok hs hlen with ⟨k1, k2⟩ | ⟨s', r', k1, k2, k3, k4, k5⟩
        · rw [k1, k2]
          rfl
        · rw [k1, k2]
          have := run_sim l s' r' k3 (by rw [k4]; intro x hx; cases hx) hl2 (by omega)
          rw [k4] at this
          exact this
      by_cases hn : s.tok = []
      · rw [if_pos hn]
        unfold LS.flush
        rw [if_pos hn]
        exact go s r h hn hb
      · rw [if_neg hn]
        show ((s.tok :: [c] :: pcs [] l).foldlM R.take r).bind R.fin = _
        rw [List.foldlM_cons]
        rcases flush_sim h ht hn with ⟨k1, k2⟩ | ⟨s', r', k1, k2, k3, k4, k5⟩
        · rw [k1, k2]
          rfl
        · rw [k1, k2]
          exact go s' r' k3 k4 (by omega)
theorem lr_eq {l : Tx} (h1 : ∀ c ∈ l, c ≠ 59) (h2 : mb l ≤ 999) : readT l = lr l :=
  run_sim l LS.zero R.zero ⟨rfl, fun _ => ⟨rfl, rfl⟩, fun z => (by cases z)⟩ (fun c hc => (by cases hc)) h1 (by show ((0 : Nat) : Int) + mb l ≤ 999; omega)
mutual
def okP : PyData → Prop
  | .tuple ds => okPs ds
  | .str s => ∀ c ∈ s.cps.toList, c < 1114112
  | .bool _ => True
  | .int _ => True
  | _ => False
def okPs : List PyData → Prop
  | [] => True
  | d :: ds => okP d ∧ okPs ds
end
mutual
theorem okP_fz : ∀ d : PyData, okP d → Lay.fz d = true
  | .tuple ds, h => by
    simp only [okP] at h
    simp only [Lay.fz]
    exact okPs_fz ds h
  | .str _, _ | .bool _, _ | .int _, _ => by simp only [Lay.fz]
  | .none, h | .list _, h | .dict _, h => by simp only [okP] at h
theorem okPs_fz : ∀ ds : List PyData, okPs ds → Lay.fzAll ds = true
  | [], _ => rfl
  | d :: ds, h => by
    simp only [okPs] at h
    simp only [Lay.fzAll, okP_fz d h.1, okPs_fz ds h.2, Bool.and_self]
end
mutual
theorem okP_lay : ∀ d : PyData, okP d → d.canLay0 = true ∧ d.depth = dep d
  | .tuple ds, h => by
    simp only [okP] at h
    have := okPs_lay ds h
    simp only [PyData.canLay0, PyData.depth, dep]
    exact ⟨this.1, by rw [this.2]⟩
  | .str s, h => by
    simp only [okP] at h
    refine ⟨?_, rfl⟩
    show PyData.strOk s = true
    unfold PyData.strOk
    rw [← Array.all_toList, List.all_eq_true]
    exact fun c hc => decide_eq_true (h c hc)
  | .bool _, _ | .int _, _ => ⟨rfl, rfl⟩
  | .none, h | .list _, h | .dict _, h => by simp only [okP] at h
theorem okPs_lay : ∀ ds : List PyData, okPs ds → PyData.canLayAll0 ds = true ∧ PyData.depthAll ds = depAll ds
  | [], _ => ⟨rfl, rfl⟩
  | d :: ds, h => by
    simp only [okPs] at h
    have h1 := okP_lay d h.1
    have h2 := okPs_lay ds h.2
    simp only [PyData.canLayAll0, PyData.depthAll, depAll]
    exact ⟨by rw [h1.1, h2.1]; rfl, by rw [h1.2, h2.2]⟩
end
theorem okPs_app : ∀ {xs ys : List PyData}, okPs xs → okPs ys → okPs (xs ++ ys)
  | [], _, _, h => h
  | x :: xs, ys, h, k => by
    simp only [okPs, List.cons_append] at h ⊢
    exact ⟨h.1, okPs_app h.2 k⟩
theorem depAll_app : ∀ {xs ys : List PyData}, depAll (xs ++ ys) = max (depAll xs) (depAll ys)
  | [], ys => by simp [depAll]
  | x :: xs, ys => by
    rw [List.cons_append]
    simp only [depAll, depAll_app (xs := xs) (ys := ys)]
    omega
theorem word_small {p : Tx} (h : isWordT p = true) : ∀ c ∈ p, c < 1114112 := by
  unfold isWordT at h
  simp only [Bool.and_eq_true, decide_eq_true_eq, List.all_eq_true, Bool.or_eq_true] at h
  intro c hc
  have := h.2 c hc
  unfold isLet isDig at this
  simp only [decide_eq_true_eq] at this
  omega
theorem atom_okP {p : Tx} {v : PyData} (h : atomT p = some v) : okP v ∧ dep v = 0 := by
  unfold atomT at h
  repeat' split at h
  all_goals first
    | (cases h; exact ⟨trivial, rfl⟩)
    | (cases h; refine ⟨fun c hc => ?_, rfl⟩; first | exact word_small (by assumption) c hc | cases hc)
    | cases h
mutual
theorem wr_okP : ∀ (d : PyData) (l : Tx), wr d = some l → okP d
  | .tuple ds, l, h => by
    simp only [wr] at h
    cases hx : wrj ds with
    | none =>
      rw [hx] at h
      cases h
    | some x =>
      simp only [okP]
      exact wrj_okP ds x hx
  | .str s, l, h => by
    simp only [wr] at h
    simp only [okP]
    split at h
    · rename_i hw
      exact word_small hw
    · split at h
      · rename_i he
        rw [he]
        intro c hc
        cases hc
      · cases h
  | .bool _, _, _ | .int _, _, _ => by simp only [okP]
  | .none, _, h | .list _, _, h | .dict _, _, h => by cases h
theorem wrj_okP : ∀ (ds : List PyData) (l : Tx), wrj ds = some l → okPs ds
  | [], _, _ => by simp only [okPs]
  | d :: ds, l, h => by
    simp only [wrj] at h
    cases ha : wr d with
    | none =>
      rw [ha] at h
      cases h
    | some a =>
      cases hb : wrj ds with
      | none =>
        rw [ha, hb] at h
        cases h
      | some b =>
        simp only [okPs]
        exact ⟨wr_okP d a ha, wrj_okP ds b hb⟩
end
def rowsD (B : Nat) : List (List PyData) → Prop
  | [] => True
  | row :: rest => depAll row + rest.length + 1 ≤ B ∧ okPs row ∧ rowsD B rest
structure LD (B : Nat) (s : LS) (rest : Tx) : Prop where
  rows : rowsD B s.rows
  dn : s.ah = false → ∃ v, s.dn = some v ∧ dep v + s.rows.length ≤ B ∧ okP v
  bal : (s.rows.length : Int) + mb rest ≤ B
theorem LD.flush {B : Nat} {s s' : LS} {rest : Tx} (h : LD B s rest) (e : s.flush = some s') : LD B s' rest ∧ s'.tok = [] ∧ s'.rows = s.rows := by
  unfold LS.flush at e
  split at e
  · rename_i ht
    cases e
    exact ⟨h, ht, rfl⟩
  · cases ha : atomT s.tok with
    | none =>
      rw [ha] at e
      cases e
    | some v =>
      rw [ha] at e
      change (if s.ah = true then _ else none) = _ at e
      split at e
      · cases e
        have := atom_okP ha
        have hm := mb_nonneg rest
        have hb := h.bal
        refine ⟨⟨h.rows, fun _ => ⟨v, rfl, ?_, this.1⟩, h.bal⟩, rfl, rfl⟩
        show dep v + s.rows.length ≤ B
        omega
      · cases e
theorem LD.act {B : Nat} {s s' : LS} {rest : Tx} {c : Nat} (h : LD B s (c :: rest)) (e : s.act c = some s') : LD B s' rest := by
  have hb := h.bal
  simp only [mb] at hb
  have hm := mb_nonneg rest
  unfold LS.act at e
  split at e
  · rename_i hc
    subst hc
    have e1 : wt 91 = 1 := rfl
    rw [e1] at hb
    split at e
    · rename_i ha
      cases e
      refine ⟨⟨?_, by simp only [okPs], h.rows⟩, fun z => ?_, ?_⟩
      · simp only [depAll]
        omega
      · change s.ah = false at z
        rw [ha] at z
        cases z
      · show (((s.rows.length + 1 : Nat)) : Int) + _ ≤ _
        omega
    · cases e
  · split at e
    · rename_i hc
      subst hc
      have e1 : wt 44 = 0 := rfl
      rw [e1] at hb
      split at e
      · rename_i row rest' v ha hr hd
        cases e
        obtain ⟨v', hv, h1, h2⟩ := h.dn ha
        rw [hd] at hv
        cases hv
        have h3 := h.rows
        rw [hr] at h3 h1 hb
        refine ⟨⟨?_, okPs_app h3.2.1 ⟨h2, trivial⟩, h3.2.2⟩, fun z => (by cases z), ?_⟩
        · rw [depAll_app]
          simp only [depAll]
          have := h3.1
          simp only [List.length_cons] at h1
          omega
        · show (((rest'.length + 1 : Nat)) : Int) + _ ≤ _
          simp only [List.length_cons] at hb
          omega
      · cases e
    · split at e
      · rename_i hc
        subst hc
        have e1 : wt 93 = -1 := rfl
        rw [e1] at hb
        split at e
        · cases e
        · rename_i row rest' hr
          split at e
          · cases e
          · cases e
            have h3 := h.rows
            rw [hr] at h3 hb
            simp only [List.length_cons] at hb
            refine ⟨h3.2.2, fun _ => ⟨_, rfl, ?_, ?_⟩, ?_⟩
            · simp only [dep, depAll_app]
              have h4 := h3.1
              cases ha : s.ah with
              | true =>
                simp only [if_true, depAll]
                omega
              | false =>
                obtain ⟨v', hv, h1, h2⟩ := h.dn ha
                rw [hr] at h1
                simp only [List.length_cons] at h1
                simp only [Bool.false_eq_true, if_false, hv, Option.toList, depAll]
                omega
            · simp only [okP]
              refine okPs_app h3.2.1 ?_
              cases ha : s.ah with
              | true => simp only [if_true, okPs]
              | false =>
                obtain ⟨v', hv, h1, h2⟩ := h.dn ha
                simp only [Bool.false_eq_true, if_false, hv, Option.toList, okPs]
                exact ⟨h2, trivial⟩
            · show ((rest'.length : Nat) : Int) + _ ≤ _
              omega
      · cases e
        rename_i h1 h2 h3
        refine ⟨h.rows, h.dn, ?_⟩
        have e1 : wt c = 0 := by
          unfold wt
          rw [if_neg h1, if_neg h3]
        omega
theorem LD.step {B : Nat} {s s' : LS} {rest : Tx} {c : Nat} (h : LD B s (c :: rest)) (e : s.step c = some s') : LD B s' rest := by
  unfold LS.step at e
  split at e
  · cases hf : s.flush with
    | none =>
      rw [hf] at e
      cases e
    | some s2 =>
      rw [hf] at e
      exact LD.act (h.flush hf).1 e
  · rename_i hc
    cases e
    have hb := h.bal
    have hw : wt c = 0 := by
      unfold wt
      rw [if_neg (by intro z; subst z; exact hc rfl), if_neg (by intro z; subst z; exact hc rfl)]
    simp only [mb, hw] at hb
    exact ⟨h.rows, h.dn, by show ((s.rows.length : Nat) : Int) + _ ≤ _; omega⟩
theorem small_lt {s : Str} (h : ∀ c ∈ s.cps.toList, c < 1114112) : (PySem.reprText s).length ≤ 10 * s.length + 2 := PySem.StrLaws.reprText_len s fun c hc => Nat.lt_of_lt_of_le (h c hc) (by decide)
mutual
theorem shown_len : ∀ (d : PyData) (l : Tx), wr d = some l → d.shown.length ≤ 12 * l.length ∧ 1 ≤ l.length
  | .tuple ds, l, h => by
    simp only [wr] at h
    cases hx : wrj ds with
    | none =>
      rw [hx] at h
      cases h
    | some x =>
      rw [hx] at h
      cases h
      have ih := shown_lenj ds x hx
      have h1 := PySem.tupleText_len_le (PyData.shownAll ds)
      refine ⟨?_, by simp⟩
      show (PySem.tupleText (PyData.shownAll ds)).length ≤ 12 * (91 :: (x ++ [93])).length
      simp only [List.length_cons, List.length_append, List.length_nil]
      omega
  | .str s, l, h => by
    have hp := wr_okP (.str s) l h
    simp only [okP] at hp
    have h2 := small_lt hp
    simp only [wr] at h
    have hl : s.cps.toList.length = s.length := Array.length_toList
    split at h
    · rename_i hw
      cases h
      unfold isWordT at hw
      simp only [Bool.and_eq_true, decide_eq_true_eq] at hw
      show (PySem.reprText s).length ≤ _ ∧ _
      omega
    · split at h
      · rename_i he
        cases h
        rw [he] at hl
        show (PySem.reprText s).length ≤ 12 * 1 ∧ 1 ≤ 1
        simp at hl
        omega
      · cases h
  | .bool b, l, h => by
    simp only [wr] at h
    cases h
    cases b <;> exact ⟨by decide, by decide⟩
  | .int i, l, h => by
    simp only [wr] at h
    cases h
    have e : (digs i).length = (PyData.shown (.int i)).length := Array.length_toList
    have hne := (digs_sep i).1
    have : 1 ≤ (digs i).length := by
      cases hd : digs i with
      | nil => exact absurd hd hne
      | cons a b => simp
    omega
  | .none, _, h | .list _, _, h | .dict _, _, h => by cases h
theorem shown_lenj : ∀ (ds : List PyData) (l : Tx), wrj ds = some l → ((PyData.shownAll ds).map (·.length)).sum + 2 * (PyData.shownAll ds).length ≤ 12 * l.length + 12
  | [], l, h => by
    simp [PyData.shownAll]
  | d :: ds, l, h => by
    simp only [wrj] at h
    cases ha : wr d with
    | none =>
      rw [ha] at h
      cases h
    | some a =>
      cases hb : wrj ds with
      | none =>
        rw [ha, hb] at h
        cases h
      | some b =>
        rw [ha, hb] at h
        have i1 := shown_len d a ha
        have i2 := shown_lenj ds b hb
        simp only [PyData.shownAll, List.map_cons, List.sum_cons, List.length_cons]
        cases ds with
        | nil =>
          simp at h
          subst h
          simp only [PyData.shownAll, List.map_nil, List.sum_nil, List.length_nil] at *
          omega
        | cons d2 ds =>
          simp at h
          subst h
          simp only [List.length_append, List.length_cons]
          omega
end
mutual
theorem okP_show {M : Nat} (hM : M ≤ 570) : ∀ d : PyData, okP d → intsB M d → d.showable = true ∧ d.hasDict = false
  | .tuple ds, h, k => by
    simp only [okP] at h
    simp only [intsB] at k
    simp only [PyData.showable, PyData.hasDict]
    exact okPs_show hM ds h k
  | .str _, _, _ | .bool _, _, _ => ⟨rfl, rfl⟩
  | .int i, _, k => by
    simp only [intsB] at k
    refine ⟨?_, rfl⟩
    show decide (i.natAbs.log2 < 1920) = true
    refine decide_eq_true ?_
    by_cases h0 : i.natAbs = 0
    · rw [h0]
      decide
    · refine (Nat.log2_lt h0).mpr (Nat.lt_of_lt_of_le k ?_)
      refine Nat.le_trans (Nat.pow_le_pow_right (by decide) hM) ?_
      decide +kernel
  | .none, h, _ | .list _, h, _ | .dict _, h, _ => by simp only [okP] at h
theorem okPs_show {M : Nat} (hM : M ≤ 570) : ∀ ds : List PyData, okPs ds → intsBs M ds → PyData.showableAll ds = true ∧ PyData.hasDictAll ds = false
  | [], _, _ => ⟨rfl, rfl⟩
  | d :: ds, h, k => by
    simp only [okPs] at h
    simp only [intsBs] at k
    have h1 := okP_show hM d h.1 k.1
    have h2 := okPs_show hM ds h.2 k.2
    simp only [PyData.showableAll, PyData.hasDictAll, h1.1, h1.2, h2.1, h2.2]
    exact ⟨rfl, rfl⟩
end
end DataM

set_option exponentiation.threshold 256
set_option Elab.async false
set_option linter.all false
set_option maxRecDepth 100000
set_option maxHeartbeats 4000000
namespace Lay
open PySem PySem.Spec PyProof.Rows L2
structure Zm (c : Bool) (k : Value) (t : Option Addr) (o : Obj) : Prop where
  cls : o.cls = k
  arg : ∀ p, t = some p → ∀ vs, o.data = .fields vs → vs[0]? = some (.ref p)
  ctx : c = true → PXN.CtxN o
section
variable {c : Bool} {k : Value} {t : Option Addr}
theorem Zm.still : PXN.Steady1 (Zm c k t) := fun o v z => by
  refine ⟨PXN.steady_cls o v z.cls, fun p e vs hvs => ?_, fun hc => PXN.steady_ctx o v (z.ctx hc)⟩
  obtain ⟨oc, od, dt, sl⟩ := o
  cases dt with
  | fields ws =>
    have e2 : ws.setIfInBounds 1 v = vs := Data.fields.inj hvs
    have e3 : (ws.setIfInBounds 1 v)[0]? = ws[0]? := by simp [Array.getElem?_setIfInBounds]
    rw [← e2, e3]
    exact z.arg p e ws rfl
  | _ => first | exact Data.noConfusion hvs | cases hvs
theorem Zm.weak {o : Obj} (z : Zm c k t o) : Zm false k t o := ⟨z.cls, z.arg, fun h => nomatch h⟩
end
structure UpAt (c : Bool) (X : Cx) (a : Addr) (B : Heap) (sI : Shared) (pins : List (Addr × Obj)) (σ : L2.St) (H : Hp) (k : Value) (t : Option Addr) (s' : Shared) : Prop where
  inv : Inv X pins σ H sI
  gnd : ∀ b o, sI.heap.get? b = some o → b ∉ frs X.stack → B.get? b = some o
  ups : sI.heap.UpToSlots s'.heap
  sky : Sky B X.stack a (Zm c k t) X.env.locals s'.heap
  na : H a = none
  os : s'.os = sI.os
  ag : AllBare s'.gens
def UpX (c : Bool) (X : Cx) (W : WX) (u : Value) (s' : Shared) : Prop := ∃ a B sI pins σ H k t, u = .ref a ∧ UpAt c X a B sI pins σ H k t s' ∧ W k t σ H
def Tk (c : Bool) (X : Cx) (W : WX) : Prop := ∀ u s', UpX c X W u s' → X.xe u s'
theorem Sky.turn {B : Heap} {l : List Env} {a L : Addr} {Z Z' : Obj → Prop} {h : Heap} (x : Sky B l a Z L h) (z : ∀ o, h.get? a = some o → Z' o) : Sky B l a Z' L h := by
  rcases x with ⟨q1, q2, q3, o, vs, he, _, hd, hv⟩ | ⟨q1, q2, q3, o, vs, T, oT, ts, he, _, r⟩ | ⟨q1, q2, q3, o, vs, T, oT, ts, he, _, r⟩
  · exact .inl ⟨q1, q2, q3, o, vs, he, z o he, hd, hv⟩
  · exact .inr (.inl ⟨q1, q2, q3, o, vs, T, oT, ts, he, z o he, r⟩)
  · exact .inr (.inr ⟨q1, q2, q3, o, vs, T, oT, ts, he, z o he, r⟩)
theorem Sky.obj {B : Heap} {l : List Env} {a L : Addr} {Z : Obj → Prop} {h : Heap} (x : Sky B l a Z L h) : ∃ o, h.get? a = some o ∧ Z o := by
  rcases x with ⟨_, _, _, o, vs, he, z, _⟩ | ⟨_, _, _, o, vs, T, oT, ts, he, z, _⟩ | ⟨_, _, _, o, vs, T, oT, ts, he, z, _⟩ <;> exact ⟨o, he, z⟩
theorem Fly.turn {B : Heap} {l : List Env} {a : Addr} {Z Z' : Obj → Prop} {h : Heap} (x : HandSPX.FlyingZ B l a Z h) (z : ∀ o, Z o → Z' o) : HandSPX.FlyingZ B l a Z' h := by
  obtain ⟨q1, q2, q3, o, vs, T, oT, ts, he, hz, r⟩ := x
  exact ⟨q1, q2, q3, o, vs, T, oT, ts, he, z o hz, r⟩
theorem UpX.weak {c : Bool} {X : Cx} {W : WX} {u : Value} {s' : Shared} (x : UpX c X W u s') : UpX false X W u s' := by
  obtain ⟨a, B, sI, pins, σ, H, k, t, e, q, w⟩ := x
  obtain ⟨o, he, hz⟩ := Sky.obj q.sky
  exact ⟨a, B, sI, pins, σ, H, k, t, e, ⟨q.inv, q.gnd, q.ups, Sky.turn q.sky (fun o' he' => by rw [he] at he'; cases he'; exact hz.weak), q.na, q.os, q.ag⟩, w⟩
theorem Tk.strong {c : Bool} {X : Cx} {W : WX} (tk : Tk false X W) : Tk c X W := fun u s' x => tk u s' x.weak
def CXm (c : Bool) (P : Program) (w : World) (outer : List Env) (H : Hp) (s : Shared) (E : XK) (u : Value) (s' : Shared) : Prop :=
  ∃ a B H' k t, u = .ref a ∧ HandSPX.FlyingZ B outer a (Zm c k t) s'.heap ∧ HOk P w H' B ∧ UB (frs outer) H H' s.heap B s'.heap ∧ H' a = none ∧ s'.os = s.os ∧ AllBare s'.gens ∧ E k t H'
section
variable {c : Bool} {X : Cx} {pins : List (Addr × Obj)} {σ : L2.St} {H : Hp} {sI s s' : Shared} {B : Heap} {W : WX} {E : XK}
theorem UpX.ofCall (I : Inv X pins σ H s) (hW : ∀ k t H', E k t H' → W k t σ H') {u : Value} (x : CXm c X.prog X.w X.stack H s E u s') : UpX c X W u s' := by
  obtain ⟨a, G, Hn, k, t, rfl, fl, hk, ub, nn, eo, eb, hE⟩ := x
  obtain ⟨o, vs, he, hz, hd⟩ := fl.there
  have fl2 : HandSPX.FlyingZ G X.stack a (Zc k o.dict) s'.heap := by
    obtain ⟨q1, q2, q3, o2, vs2, T, oT, ts, he2, hz2, r⟩ := fl
    rw [he] at he2
    cases he2
    exact ⟨q1, q2, q3, o, vs2, T, oT, ts, he, ⟨hz.cls, rfl⟩, r⟩
  have y : L2.XE X (fun k2 _ σ2 H2 => k2 = k ∧ W k t σ2 H2) (.ref a) s' :=
    L2.XE.of_call I (E := fun k2 _ H2 => k2 = k ∧ W k t σ H2) (fun _ _ _ z => z) ⟨a, G, Hn, k, o.dict, rfl, fl2, hk, ub, nn, eo, eb, rfl, hW _ _ _ hE⟩
  obtain ⟨a2, B2, s2, pins2, σ2, H2, k2, d2, e2, I2, g2, u2, sk2, n2, o2, b2, rfl, w2⟩ := y
  cases e2
  exact ⟨a, B2, s2, pins2, σ2, H2, k2, t, rfl, ⟨I2, g2, u2, Sky.turn sk2 (fun o' he' => by rw [he] at he'; cases he'; exact hz), n2, o2, b2⟩, w2⟩
theorem UpX.fresh {a : Addr} {oe : Obj} {vs : Array Value} {k : Value} {t : Option Addr} (I : Inv X pins σ H sI) (kp : ∀ b o, sI.heap.get? b = some o → s'.heap.get? b = some o) (nw : sI.heap.get? a = none) (he : s'.heap.get? a = some oe)
    (hz : Zm c k t oe) (hd : oe.data = .fields vs) (hv : vs[1]? = some .none) (na : H a = none) (eo : s'.os = sI.os) (eb : AllBare s'.gens) (w : W k t σ H) : UpX c X W (.ref a) s' := by
  have y : L2.XE X (fun k2 _ σ2 H2 => k2 = k ∧ W k t σ2 H2) (.ref a) s' := L2.XE.new I kp nw he (d := oe.dict) ⟨hz.cls, rfl⟩ hd hv na eo eb ⟨rfl, w⟩
  obtain ⟨a2, B2, s2, pins2, σ2, H2, k2, d2, e2, I2, g2, u2, sk2, n2, o2, b2, rfl, w2⟩ := y
  cases e2
  exact ⟨a, B2, s2, pins2, σ2, H2, k2, t, rfl, ⟨I2, g2, u2, Sky.turn sk2 (fun o' he' => by rw [he] at he'; cases he'; exact hz), n2, o2, b2⟩, w2⟩
theorem UpX.goes (hs : X.stack = X.env :: X.outer) (hf : X.env.frame = some X.env.locals) (hex : X.ex = []) {E0 : Value → Shared → Prop} (hW : ∀ k t σ H, W k t σ H → E k t H) {u : Value} (x : UpX c X W u s') :
    wpAny (model X.prog X.w) X.A (leaving X.env u) (fun _ s2 => CXm c X.prog X.w X.outer X.H_0 X.s_0 E u s2) E0 s' := by
  obtain ⟨a, G, sJ, pj, τ, Hj, k, t, rfl, q, w⟩ := x
  have I := q.inv
  have frm : X.A.frames = some (X.env :: X.outer) := by rw [I.ok.frames, hs]
  have off : ∀ b o, X.s_0.heap.get? b = some o → b ∉ X.fs → b ∉ frs X.stack := fun b o e n hm => by
    rcases List.mem_cons.mp (I.stkSub b hm) with z | z
    · have l1 := Heap.lt_size e
      have l2 := I.ok.above
      rw [z] at l1
      exact absurd (Nat.lt_of_lt_of_le l1 l2) (Nat.lt_irrefl _)
    · exact n z
  have nex : ∀ b, b ∉ X.ex := fun b => by rw [hex]; exact List.not_mem_nil
  have out : ∀ hh, HandSPX.FlyingZ G X.outer a (Zm c k t) hh → s'.heap.UpToSlots hh → CXm c X.prog X.w X.outer X.H_0 X.s_0 E (.ref a) { s' with heap := hh } := fun hh fl up2 => by
    refine ⟨a, G, Hj, k, t, rfl, fl, I.inGround q.gnd, ⟨fun b o e n hb => q.gnd b o (I.base.keep b o e n hb (nex b)) (off b o e hb), fun b o e hb => ?_, fun b o e n => I.base.free b o e n (nex b), fun b o e hb => ?_, I.base.tups, I.base.frzs, I.base.tbls⟩, q.na, q.os.trans I.os, q.ag, hW _ _ _ _ w⟩
    · obtain ⟨_, o0, e0, nf⟩ := I.ok.funs.mem hb
      rw [e] at e0
      cases e0
      obtain ⟨sl1, z1⟩ := I.base.slot b o e (I.ok.frf b hb) hb (nex b)
      obtain ⟨sl2, z2⟩ := q.ups b _ z1 nf
      obtain ⟨sl3, z3⟩ := up2 b _ z2 nf
      exact ⟨sl3, z3⟩
    · obtain ⟨o1, z1⟩ := I.base.there b o e (nex b)
      exact ⟨o1, q.gnd b o1 z1 (off b o e hb)⟩
  have sky := q.sky
  rw [hs] at sky
  rcases sky with ⟨y1, y2, y3, oe, vs, he, hz, hd, hv⟩ | fl | hd
  · exact PXN.leaving_firstZ Zm.still frm y3 hf he y1 y2 hd hv hz out
  · exact PXN.leaves_onZ Zm.still frm hf fl out
  · exact HandSPX.leaves_heldZ hf hd out
theorem tk_of (hs : X.stack = X.env :: X.outer) (hf : X.env.frame = some X.env.locals) (hex : X.ex = []) {E0 : Value → Shared → Prop}
    (hx : X.xe = fun e s' => wpAny (model X.prog X.w) X.A (leaving X.env e) (fun _ s2 => CXm c X.prog X.w X.outer X.H_0 X.s_0 E e s2) E0 s') : Tk c X (fun k t _ H => E k t H) := fun u s' x => by
  rw [hx]
  exact UpX.goes (W := fun k t _ H => E k t H) (E := E) hs hf hex (fun _ _ _ _ z => z) x
theorem passM {c' : Bool} (tk : Tk c X W) (hc : c' = c ∨ c = false) (hW : ∀ k t σ H, E k t H → W k t σ H) : Passes (CXm c' X.prog X.w) X E := fun _ σ _ _ e s' I x => by
  rcases hc with rfl | rfl
  · exact tk e s' (UpX.ofCall I (fun k t H' h => hW k t σ H' h) x)
  · exact tk e s' (UpX.weak (UpX.ofCall I (fun k t H' h => hW k t σ H' h) x))
theorem passMAt {c' : Bool} (tk : Tk c X W) (hc : c' = c ∨ c = false) (σ : L2.St) : PassesAt (CXm c' X.prog X.w) X σ (fun k t H => W k t σ H) := fun _ _ _ e s' I x => by
  rcases hc with rfl | rfl
  · exact tk e s' (UpX.ofCall I (fun _ _ _ h => h) x)
  · exact tk e s' (UpX.weak (UpX.ofCall I (fun _ _ _ h => h) x))
end
def MkMP (X : Cx) (pins : List (Addr × Obj)) (σ : L2.St) (Q : XK) (u : Value) (s' : Shared) : Prop :=
  ∃ a oe vs sI H' k t, u = .ref a ∧ Inv X pins σ H' sI ∧ (∀ b o, sI.heap.get? b = some o → s'.heap.get? b = some o) ∧ sI.heap.get? a = none ∧ s'.heap.get? a = some oe ∧ oe.cls = k ∧ oe.data = .fields vs ∧ (∀ p, t = some p → vs[0]? = some (.ref p)) ∧ vs[1]? = some .none ∧ vs[2]? = some .none ∧ 4 < vs.size ∧
    H' a = none ∧ s'.os = sI.os ∧ AllBare s'.gens ∧ Raises X k ∧ Q k t H'
def MkM (X : Cx) (e : Expr) (r : L2.St → Hp → XK → Prop) : Prop :=
  ∀ (pins : List (Addr × Obj)) (s : Shared) (σ : L2.St) (H : Hp) (Q : XK), Inv X pins σ H s → r σ H Q → wpAny (model X.prog X.w) X.A (eval e X.env) (MkMP X pins σ Q) X.xe s
theorem zm_of {oe : Obj} {vs : Array Value} {k : Value} {t : Option Addr} {c : Bool} (hk : oe.cls = k) (hd : oe.data = .fields vs) (h0 : ∀ p, t = some p → vs[0]? = some (.ref p)) (h2 : c = true → vs[2]? = some .none) : Zm c k t oe :=
  ⟨hk, fun p e ws hw => by rw [hd] at hw; cases hw; exact h0 p e, fun hc ws hw => by rw [hd] at hw; cases hw; exact h2 hc⟩
theorem ps_raiseM {c : Bool} {X : Cx} {W : WX} {e : Expr} {r : L2.St → Hp → XK → Prop} {pos : Pos} (hc : X.calm = true) (tk : Tk c X W) (he : MkM X e r) : PS X (.Raise (some e) none pos) (fun _ σ H => r σ H fun k t H' => W k t σ H') := by
  refine ⟨fun pins s σ H D I h => ?_⟩
  show wpAny _ _ (do standAt pos; raiseStmt X.env (some (do let v ← eval e X.env; standAt pos; pure v)) none) _ _ _
  refine wpAny_bind (wpAny_standAt (raise_made (I.ok.hd hc) (wpAny_bind (wpAny_mono (he pins s σ H _ I h) (fun u sx hu => wpAny_bind (wpAny_standAt (wpAny_pure ?_))) fun _ _ z => z))))
  obtain ⟨a, oe, vs, sJ, Hj, k, t, rfl, J, kp, nw, ha, hk, hd, v0, v1, v2, v4, na, eo, eb, rs, q⟩ := hu
  obtain ⟨y1, y2⟩ := rs (model X.prog X.w) sx.heap (J.kIn.keeps kp)
  exact ⟨a, oe, vs, k, rfl, ha, hk, hd, v1, y1, y2, tk _ _ (UpX.fresh J kp nw ha (zm_of hk hd v0 fun _ => v2) hd v1 na eo eb q)⟩
theorem ps_raiseMN {X : Cx} {W : WX} {e : Expr} {r : L2.St → Hp → XK → Prop} {j : Nat} {cpos pos : Pos} (hc : L2H.HotC X) (tk : Tk false X W) (he : MkM X e r) :
    PS X (.Raise (some e) (some (.Constant .none j cpos)) pos) (fun _ σ H => r σ H fun k t H' => W k t σ H') := by
  refine ⟨fun pins s σ H D I h => ?_⟩
  obtain ⟨p, ⟨hh, v1, e1, c1⟩, hp⟩ := hc
  show wpAny _ _ (do standAt pos; raiseStmt X.env (some (do let v ← eval e X.env; standAt pos; pure v)) (some (do let v ← eval (.Constant .none j cpos) X.env; standAt pos; pure v))) _ _ _
  refine wpAny_bind (wpAny_standAt (HotX.raise_made_hotN (x1 := p.1) (fun sy Qy qy => wpAny_bind (Constant_none (wpAny_bind (wpAny_standAt (wpAny_pure qy))))) (wpAny_bind (wpAny_mono (he pins s σ H _ I h) (fun u sx hu => wpAny_bind (wpAny_standAt (wpAny_pure ?_))) fun _ _ z => z))))
  obtain ⟨a, oe, vs, sJ, Hj, k, t, rfl, J, kp, nw, ha, hk, hd, v0, w1, w2, w4, na, eo, eb, rs, q⟩ := hu
  have nab : ∀ {b u}, sJ.heap.get? b = some u → a ≠ b := fun {b u} z y => by
    rw [← y, nw] at z
    cases z
  have kp4 : ∀ b u, sJ.heap.get? b = some u → (HotX.noneFrom sx.heap a).get? b = some u := fun b u z => by
    rw [HotX.noneFrom_other (nab z)]
    exact kp b u z
  obtain ⟨y1, _⟩ := rs (model X.prog X.w) sx.heap (J.kIn.keeps kp)
  obtain ⟨_, y2⟩ := rs (model X.prog X.w) (HotX.noneFrom sx.heap a) (J.kIn.keeps kp4)
  have P1 := (J.pin p (List.mem_append_left _ hp)).1
  obtain ⟨ha4, hd4⟩ := HotX.noneFrom_at ha hd
  have hd2 := Obj.data_mapFields hd4 (·.setIfInBounds 2 (.ref p.1))
  refine ⟨a, oe, vs, k, rfl, ha, hk, hd, w1, w4, (nab P1).symm, ⟨hh, p.2, v1, kp _ _ P1, e1, c1⟩, y1, y2, tk _ _ (UpX.fresh J (fun b u z => ?_) nw (Heap.get?_update_self _ ha4 (Obj.isFreed_of_fields hd2))
    (zm_of (by rw [Obj.cls_mapFields, Obj.cls_mapFields, Obj.cls_mapFields]; exact hk) hd2 (fun p0 e0 => HotX.set_other (by decide) (HotX.set_other (by decide) (HotX.set_other (by decide) (v0 p0 e0)))) (fun z => nomatch z)) hd2
    (HotX.set_other (by decide) (HotX.set_other (by decide) (HotX.set_other (by decide) w1))) na eo eb q)⟩
  show ((HotX.noneFrom sx.heap a).update a (Obj.mapFields (·.setIfInBounds 2 (.ref p.1)))).get? b = some u
  rw [Heap.get?_update_other _ _ (nab z)]
  exact kp4 b u z
end Lay

set_option exponentiation.threshold 256
set_option Elab.async false
set_option linter.all false
set_option maxRecDepth 100000
set_option maxHeartbeats 4000000
namespace Lay
open PySem PySem.Spec PyProof.Rows L2
section
variable {X : Cx} {pins : List (Addr × Obj)} {σ : L2.St} {H : Hp} {s : Shared} {G : Heap} {T : Addr} {vs : List V} {its : List Value} {t' : Nat}
theorem Inv.tupAt (I : Inv X pins σ H s) (kp : ∀ b u, s.heap.get? b = some u → G.get? b = some u) (nw : s.heap.get? T = none) (hg : G.get? T = some { cls := .type "tuple", data := .seq its.toArray }) (hv : Vals vs its) (hl : vs.length ≤ sizeLine) :
    Inv X pins σ (upd H T (.tup vs)) { s with heap := G, toks := t' } := by
  have hn : H T = none := I.hok.gone nw
  have off : ∀ {b u}, H b = some u → b ≠ T := fun {b u} q => ne_of_none q hn
  refine I.un ⟨fun b u q _ _ _ => kp b u q, fun b u q _ _ _ => ⟨u.slots, kp b u q⟩, fun b u q n _ => ?_, fun b u q _ => ⟨u, kp b u q⟩, fun b xs q => ?_, fun b u xs q => ?_, fun b ps q => ⟨#[], ?_⟩⟩ fun b o q => ?_
  · rw [upd_ne (fun z => by rw [z, nw] at q; cases q)]
    exact n
  · rw [upd_ne (off q)]
    exact q
  · rw [upd_ne (off q)]
    exact q
  · rw [upd_ne (off q), q]
    simp
  · by_cases hb : b = T
    · subst hb
      rw [upd_same] at q
      cases q
      exact ⟨hl, its, hv, ⟨_, hg, rfl, _, rfl⟩⟩
    · rw [upd_ne hb] at q
      refine (I.hok b o q).stay (fun z v _ r => kp z v r) (fun z r => ?_) fun z xs r => ?_
      · rw [upd_ne (off r)]
        exact r
      · rw [upd_ne (off r)]
        exact r
end
section
variable {X : Cx} {C : Addr} {bmB : List Value} {B newId initId : String}
def rMk (C : Addr) (te : TE) : L2.St → Hp → XK → Prop := fun σ H Q => te σ H fun v H1 => ∃ m : Str, v = .str m ∧ ∀ p H2, H1 p = none → Same H1 H2 → H2 p = some (.tup [.str m]) → Q (.ref C) (some p) H2
theorem mk_txt {x : Str} {e : Expr} {te : TE} {p pos : Pos} (F : ExcBaseFacts B newId initId bmB) (q : PySem.W.excIn X.K C bmB newId = true) (gC : X.mg x = some (.ref C)) (kC : PySem.W.keepIn X.K (.ref C) = true) (r : Raises X (.ref C)) (he : PE X e te) (hg : Gl X x)
    (hdb : (x == ("__debug__" : Str)) = false := by decide) (hst : starEach [e] X.env = [(false, eval e X.env)] := by rfl) (hpl : (backTo pos (starEach ([] : List Expr) X.env)).any (·.1) = false := by rfl) : MkM X (.Call (.Name x p) [e] [] pos) (rMk C te) := by
  intro pins s σ H Q I h
  refine wpAny_Call_Name_kw (ld_glob I hg gC ?_ hdb)
  have ha : PA X [e] (tCons te tNil) := pa_cons he pa_nil (by rw [hst] <;> rfl)
  refine PySem.W.callWith_K (h₀ := X.base) I.ok.mod.kin kC (thn (ha.run pos pins s σ H (fun vs H1 => ∃ m : Str, vs = [V.str m] ∧ ∀ p H2, H1 p = none → Same H1 H2 → H2 p = some (.tup [.str m]) → Q (.ref C) (some p) H2) I ?_) fun us s1 hh => ?_) (by rw [hst] <;> rfl) hpl
  · have e1 : (fun v H1 => ∃ m : Str, [v] = [V.str m] ∧ ∀ p H2, H1 p = none → Same H1 H2 → H2 p = some (.tup [.str m]) → Q (.ref C) (some p) H2) = (fun (v : V) (H1 : Hp) => ∃ m : Str, v = V.str m ∧ ∀ p H2, H1 p = none → Same H1 H2 → H2 p = some (.tup [.str m]) → Q (.ref C) (some p) H2) := by
      funext v H1
      simp
    show te σ H (fun v H1 => ∃ m : Str, [v] = [V.str m] ∧ ∀ p H2, H1 p = none → Same H1 H2 → H2 p = some (.tup [.str m]) → Q (.ref C) (some p) H2)
    rw [e1]
    exact h
  · obtain ⟨vs, H1, I1, r1, m, rfl, hQ⟩ := hh
    obtain ⟨u, rfl, ru⟩ := vals1 r1
    refine ⟨I1.kIn, ?_⟩
    show wpAny _ _ (call (.ref C) [u]) _ _ _
    obtain ⟨bm, N, nm, qn, bs, hdct, sn, sub, ab, col, dd, k0, k1, k2, k3, k5, mN, hC, hN, hni, T⟩ := exc_obj I1.kIn q
    refine wpAny_call_exc_subT F T hC hN hni (fun h' a hm => ?_) (by show 1 ≤ sizeLine; rw [sizeLine_eq]; omega)
    obtain ⟨t, ga, nt, gt⟩ := hm.there
    have nat : t ≠ a := fun z => by
      rw [z, ga] at gt
      cases gt
    obtain ⟨G, g1, g2⟩ := restrict h' fun b => decide (b ≠ a)
    have kp : ∀ b o, s1.heap.get? b = some o → G.get? b = some o := fun b o z => by
      rw [g1 b (decide_eq_true fun y => by rw [y, hm.new] at z; cases z)]
      exact hm.keeps b o z
    have J : Inv X pins σ (upd H1 t (.tup [.str m])) { s1 with heap := G } := Inv.tupAt (t' := s1.toks) I1 kp nt (by rw [g1 t (decide_eq_true nat)]; exact gt) (.cons ru .nil) (by show 1 ≤ sizeLine; rw [sizeLine_eq]; omega)
    have n1 : H1 t = none := I1.hok.gone nt
    refine ⟨a, _, _, { s1 with heap := G }, _, .ref C, some t, rfl, J, fun b o z => ?_, g2 a (decide_eq_false fun z => z rfl), ga, rfl, rfl, fun p e => by cases e; rfl, rfl, rfl, by show 4 < 6; decide, ?_, rfl, I1.bare, r, hQ t _ n1 (same_upd n1) upd_same⟩
    · by_cases hb : b = a
      · have zz : G.get? b = some o := z
        rw [g2 b (decide_eq_false fun y => y hb)] at zz
        cases zz
      · have zz : G.get? b = some o := z
        rw [g1 b (decide_eq_true hb)] at zz
        exact zz
    · rw [upd_ne (Ne.symm nat)]
      exact I1.hok.gone hm.new
theorem mk_unt {x : Str} {e : Expr} {te : TE} {p pos : Pos} (F : ExcBaseFacts B newId initId bmB) (q : PySem.W.excIn X.K C bmB newId = true) (gC : X.mg x = some (.ref C)) (kC : PySem.W.keepIn X.K (.ref C) = true) (r : Raises X (.ref C)) (he : PE X e te) (hg : Gl X x)
    (hdb : (x == ("__debug__" : Str)) = false := by decide) (hst : starEach [e] X.env = [(false, eval e X.env)] := by rfl) (hpl : (backTo pos (starEach ([] : List Expr) X.env)).any (·.1) = false := by rfl) : MkM X (.Call (.Name x p) [e] [] pos) (fun σ H Q => te σ H fun _ H1 => Q (.ref C) none H1) := by
  intro pins s σ H Q I h
  refine wpAny_Call_Name_kw (ld_glob I hg gC ?_ hdb)
  have ha : PA X [e] (tCons te tNil) := pa_cons he pa_nil (by rw [hst] <;> rfl)
  refine PySem.W.callWith_K (h₀ := X.base) I.ok.mod.kin kC (thn (ha.run pos pins s σ H (fun vs H1 => (∃ v, vs = [v]) ∧ Q (.ref C) none H1) I ?_) fun us s1 hh => ?_) (by rw [hst] <;> rfl) hpl
  · show te σ H (fun v H1 => (∃ v2, [v] = [v2]) ∧ Q (.ref C) none H1)
    have e1 : (fun (v : V) (H1 : Hp) => (∃ v2, [v] = [v2]) ∧ Q (.ref C) none H1) = (fun (v : V) (H1 : Hp) => Q (.ref C) none H1) := by
      funext v H1
      simp
    rw [e1]
    exact h
  · obtain ⟨vs, H1, I1, r1, ⟨v, rfl⟩, hQ⟩ := hh
    obtain ⟨u, rfl, ru⟩ := vals1 r1
    refine ⟨I1.kIn, ?_⟩
    show wpAny _ _ (call (.ref C) [u]) _ _ _
    obtain ⟨bm, N, nm, qn, bs, hdct, sn, sub, ab, col, dd, k0, k1, k2, k3, k5, mN, hC, hN, hni, T⟩ := exc_obj I1.kIn q
    refine wpAny_call_exc_subT F T hC hN hni (fun h' a hm => ?_) (by show 1 ≤ sizeLine; rw [sizeLine_eq]; omega)
    obtain ⟨t, ga, nt, gt⟩ := hm.there
    exact ⟨a, _, _, s1, _, .ref C, none, rfl, I1, hm.keeps, hm.new, ga, rfl, rfl, (fun p e => nomatch e), rfl, rfl, by show 4 < 6; decide, I1.hok.gone hm.new, rfl, I1.bare, r, hQ⟩
theorem mk_cst {x m : Str} {j : Nat} {p p2 pos : Pos} (F : ExcBaseFacts B newId initId bmB) (q : PySem.W.excIn X.K C bmB newId = true) (gC : X.mg x = some (.ref C)) (kC : PySem.W.keepIn X.K (.ref C) = true) (r : Raises X (.ref C)) (hg : Gl X x)
    (hdb : (x == ("__debug__" : Str)) = false := by decide) : MkM X (.Call (.Name x p) [.Constant (.str m) j p2] [] pos) (fun _ H Q => Q (.ref C) none H) := mk_unt F q gC kC r pe_str hg hdb
end
section
variable {c : Bool} {X : Cx} {pins : List (Addr × Obj)}
structure Dn (c : Bool) (X : Cx) (pins : List (Addr × Obj)) (σ : L2.St) (H : Hp) (k : Value) (t : Option Addr) (a : Addr) (B : Heap) (sI s : Shared) : Prop where
  inv : Inv X pins σ H sI
  gnd : ∀ b o, sI.heap.get? b = some o → b ∉ frs X.stack → B.get? b = some o
  ups : sI.heap.UpToSlots s.heap
  fly : HandSPX.FlyingZ B (X.env :: X.outer) a (Zm c k t) s.heap
  na : H a = none
  os : s.os = sI.os
  ag : AllBare s.gens
variable {σ : L2.St} {H : Hp} {k : Value} {t : Option Addr} {a : Addr} {B : Heap} {sI s : Shared}
theorem Dn.now (d : Dn c X pins σ H k t a B sI s) : Inv X pins σ H s := d.inv.landed d.gnd d.fly.1 d.ups d.os d.ag
theorem Dn.suite (d : Dn c X pins σ H k t a B sI s) (hf : X.env.frame = some X.env.locals) : ∃ oe vs, s.heap.get? a = some oe ∧ Zm c k t oe ∧ oe.data = .fields vs ∧ Inv (X.suite a ((a, oe) :: (X.pn ++ pins))) [] σ H s := by
  obtain ⟨oe, vs, he, hz, hd⟩ := d.fly.there
  have off : a ∉ frs (X.env :: X.outer) := fun hm => by
    obtain ⟨_, o2, e2, nf⟩ := d.fly.2.2.1.mem hm
    rw [he] at e2
    cases e2
    exact nf _ hd
  refine ⟨oe, vs, he, hz, hd, d.now.suite he hd d.na (fun z => off ?_) fun hm => off ?_⟩
  · exact List.mem_filterMap.mpr ⟨X.env, List.mem_cons_self, by rw [hf, z]⟩
  · obtain ⟨e, me, qe⟩ := List.mem_filterMap.mp hm
    exact List.mem_filterMap.mpr ⟨e, List.mem_cons_of_mem _ me, qe⟩
theorem Dn.again {E0 : Value → Shared → Prop} {Q : Unit → Shared → Prop} {A : Around} (d : Dn c X pins σ H k t a B sI s) (hq : ∀ h, Dn c X pins σ H k t a B sI { s with heap := h } → Q () { s with heap := h }) : wpAny (model X.prog X.w) A (setFlight (.ref a) none) Q E0 s :=
  HandSPX.lands_againZ d.fly fun h fl up => hq h ⟨d.inv, d.gnd, d.ups.trans up, fl, d.na, d.os, d.ag⟩
theorem UpAt.down {xe : Value → Shared → Prop} {E0 : Value → Shared → Prop} {Q : Unit → Shared → Prop} {pj : List (Addr × Obj)} (hs : X.stack = X.env :: X.outer) (hf : X.env.frame = some X.env.locals) (ok : X.Ok) (u : UpAt c (X.tr (X.pn ++ pins) xe) a B sI pj σ H k t s)
    (hq : ∀ h, Dn c X pins σ H k t a B sI { s with heap := h } → Q () { s with heap := h }) : wpAny (model X.prog X.w) X.A (noteFrame (.ref a) X.env) (fun _ s2 => wpAny (model X.prog X.w) X.A (setFlight (.ref a) none) Q E0 s2) E0 s := by
  have frm : X.A.frames = some (X.env :: X.outer) := by rw [ok.frames, hs]
  have sky : Sky B (X.env :: X.outer) a (Zm c k t) X.env.locals s.heap := by rw [← hs]; exact u.sky
  exact L2N.Sky.land Zm.still frm hf sky fun h fl up => hq h ⟨u.inv.ofTry ok, u.gnd, u.ups.trans up, fl, u.na, u.os, u.ag⟩
end
def wGot (K : PySem.W.Frag) (x : Value) (go : Addr → Value → Option Addr → L2.St → Hp → Prop) : WX := fun k t σ H => PySem.W.exmOne K k x = some true ∧ ∀ a, H a = none → go a k t σ H
section
variable {c : Bool} {X : Cx} {x n : Str} {cv : Value} {i : Nat} {body suite : List Stmt} {st0 : Stmt} {np pos pos2 : Pos} {tb : WX → TS} {ts : Addr → Value → Option Addr → TS}
theorem Dn.test {pins : List (Addr × Obj)} {σ : L2.St} {H : Hp} {k : Value} {t : Option Addr} {a : Addr} {B : Heap} {sI s : Shared} {nm : Option Str} {E0 : Value → Shared → Prop} {Q : Flow → Shared → Prop} (hf : X.env.frame = some X.env.locals) (hc : Names X x cv) (d : Dn c X pins σ H k t a B sI s) (hm : PySem.W.exmOne X.K k cv = some true)
    (go : wpAny (model X.prog X.w) (X.A.mark (some (.ref a))) (eval (.Name x np) X.env) (fun v s2 => v = cv ∧ s2 = s) (fun _ _ => False) s → PySem.W.Looks (model X.prog X.w) s.heap (typeOf (.ref a)) k → wpAny (model X.prog X.w) X.A (handleBy (.ref a) X.env [.ExceptHandler (some (.Name x np)) nm (st0 :: suite) pos2]) Q E0 s) :
    wpAny (model X.prog X.w) X.A (handleBy (.ref a) X.env [.ExceptHandler (some (.Name x np)) nm (st0 :: suite) pos2]) Q E0 s := by
  obtain ⟨oe, vs, he, hz, hd, S⟩ := d.suite hf
  refine go ?_ fun A Q E s kp q => wpAny_typeOf_ref (kp _ _ he) (by rw [hz.cls]; exact q)
  obtain ⟨y1, y2, y3 | ⟨y3, y4, y5⟩⟩ := hc
  · exact ld_glob (X := X.suite a ((a, oe) :: (X.pn ++ pins))) S y1 y3 ⟨rfl, rfl⟩ y2
  · exact ld_blt (X := X.suite a ((a, oe) :: (X.pn ++ pins))) S y1 y3 y4 ⟨rfl, rfl⟩ y5 y2
theorem endsTry {pins : List (Addr × Obj)} {xe : Value → Shared → Prop} {D : Ends} {s1 : Shared} {fl : Flow} (ok : X.Ok) (h : SP (X.tr (X.pn ++ pins) xe) [] D fl s1) : SP X pins D fl s1 := by
  cases fl with
  | ret u =>
    obtain ⟨v, τ, Hj, J, r, q⟩ := h
    exact ⟨v, τ, Hj, J.ofTry ok, r, q⟩
  | next =>
    obtain ⟨τ, Hj, J, q⟩ := h
    exact ⟨τ, Hj, J.ofTry ok, q⟩
  | brk =>
    obtain ⟨τ, Hj, J, q⟩ := h
    exact ⟨τ, Hj, J.ofTry ok, q⟩
  | cont =>
    obtain ⟨τ, Hj, J, q⟩ := h
    exact ⟨τ, Hj, J.ofTry ok, q⟩
def Ends.gone (D : Ends) (i : Nat) : Ends := { nx := fun τ Hj => D.nx (τ.set i none) Hj, rt := D.rt, bk := fun τ Hj => D.bk (τ.set i none) Hj, ct := fun τ Hj => D.ct (τ.set i none) Hj }
theorem ps_tryAs (hs : X.stack = X.env :: X.outer) (hf : X.env.frame = some X.env.locals) (hN : X.N.Nodup) (hi : X.N[i]? = some n) (hln : X.env.kindOf n = some .local) (hc : Names X x cv)
    (hb : ∀ (W : WX) (pn : List (Addr × Obj)) (xe : Value → Shared → Prop), Tk c (X.tr pn xe) W → PassesOwn (model X.prog X.w) X.A X.env xe → PSs (X.tr pn xe) body (tb W))
    (hsu : ∀ (a : Addr) (oe : Obj) (k : Value) (t : Option Addr) (pn : List (Addr × Obj)), Zm c k t oe → (∃ vs, oe.data = .fields vs) → PSs (X.suite a ((a, oe) :: pn)) (st0 :: suite) (ts a k t)) :
    PS X (.Try body [.ExceptHandler (some (.Name x np)) (some n) (st0 :: suite) pos2] [] [] pos) (fun D σ H => tb (wGot X.K cv fun a k t τ Hj => ts a k t (Ends.gone D i) (τ.set i (some (.ref a))) Hj) D σ H) := by
  refine ⟨fun pins s σ H D I h => ?_⟩
  have ok := I.ok
  refine wpAny_Try_except (wpAny_mono ((hb (wGot X.K cv fun a k t τ Hj => ts a k t (Ends.gone D i) (τ.set i (some (.ref a))) Hj) (X.pn ++ pins) (fun e s₁ => wpAny (model X.prog X.w) X.A (noteFrame e X.env) (fun _ s₂ => wpAny (model X.prog X.w) X.A (setFlight e none) (fun _ s₃ =>
    wpAny (model X.prog X.w) X.A (handleBy e X.env [.ExceptHandler (some (.Name x np)) (some n) (st0 :: suite) pos2]) (SP X pins D) X.xe s₃) X.xe s₂) X.xe s₁) (fun u s2 xx => ?_) PassesOwn.looking).run [] s σ H D (I.toTry _) h) (fun fl s1 z => ?_) (fun e s1 z => z))
  · obtain ⟨a, G, sJ, pj, τ, Hj, k, t, rfl, up, hm, hgo⟩ := xx
    refine UpAt.down hs hf ok up fun h3 d3 => Dn.test hf hc d3 hm fun ht hlk => ?_
    refine wpAny_handleBy_cons (codeAny_handlers_test (wpAny_mono ht (fun v s4 z => ?_) fun _ _ z => z.elim)) (by intro z; cases z)
    obtain ⟨rfl, rfl⟩ := z
    refine (PySem.W.exm_one (M := model X.prog X.w) d3.now.kIn hlk hm).here (codeAny_handlers_suite_as (Dn.again d3 fun h4 d4 => ?_))
    obtain ⟨oe, vs, he, hz, hd, S⟩ := d4.suite hf
    refine store_ok (X := X.suite a ((a, oe) :: (X.pn ++ pins))) (v := .ref a) S hN hi (.inl hln) rfl (fun s5 S5 => ?_) (.inr hln)
    refine wpAny_mono ((hsu a oe k t (X.pn ++ pins) hz ⟨_, hd⟩).run [] s5 _ Hj _ S5 (hgo a d4.na)) (fun fl s6 z => ?_) (fun _ _ z => z.elim)
    have out : ∀ {τ6 : L2.St} {H6 : Hp} {Q : Shared → Prop}, Inv (X.suite a ((a, oe) :: (X.pn ++ pins))) [] τ6 H6 s6 → (∀ s7, Inv X pins (τ6.set i none) H6 s7 → Q s7) → wpAny (model X.prog X.w) X.A (do bindName X.env n .none; unbindBehindTheSuite X.env n pos2) (fun _ s7 => Q s7) X.xe s6 :=
      fun {τ6 H6 Q} S6 hq => gone_ok (S6.unsuite ok) hN hi hln hq
    cases fl with
    | ret u =>
      obtain ⟨v, τ6, H6, S6, r6, q6⟩ := z
      exact out S6 fun s7 J7 => ⟨v, _, H6, J7, r6, q6⟩
    | next =>
      obtain ⟨τ6, H6, S6, q6⟩ := z
      exact out S6 fun s7 J7 => ⟨_, H6, J7, q6⟩
    | brk =>
      obtain ⟨τ6, H6, S6, q6⟩ := z
      exact out S6 fun s7 J7 => ⟨_, H6, J7, q6⟩
    | cont =>
      obtain ⟨τ6, H6, S6, q6⟩ := z
      exact out S6 fun s7 J7 => ⟨_, H6, J7, q6⟩
  · have y := endsTry ok z
    cases fl with
    | next =>
      obtain ⟨τ, Hj, J, q⟩ := y
      exact wpAny_execs_nil ⟨τ, Hj, J, q⟩
    | _ => exact y
theorem ps_tryOut (hs : X.stack = X.env :: X.outer) (hf : X.env.frame = some X.env.locals) (hc : Names X x cv) (hpa : ∀ hd : Option Value, PassesOwnAt (model X.prog X.w) (X.A.mark hd) X.A X.env X.xe) {Wout : WX} (tk : Tk false X Wout)
    (hb : ∀ (W : WX) (pn : List (Addr × Obj)) (xe : Value → Shared → Prop), Tk true (X.tr pn xe) W → PassesOwn (model X.prog X.w) X.A X.env xe → PSs (X.tr pn xe) body (tb W))
    (hsu : ∀ (a : Addr) (oe : Obj) (k : Value) (t : Option Addr) (pn : List (Addr × Obj)), Zm true k t oe → (∃ vs, oe.data = .fields vs) → Tk false (L2H.suiteX X a ((a, oe) :: pn)) Wout → L2H.HotC (L2H.suiteX X a ((a, oe) :: pn)) → PSs (L2H.suiteX X a ((a, oe) :: pn)) (st0 :: suite) (ts a k t)) :
    PS X (.Try body [.ExceptHandler (some (.Name x np)) none (st0 :: suite) pos2] [] [] pos) (fun D σ H => tb (wGot X.K cv fun a k t τ Hj => ts a k t D τ Hj) D σ H) := by
  refine ⟨fun pins s σ H D I h => ?_⟩
  have ok := I.ok
  refine wpAny_Try_except (wpAny_mono ((hb (wGot X.K cv fun a k t τ Hj => ts a k t D τ Hj) (X.pn ++ pins) (fun e s₁ => wpAny (model X.prog X.w) X.A (noteFrame e X.env) (fun _ s₂ => wpAny (model X.prog X.w) X.A (setFlight e none) (fun _ s₃ =>
    wpAny (model X.prog X.w) X.A (handleBy e X.env [.ExceptHandler (some (.Name x np)) none (st0 :: suite) pos2]) (SP X pins D) X.xe s₃) X.xe s₂) X.xe s₁) (fun u s2 xx => ?_) PassesOwn.looking).run [] s σ H D (I.toTry _) h) (fun fl s1 z => ?_) (fun e s1 z => z))
  · obtain ⟨a, G, sJ, pj, τ, Hj, k, t, rfl, up, hm, hgo⟩ := xx
    refine UpAt.down hs hf ok up fun h3 d3 => Dn.test hf hc d3 hm fun ht hlk => ?_
    refine wpAny_handleBy_cons (codeAny_handlers_test (wpAny_mono ht (fun v s4 z => ?_) fun _ _ z => z.elim)) (by intro z; cases z)
    obtain ⟨rfl, rfl⟩ := z
    refine (PySem.W.exm_one (M := model X.prog X.w) d3.now.kIn hlk hm).here (codeAny_handlers_suite (Dn.again d3 fun h4 d4 => ?_))
    obtain ⟨oe, vs, he, hz, hd, S⟩ := d4.suite hf
    have tkS : Tk false (L2H.suiteX X a ((a, oe) :: (X.pn ++ pins))) Wout := fun u2 s2 x2 => by
      obtain ⟨a2, B2, sI2, pn2, τ2, H2, k2, t2, e2, q2, w2⟩ := x2
      exact tk u2 s2 ⟨a2, B2, sI2, pins, τ2, H2, k2, t2, e2, ⟨L2H.unsuiteX q2.inv ok, q2.gnd, q2.ups, q2.sky, q2.na, q2.os, q2.ag⟩, w2⟩
    have hot : L2H.HotC (L2H.suiteX X a ((a, oe) :: (X.pn ++ pins))) := ⟨(a, oe), ⟨rfl, vs, hd, hz.ctx rfl vs hd⟩, List.mem_cons_self⟩
    refine wpAny_mono ((hsu a oe k t (X.pn ++ pins) hz ⟨_, hd⟩ tkS hot).run [] _ _ Hj _ (L2H.suiteX_of S) (hgo a d4.na)) (fun fl s6 z => ?_) (fun e6 s6 z => hpa (some (.ref a)) e6 s6 z)
    cases fl with
    | ret u =>
      obtain ⟨v, τ6, H6, S6, r6, q6⟩ := z
      exact ⟨v, τ6, H6, L2H.unsuiteX S6 ok, r6, q6⟩
    | next =>
      obtain ⟨τ6, H6, S6, q6⟩ := z
      exact ⟨τ6, H6, L2H.unsuiteX S6 ok, q6⟩
    | brk =>
      obtain ⟨τ6, H6, S6, q6⟩ := z
      exact ⟨τ6, H6, L2H.unsuiteX S6 ok, q6⟩
    | cont =>
      obtain ⟨τ6, H6, S6, q6⟩ := z
      exact ⟨τ6, H6, L2H.unsuiteX S6 ok, q6⟩
  · have y := endsTry ok z
    cases fl with
    | next =>
      obtain ⟨τ, Hj, J, q⟩ := y
      exact wpAny_execs_nil ⟨τ, Hj, J, q⟩
    | _ => exact y
end
section
variable {c : Bool} {X : Cx} {x : Str} {cv : Value} {body suite : List Stmt} {st0 : Stmt} {np pos pos2 : Pos} {tb : WX → TS} {ts : Addr → Value → Option Addr → TS}
theorem ps_tryPl (hs : X.stack = X.env :: X.outer) (hf : X.env.frame = some X.env.locals) (hc : Names X x cv)
    (hb : ∀ (W : WX) (pn : List (Addr × Obj)) (xe : Value → Shared → Prop), Tk c (X.tr pn xe) W → PassesOwn (model X.prog X.w) X.A X.env xe → PSs (X.tr pn xe) body (tb W))
    (hsu : ∀ (a : Addr) (oe : Obj) (k : Value) (t : Option Addr) (pn : List (Addr × Obj)), Zm c k t oe → (∃ vs, oe.data = .fields vs) → PSs (X.suite a ((a, oe) :: pn)) (st0 :: suite) (ts a k t)) :
    PS X (.Try body [.ExceptHandler (some (.Name x np)) none (st0 :: suite) pos2] [] [] pos) (fun D σ H => tb (wGot X.K cv fun a k t τ Hj => ts a k t D τ Hj) D σ H) := by
  refine ⟨fun pins s σ H D I h => ?_⟩
  have ok := I.ok
  refine wpAny_Try_except (wpAny_mono ((hb (wGot X.K cv fun a k t τ Hj => ts a k t D τ Hj) (X.pn ++ pins) (fun e s₁ => wpAny (model X.prog X.w) X.A (noteFrame e X.env) (fun _ s₂ => wpAny (model X.prog X.w) X.A (setFlight e none) (fun _ s₃ =>
    wpAny (model X.prog X.w) X.A (handleBy e X.env [.ExceptHandler (some (.Name x np)) none (st0 :: suite) pos2]) (SP X pins D) X.xe s₃) X.xe s₂) X.xe s₁) (fun u s2 xx => ?_) PassesOwn.looking).run [] s σ H D (I.toTry _) h) (fun fl s1 z => ?_) (fun e s1 z => z))
  · obtain ⟨a, G, sJ, pj, τ, Hj, k, t, rfl, up, hm, hgo⟩ := xx
    refine UpAt.down hs hf ok up fun h3 d3 => Dn.test hf hc d3 hm fun ht hlk => ?_
    refine wpAny_handleBy_cons (codeAny_handlers_test (wpAny_mono ht (fun v s4 z => ?_) fun _ _ z => z.elim)) (by intro z; cases z)
    obtain ⟨rfl, rfl⟩ := z
    refine (PySem.W.exm_one (M := model X.prog X.w) d3.now.kIn hlk hm).here (codeAny_handlers_suite (Dn.again d3 fun h4 d4 => ?_))
    obtain ⟨oe, vs, he, hz, hd, S⟩ := d4.suite hf
    refine wpAny_mono ((hsu a oe k t (X.pn ++ pins) hz ⟨_, hd⟩).run [] _ _ Hj _ S (hgo a d4.na)) (fun fl s6 z => ?_) (fun _ _ z => z.elim)
    cases fl with
    | ret u =>
      obtain ⟨v, τ6, H6, S6, r6, q6⟩ := z
      exact ⟨v, τ6, H6, S6.unsuite ok, r6, q6⟩
    | next =>
      obtain ⟨τ6, H6, S6, q6⟩ := z
      exact ⟨τ6, H6, S6.unsuite ok, q6⟩
    | brk =>
      obtain ⟨τ6, H6, S6, q6⟩ := z
      exact ⟨τ6, H6, S6.unsuite ok, q6⟩
    | cont =>
      obtain ⟨τ6, H6, S6, q6⟩ := z
      exact ⟨τ6, H6, S6.unsuite ok, q6⟩
  · have y := endsTry ok z
    cases fl with
    | next =>
      obtain ⟨τ, Hj, J, q⟩ := y
      exact wpAny_execs_nil ⟨τ, Hj, J, q⟩
    | _ => exact y
end
structure StrC (K : PySem.W.Frag) (C : Addr) : Prop where
  st : PySem.W.findIn K (.ref C) "__str__" = some (some (.builtin "BaseException.__str__"))
  ex : PySem.W.subIn K (.ref C) (.type "BaseException") = some true
def rStrM (a C : Addr) (k : Value) (t : Option Addr) : List V → Hp → VK → Prop := fun xs H Q => xs = [.ref a] ∧ k = .ref C ∧ ∃ p m, t = some p ∧ H p = some (.tup [.str m]) ∧ Q (.str m) H
theorem call_strM {c : Bool} {X : Cx} {a C : Addr} {oe : Obj} {k : Value} {t : Option Addr} {pn : List (Addr × Obj)} (hu : X.A.units + 64 < cLine) (T : StrC X.K C) (hz : Zm c k t oe) (hd : ∃ vs, oe.data = .fields vs) : CallR (X.suite a ((a, oe) :: pn)) (.type "str") (rStrM a C k t) := by
  intro pins s σ H xs us Q I r h
  obtain ⟨rfl, rfl, p, m, rfl, hp, q⟩ := h
  obtain ⟨u, rfl, ru⟩ := vals1 r
  cases ru
  obtain ⟨ha, _⟩ := I.pin (a, oe) (List.mem_append_left _ List.mem_cons_self)
  obtain ⟨vs, hd⟩ := hd
  obtain ⟨_, its, rv, ot, g1, g2, n, g3⟩ := I.hok p _ hp
  obtain ⟨v, rfl, rm⟩ := vals1 rv
  obtain ⟨tk, rfl⟩ := rm
  exact PySem.P.str_of_C_one (K := X.K) (C := C) (e := a) (t0 := p) (m := m) (tk := tk) (A := (X.suite a ((a, oe) :: pn)).A) (show X.A.units + 2 < cLine by omega) ⟨I.kIn, oe, vs, ha, hz.cls, hd, hz.arg p rfl vs hd⟩ ⟨ot, n, g1, g2, g3⟩ T.st T.ex ⟨.str m, H, I, ⟨tk, rfl⟩, q⟩
section
variable {P : Program} {w : World} {K : PySem.W.Frag} {mg : Str → Option Value} {base : Heap} {c : Bool}
theorem okM {x qual : Str} {st : Stmt} {f : Addr} {fd : FuncData} {N ps : List Str} {k : Nat} {sp : Sp} (F : Fun K x qual st f fd) (S : FnScope N ps (defScope st)) (len : ∀ vs H Q E, sp vs H Q E → vs.length = ps.length)
    (hbody : ∀ (cdv : Value) (A : Around) (outer : List Env) (s : Shared) (H : Hp) (vs : List V) (Q : VK) (E : XK), Room k (A.deeper (envOfC qual (defScope st) s.heap.objs.size f cdv)) → sp vs H Q E →
      ∃ t, PSs (cxOf (CXm c P w) P w K mg base N qual (defScope st) f cdv A outer s H E) (defBody st) t ∧ t { nx := fun _ H' => Q .non H', rt := Q } (start N vs) H) : FnOk P w K mg base (CXm c P w) (k + 1) f fd ps sp := by
  obtain ⟨oc, od, kV, doc, pm, an, cdv, ct, osl, rfl, lk, hcd⟩ := F.ex
  refine fn_of lk hcd S len fun A outer s H vs Q E hr h => ?_
  exact hbody cdv A outer s H vs Q E hr h
end
abbrev FnM (c : Bool) (P : Program) (w : World) := FnC (CXm c P w) P w
def Flt (E : XK) (C : Addr) (H : Hp) : Prop := ∀ p (m : Str) H', Same H H' → H' p = some (.tup [.str m]) → m.length ≤ 1000 → E (.ref C) (some p) H'
theorem Flt.go {E : XK} {C : Addr} {H H1 : Hp} (q : Flt E C H) (e : Same H H1) : Flt E C H1 := fun p m H' e2 => q p m H' (e.trans e2)
section
variable {C : Addr} {te : TE} {σ : L2.St} {H H1 : Hp} {Q E : XK}
theorem w_mk1 (h : te σ H fun v H1 => ∃ m : Str, v = .str m ∧ ∀ p H2, H1 p = none → Same H1 H2 → H2 p = some (.tup [.str m]) → Q (.ref C) (some p) H2) : rMk C te σ H Q := h
theorem w_flt {z : Str} (hz : z.length ≤ 1000) (q : Flt E C H) (e : Same H H1) : ∃ m : Str, V.str z = .str m ∧ ∀ p H2, H1 p = none → Same H1 H2 → H2 p = some (.tup [.str m]) → E (.ref C) (some p) H2 := ⟨z, rfl, fun p H2 _ e2 h => q p z H2 (e.trans e2) h hz⟩
end
section
variable {X : Cx} {c : Bool} {j k : Nat} {sp : Sp} {x : Str} {p pos : Pos} {e : Expr} {es : List Expr} {t : TA} {W : L2.WX}
theorem pe_fc {CXn : CXT} {E : XK} (cn : FnC CXn X.prog X.w X.K X.mg X.base k x sp) (hr : Room j X.A) (hk : k ≤ j) (hx : Passes CXn X E) (ha : PA X (e :: es) t) (hg : Gl X x := by rfl) (hdb : (x == ("__debug__" : Str)) = false := by decide)
    (he : starEach (e :: es) X.env = (false, eval e X.env) :: starEach es X.env := by rfl) (hpl : (backTo pos (starEach es X.env)).any (·.1) = false := by rfl) :
    PE X (.Call (.Name x p) (e :: es) [] pos) (tCall sp [] E t) := by
  obtain ⟨f, fd, ps, F, hm, kp, b⟩ := cn.ex
  exact pe_call F (hr.mono hk) hg hm kp b .nil hx ha hdb he hpl
theorem pe_fcS {CXn : CXT} {E : L2.St → XK} (cn : FnC CXn X.prog X.w X.K X.mg X.base k x sp) (hr : Room j X.A) (hk : k ≤ j) (hx : ∀ σ, PassesAt CXn X σ (E σ)) (ha : PA X (e :: es) t) (hg : Gl X x := by rfl) (hdb : (x == ("__debug__" : Str)) = false := by decide)
    (he : starEach (e :: es) X.env = (false, eval e X.env) :: starEach es X.env := by rfl) (hpl : (backTo pos (starEach es X.env)).any (·.1) = false := by rfl) :
    PE X (.Call (.Name x p) (e :: es) [] pos) (tCallSD sp [] E t) := by
  obtain ⟨f, fd, ps, F, hm, kp, b⟩ := cn.ex
  exact pe_callSD F (hr.mono hk) hg hm kp b .nil hx ha hdb he hpl
end
end Lay

set_option exponentiation.threshold 256
set_option Elab.async false
set_option linter.all false
set_option maxRecDepth 100000
set_option maxHeartbeats 4000000
namespace Lay
open PySem PySem.Spec PyProof.Rows L2
section
variable {prog : Program} {w : World} {A : Around} {E : Value → Shared → Prop} {s : Shared}
structure ZSt (z ti to_ i1 i2 a b S : Addr) (h : Heap) (i : Nat) : Prop where
  prs : IsPair h ti (.ref i1) (.ref i2)
  it1 : h.IsTupleIter i1 a i
  it2 : h.IsTupleIter i2 b i
  own : ∃ p q, IsPair h to_ p q
  zip : IsZip h z ti to_ .none ∨ ∃ T f oT, IsZipHeld h z ti to_ T f ∧ h.get? T = some oT ∧ T ≠ z ∧ T ≠ to_ ∧ T ≠ i1 ∧ T ≠ i2 ∧ T ≠ S
variable {z ti to_ i1 i2 a b S : Addr} {i : Nat}
theorem ZSt.keeps {h h' : Heap} (st : ZSt z ti to_ i1 i2 a b S h i) (hS : S ≠ z ∧ S ≠ ti ∧ S ≠ to_ ∧ S ≠ i1 ∧ S ≠ i2) (k : ∀ c o, c ≠ S → h.get? c = some o → h'.get? c = some o) : ZSt z ti to_ i1 i2 a b S h' i := by
  obtain ⟨n1, n2, n3, n4, n5⟩ := hS
  obtain ⟨p, q, ho⟩ := st.own
  refine ⟨k _ _ n2.symm st.prs, st.it1.at fun o e => k _ o n4.symm e, st.it2.at fun o e => k _ o n5.symm e, ⟨p, q, k _ _ n3.symm ho⟩, ?_⟩
  rcases st.zip with y | ⟨T, f, oT, y, hT, m1, m2, m3, m4, m5⟩
  · exact .inl (k _ _ n1.symm y)
  · exact .inr ⟨T, f, oT, k _ _ n1.symm y, k _ _ m5 hT, m1, m2, m3, m4, m5⟩
theorem ZSt.item {xs ys : Array Value} {x y : Value} {Q : Option Value → Shared → Prop} (D : ZipApart z ti to_ i1 i2 a b) (st : ZSt z ti to_ i1 i2 a b S s.heap i) (hS : S < s.heap.objs.size) (la : s.heap.IsTuple a xs) (lb : s.heap.IsTuple b ys) (hx : xs[i]? = some x) (hy : ys[i]? = some y)
    (hQ : ∀ h', ZSt z ti to_ i1 i2 a b S h' (i + 1) → IsPair h' s.heap.objs.size x y → (∀ c o, c ∉ [z, ti, to_, i1, i2] → s.heap.get? c = some o → h'.get? c = some o) → Q (some (.ref s.heap.objs.size)) { s with heap := h' }) :
    wpAny (model prog w) A (pyNext (.ref z)) Q E s := by
  obtain ⟨p0, q0, hto⟩ := st.own
  have lt1 : i1 < s.heap.objs.size := by obtain ⟨_, e, _⟩ := st.it1; exact Heap.lt_size e
  have lt2 : i2 < s.heap.objs.size := by obtain ⟨_, e, _⟩ := st.it2; exact Heap.lt_size e
  have lt3 := Heap.lt_size hto
  rcases st.zip with hz | ⟨T, f, oT, hz, hT, m1, m2, m3, m4, m5⟩
  · have lt0 := Heap.lt_size hz
    refine RZ.pyNext_zipT_item D hz st.prs hto st.it1 st.it2 la lb hx hy fun h' g1 g2 g3 g4 g5 g6 g7 => hQ h' ⟨g7 _ _ D.TIz D.TITO D.TIi1 D.TIi2 st.prs, g3, g4, ⟨_, _, g2⟩, .inr ⟨s.heap.objs.size, false, _, g1, g5, ?_, ?_, ?_, ?_, ?_⟩⟩ g5 fun c o hc e => ?_
    · exact Nat.ne_of_gt lt0
    · exact Nat.ne_of_gt lt3
    · exact Nat.ne_of_gt lt1
    · exact Nat.ne_of_gt lt2
    · exact Nat.ne_of_gt hS
    · exact g7 c o (fun y => hc (by simp [y])) (fun y => hc (by simp [y])) (fun y => hc (by simp [y])) (fun y => hc (by simp [y])) e
  · have lt0 := Heap.lt_size hz
    have ty : s.TypeIs (.ref z) "zip" := ⟨_, hz, rfl⟩
    unfold pyNext
    refine wpAny_bind (wpAny_attempt (wpAny_callSpecial?_slot (name := Str.ofString "__next__") ty F.slot_zip_next (wpAny_call_entry F.slot_zip_next ty F.entry_zip_next ?_ (F.args_zip_next_1 _))))
    show wpAny _ _ (field (.ref z) 2 >>= _) _ _ s
    refine wpAny_bind (wpAny_field hz rfl (x := Value.bool false) rfl ?_)
    show wpAny _ _ (field (.ref z) 3 >>= _) _ _ s
    refine wpAny_bind (wpAny_field hz rfl (x := Value.ref ti) rfl (wpAny_bind (wpAny_seqItems st.prs rfl ?_)))
    show wpAny _ _ (Builtin.SmallTypes.ownedTupleIsFree (Value.ref z) >>= _) _ _ s
    refine wpAny_bind (wpAny_tupleHeld_zip hz hT fun ha hza sa => ?_)
    simp only [if_false, Bool.false_eq_true]
    refine wpAny_bind ?_
    rw [← Array.forIn_toList]
    simp only [List.forIn_nil, List.forIn_cons]
    refine wpAny_bind (wpAny_bind (wpAny_holding ?_))
    show wpAny _ _ (Builtin.SmallTypes.nextOf (Value.ref i1) >>= _) _ _ { s with heap := ha }
    refine wpAny_bind (RZ.nextOf_tuple_item (s := { s with heap := ha }) (st.it1.extBut sa.extBut D.i1z) (la.extBut sa.extBut D.l1z) hx fun hb it1b sb => wpAny_pure (wpAny_pure ?_))
    refine wpAny_bind (wpAny_bind (wpAny_holding ?_))
    show wpAny _ _ (Builtin.SmallTypes.nextOf (Value.ref i2) >>= _) _ _ { s with heap := hb }
    refine wpAny_bind (RZ.nextOf_tuple_item (s := { s with heap := hb }) ((st.it2.extBut sa.extBut D.i2z).extBut sb.extBut D.i12.symm) ((lb.extBut sa.extBut D.l2z).extBut sb.extBut D.l2i1) hy fun hc it2c sc => wpAny_pure (wpAny_pure (wpAny_pure ?_)))
    show wpAny _ _ (newTuple [x, y] >>= _) _ _ { s with heap := hc }
    refine wpAny_bind (wpAny_newTuple (wpAny_pure ⟨_, rfl, ?_⟩))
    have ez : hc.objs.size = s.heap.objs.size := by rw [sc.1, sb.1, sa.1]
    have kp : ∀ d o, d ≠ z → d ≠ i1 → d ≠ i2 → s.heap.get? d = some o → hc.get? d = some o := fun d o y1 y2 y3 e => sc.extBut _ _ y3 (sb.extBut _ _ y2 (sa.extBut _ _ y1 e))
    have hzc : IsZipHeld hc z ti to_ T true := sc.extBut _ _ D.i2z.symm (sb.extBut _ _ D.i1z.symm hza)
    have up : ∀ d o, hc.get? d = some o → (hc.push { cls := .type "tuple", data := .seq #[x, y] }).get? d = some o := fun d o e => Heap.get?_push_of_some _ e
    have np : IsPair (hc.push { cls := .type "tuple", data := .seq #[x, y] }) hc.objs.size x y := Heap.get?_push_size _ rfl
    refine wpAny_pure ?_
    show Q (some (.ref hc.objs.size)) _
    rw [ez] at np ⊢
    refine hQ _ ⟨up _ _ (kp _ _ D.TIz D.TIi1 D.TIi2 st.prs), (it1b.extBut sc.extBut D.i12).at fun o e => up _ o e, it2c.at fun o e => up _ o e, ⟨p0, q0, up _ _ (kp _ _ D.TOz D.TOi1 D.TOi2 hto)⟩, .inr ⟨T, true, oT, up _ _ hzc, up _ _ (kp _ _ m1 m3 m4 hT), m1, m2, m3, m4, m5⟩⟩ np fun d o hd e => up d o (kp d o (fun y => hd (by simp [y])) (fun y => hd (by simp [y])) (fun y => hd (by simp [y])) e)
theorem ZSt.stop {xs ys : Array Value} {Q : Option Value → Shared → Prop} (hh : A.handled = none) (D : ZipApart z ti to_ i1 i2 a b) (st : ZSt z ti to_ i1 i2 a b S s.heap i) (la : s.heap.IsTuple a xs) (lb : s.heap.IsTuple b ys) (hx : xs[i]? = none)
    (hQ : ∀ h', (∀ c o, c ∉ [z, ti, to_, i1, i2] → s.heap.get? c = some o → h'.get? c = some o) → Q none { s with heap := h' }) : wpAny (model prog w) A (pyNext (.ref z)) Q E s := by
  obtain ⟨p0, q0, hto⟩ := st.own
  rcases st.zip with hz | ⟨T, f, oT, hz, hT, m1, m2, m3, m4, m5⟩
  · exact RZ.pyNext_zipT_end hh D hz st.prs hto st.it1 st.it2 la lb (.inl hx) fun h' g => hQ h' fun c o hc e => g c o (fun y => hc (by simp [y])) (fun y => hc (by simp [y])) (fun y => hc (by simp [y])) (fun y => hc (by simp [y])) e
  · have ty : s.TypeIs (.ref z) "zip" := ⟨_, hz, rfl⟩
    unfold pyNext
    refine wpAny_bind (wpAny_attempt (wpAny_callSpecial?_slot (name := Str.ofString "__next__") ty F.slot_zip_next (wpAny_call_entry F.slot_zip_next ty F.entry_zip_next ?_ (F.args_zip_next_1 _))))
    show wpAny _ _ (field (.ref z) 2 >>= _) _ _ s
    refine wpAny_bind (wpAny_field hz rfl (x := Value.bool false) rfl ?_)
    show wpAny _ _ (field (.ref z) 3 >>= _) _ _ s
    refine wpAny_bind (wpAny_field hz rfl (x := Value.ref ti) rfl (wpAny_bind (wpAny_seqItems st.prs rfl ?_)))
    show wpAny _ _ (Builtin.SmallTypes.ownedTupleIsFree (Value.ref z) >>= _) _ _ s
    refine wpAny_bind (wpAny_tupleHeld_zip hz hT fun ha hza sa => ?_)
    simp only [if_false, Bool.false_eq_true]
    refine wpAny_bind ?_
    rw [← Array.forIn_toList]
    simp only [List.forIn_nil, List.forIn_cons]
    refine wpAny_bind (wpAny_bind (wpAny_holding ?_))
    show wpAny _ _ (Builtin.SmallTypes.nextOf (Value.ref i1) >>= _) _ _ { s with heap := ha }
    refine wpAny_bind (RZ.nextOf_tuple_end (s := { s with heap := ha }) hh (st.it1.extBut sa.extBut D.i1z) (la.extBut sa.extBut D.l1z) hx fun hb e sb he => ?_)
    obtain ⟨o, ho, hc⟩ := he
    refine wpAny_bind (wpAny_isInstance (T := "StopIteration") (b := true) ⟨o, ho, hc⟩ isSubtype_stop ?_)
    exact wpAny_pure (hQ _ fun c o hc e => sb _ _ (fun y => hc (by simp [y])) (sa.extBut _ _ (fun y => hc (by simp [y])) e))
end
theorem Txt.sqT {K : PySem.W.Frag} {H H' : Hp} {a : Addr} {xs : List V} (t : Txt H H') (h : SqT K H a xs) : SqT K H' a xs := by
  rcases h with (h | ⟨o, h⟩) | h
  · exact .inl (.inl (t.tup _ _ h))
  · exact .inl (.inr ⟨o, t.frz _ _ _ h⟩)
  · exact .inr h
theorem zip_nolen : typeLookup (.type "zip") "__len__" = pure none := by rw [typeLookup_type, builtinLookup_eq_fast]; kernel_rfl
theorem zip_nohint : typeLookup (.type "zip") "__length_hint__" = pure none := by rw [typeLookup_type, builtinLookup_eq_fast]; kernel_rfl
structure ZGo (K : PySem.W.Frag) (a b S : Addr) (xs ys : List V) (H0 H : Hp) (acc : List Addr) : Prop where
  lst : H S = some (.lst (acc.map V.ref))
  prs : ∀ (j : Nat) T, acc[j]? = some T → ∃ x y, xs[j]? = some x ∧ ys[j]? = some y ∧ H T = some (.tup [x, y])
  frm : But S H0 H
  la : SqT K H a xs
  lb : SqT K H b ys
section
variable {X : Cx} {pins : List (Addr × Obj)} {σ : L2.St} {z ti to_ i1 i2 a b S : Addr} {xs ys : List V} {H0 : Hp} {A1 : Around} {Rs : Result → Shared → Prop}
theorem zip_loop (D : ZipApart z ti to_ i1 i2 a b) (hlen : xs.length = ys.length) (hn : xs.length ≤ 1000000) (hh : A1.in1.handled = none) (hS : S ≠ z ∧ S ≠ ti ∧ S ≠ to_ ∧ S ≠ i1 ∧ S ≠ i2)
    (done : ∀ acc H s, Inv X pins σ H s → ZGo X.K a b S xs ys H0 H acc → acc.length = xs.length → Rs (.ok (.ret .none)) s) :
    ∀ (k i : Nat) (acc : List Addr) (H : Hp) (s : Shared), xs.length - i = k → i ≤ xs.length → acc.length = i → Inv X pins σ H s → (∀ c ∈ [z, ti, to_, i1, i2], FpOk X pins H c) → ZSt z ti to_ i1 i2 a b S s.heap i → S < s.heap.objs.size → ZGo X.K a b S xs ys H0 H acc →
      codeAny (model X.prog X.w) A1 (.builtin "list.extend.loop" ⟨[.ref S, .ref z, .none], []⟩) Rs s := by
  intro k
  induction k with
  | zero =>
    intro i acc H s hk hi ha I hf st hlt go
    obtain ⟨its, rv, p, _⟩ := I.tuple go.la
    obtain ⟨its2, rv2, p2, _⟩ := I.tuple go.lb
    have l1 := rv.length
    refine codeAny_builtin PySem.F.entry_extend_loop ?_
    rw [Around.under_plainId PySem.F.plain_extend_loop _]
    show wpAny _ A1.in1 (pyNext (Value.ref z) >>= _) _ _ s
    refine wpAny_bind (ZSt.stop hh D st (show s.heap.IsTuple a its.toArray from p) (show s.heap.IsTuple b its2.toArray from p2) (by simp; omega) fun h' kp => wpAny_pure ?_)
    exact done acc H _ (I.turnedL (t' := s.toks) kp hf) go (by omega)
  | succ k ih =>
    intro i acc H s hk hi ha I hf st hlt go
    have hx1 : i < xs.length := by omega
    have hy1 : i < ys.length := by omega
    obtain ⟨its, rv, p, _⟩ := I.tuple go.la
    obtain ⟨its2, rv2, p2, _⟩ := I.tuple go.lb
    obtain ⟨u, hu, ru⟩ := rv.get (List.getElem?_eq_getElem hx1)
    obtain ⟨u2, hu2, ru2⟩ := rv2.get (List.getElem?_eq_getElem hy1)
    refine codeAny_builtin PySem.F.entry_extend_loop ?_
    rw [Around.under_plainId PySem.F.plain_extend_loop _]
    show wpAny _ A1.in1 (pyNext (Value.ref z) >>= _) _ _ s
    refine wpAny_bind (ZSt.item D st hlt (show s.heap.IsTuple a its.toArray from p) (show s.heap.IsTuple b its2.toArray from p2) (x := u) (y := u2) (by simpa using hu) (by simpa using hu2) fun h' st' np kp => ?_)
    have nT : H s.heap.objs.size = none := I.hok.fresh (Nat.le_refl _)
    have I1 : Inv X pins σ (upd H s.heap.objs.size (.tup [xs[i], ys[i]])) { s with heap := h' } :=
      I.turnedNew (t' := s.toks) (ch := [z, ti, to_, i1, i2]) kp hf (Nat.le_refl _) ⟨by show 2 ≤ sizeLine; decide, [u, u2], .cons ru (.cons ru2 .nil), ⟨_, np, rfl, _, rfl⟩⟩
    have off : ∀ {c o}, H c = some o → upd H s.heap.objs.size (.tup [xs[i], ys[i]]) c = some o := fun {c o} e => by
      rw [upd_ne (ne_of_none e nT)]
      exact e
    show wpAny _ A1.in1 (updateSeq S (·.push (Value.ref s.heap.objs.size)) >>= _) _ _ _
    obtain ⟨zz, its3, k3, r3, hl3, e3⟩ := I1.lstM (off go.lst)
    have l3 : its3.length = acc.length := by rw [← r3.length, List.length_map]
    have lT := Heap.lt_size np
    have big : (1000000 : Nat) ≤ sizeLine := by decide
    refine wpAny_bind (wpAny_updateSeq e3 rfl (wpAny_pure ⟨plainId_quiet PySem.F.plain_extend_loop _, ?_⟩) (by rw [List.size_toArray]; omega) (by show (its3.toArray.push (Value.ref s.heap.objs.size)).size ≤ sizeLine + 1; rw [Array.size_push, List.size_toArray]; omega))
    have I2 := I1.lset (f := (·.push (Value.ref s.heap.objs.size))) (its' := its3 ++ [.ref s.heap.objs.size]) (ys := (acc ++ [s.heap.objs.size]).map V.ref) (t' := s.toks) (off go.lst) e3 (by simp) (by rw [List.map_append]; exact r3.append (.cons rfl .nil)) (by rw [List.length_map, List.length_append, List.length_singleton]; omega)
    have nST : S ≠ s.heap.objs.size := Nat.ne_of_lt hlt
    refine ih (i + 1) (acc ++ [s.heap.objs.size]) _ _ (by omega) hx1 (by rw [List.length_append, List.length_singleton, ha]) I2 (fun c hc => ?_) (st'.keeps hS fun c o hc e => (Heap.get?_update_other _ _ (Ne.symm hc)).trans e) ?_ ⟨upd_same, fun j T hj => ?_, fun c o hc e => ?_, ?_, ?_⟩
    · obtain ⟨f1, f2⟩ := hf c hc
      have ncS : c ≠ S := fun y => by
        rw [y] at f1
        rw [go.lst] at f1
        cases f1
      have ncT : c ≠ s.heap.objs.size := fun y => by
        have : c < s.heap.objs.size := by
          have hc' : c = z ∨ c = ti ∨ c = to_ ∨ c = i1 ∨ c = i2 := by simpa using hc
          obtain ⟨p0, q0, ho⟩ := st.own
          rcases hc' with rfl | rfl | rfl | rfl | rfl
          · rcases st.zip with y | ⟨_, _, _, y, _⟩ <;> exact Heap.lt_size y
          · exact Heap.lt_size st.prs
          · exact Heap.lt_size ho
          · obtain ⟨_, y, _⟩ := st.it1
            exact Heap.lt_size y
          · obtain ⟨_, y, _⟩ := st.it2
            exact Heap.lt_size y
        exact absurd y (Nat.ne_of_lt this)
      refine ⟨?_, f2⟩
      rw [upd_ne ncS, upd_ne ncT]
      exact f1
    · show S < (h'.update S _).objs.size
      rw [Heap.size_update]
      exact Nat.lt_of_lt_of_le hlt (Nat.le_of_lt lT)
    · by_cases hj' : j < acc.length
      · rw [List.getElem?_append_left hj'] at hj
        obtain ⟨x, y, e1, e2, e4⟩ := go.prs j T hj
        refine ⟨x, y, e1, e2, ?_⟩
        rw [upd_ne (fun yy => by rw [yy, go.lst] at e4; cases e4)]
        exact off e4
      · have ej : j = i := by
          have := (List.getElem?_eq_some_iff.mp hj).1
          rw [List.length_append, List.length_singleton] at this
          omega
        subst ej
        rw [List.getElem?_append_right (by omega), show j - acc.length = 0 by omega] at hj
        cases hj
        exact ⟨xs[j], ys[j], List.getElem?_eq_getElem hx1, List.getElem?_eq_getElem hy1, by rw [upd_ne nST.symm, upd_same]⟩
    · rw [upd_ne hc]
      exact off (go.frm c o hc e)
    · exact Txt.sqT ((Txt.new nT).trans (Txt.lst (off go.lst))) go.la
    · exact Txt.sqT ((Txt.new nT).trans (Txt.lst (off go.lst))) go.lb
end
def rLZ (K : PySem.W.Frag) (x y : V) (H : Hp) (Q : VK) : Prop := ∃ a b xs ys, x = .ref a ∧ y = .ref b ∧ SqT K H a xs ∧ SqT K H b ys ∧ xs.length = ys.length ∧ xs.length ≤ 1000000 ∧
  ∀ S (acc : List Addr) H', H S = none → Same H H' → H' S = some (.lst (acc.map V.ref)) → acc.length = xs.length → (∀ (j : Nat) T, acc[j]? = some T → ∃ x y, xs[j]? = some x ∧ ys[j]? = some y ∧ H' T = some (.tup [x, y])) → Q (.ref S) H'
def tLZ (K : PySem.W.Frag) (ta : TA) : TE := fun σ H Q => ta σ H fun vs H1 => ∃ x y, vs = [x, y] ∧ rLZ K x y H1 Q
theorem pe_listZip {X : Cx} {K : PySem.W.Frag} {e1 e2 : Expr} {ta : TA} {p p2 pos pos2 : Pos} (hc : X.calm = true) (ha : PA X [e1, e2] ta) (hg : Gl X "list") (hm : X.mg "list" = none) (hg2 : Gl X "zip") (hm2 : X.mg "zip" = none) (hK : X.K = K := by rfl)
    (hs : starEach [.Call (.Name "zip" p2) [e1, e2] [] pos2] X.env = (false, eval (.Call (.Name "zip" p2) [e1, e2] [] pos2) X.env) :: starEach [] X.env := by rfl)
    (hs2 : starEach [e1, e2] X.env = (false, eval e1 X.env) :: starEach [e2] X.env := by rfl) (hpl : (backTo pos2 (starEach [e2] X.env)).any (·.1) = false := by rfl) :
    PE X (.Call (.Name "list" p) [.Call (.Name "zip" p2) [e1, e2] [] pos2] [] pos) (tLZ K ta) := by
  subst hK
  refine ⟨fun pins s σ H Q I hq => ?_⟩
  refine wpAny_Call_Name_kw (ld_blt I hg hm (show bootBuiltins "list" = some (.type "list") by decide +kernel) ?_)
  refine PyProof.Rows.callWith_type1 ?_ hs rfl
  rw [hs]
  show wpAny _ _ (spliced ((false, eval (.Call (.Name "zip" p2) [e1, e2] [] pos2) X.env) :: backTo pos (starEach [] X.env))) _ _ s
  refine Calls.spliced_cons ?_
  refine Call_ (ld_blt I hg2 hm2 PyProof.Rows.boot_zip (PyProof.Rows.callWith_type1 (thn (ha.run pos2 pins s σ H _ I hq) fun us s1 ⟨vs, H1, I1, r1, x, y, ex, a, b, xs, ys, ea, eb, la, lb, hlen, hn, q⟩ => ?_) hs2 hpl))
  subst ex ea eb
  cases r1 with
  | cons r rr =>
    cases rr with
    | cons r' rr =>
      cases rr
      cases r
      cases r'
      obtain ⟨its, rv, pa, _⟩ := I1.tuple la
      obtain ⟨its2, rv2, pb, _⟩ := I1.tuple lb
      obtain ⟨oa, hoa, _⟩ := id pa
      obtain ⟨ob, hob, _⟩ := id pb
      refine RZ.call_zipT (show s1.heap.IsTuple a its.toArray from pa) (show s1.heap.IsTuple b its2.toArray from pb) fun h' hz hTI hTO h1 h2 hsz hk => ?_
      have I2 : Inv X pins σ H1 { s1 with heap := h' } := I1.kept (t' := s1.toks) hk
      have D := PySem.W.ktu_apart s1.heap.objs.size a b (Heap.lt_size hoa) (Heap.lt_size hob)
      refine Calls.spliced_nil ?_
      have fr : H1 h'.objs.size = none := I2.hok.fresh (Nat.le_refl _)
      refine callType_codes (Q₁ := fun obj s₁ => obj = .ref h'.objs.size ∧ s₁ = { s1 with heap := h'.push { cls := .type "list", data := .seq #[] } }) PySem.F.called_list (PySem.F.typeCall_list_1 _) PySem.F.entry_list_init (code_list_new _ ⟨rfl, rfl⟩) fun obj s₁ h₁ => ?_
      obtain ⟨rfl, rfl⟩ := h₁
      have hS : (h'.push { cls := .type "list", data := .seq #[] }).get? h'.objs.size = some { cls := .type "list", data := .seq #[] } := Heap.get?_push_size _ rfl
      refine ⟨⟨_, hS, rfl⟩, PySem.F.args_list_init_2 _ _, ?_⟩
      have I3 : Inv X pins σ (upd H1 h'.objs.size (.lst [])) { s1 with heap := h'.push { cls := .type "list", data := .seq #[] } } := I2.lnew (its := []) (t' := s1.toks) .nil (Nat.zero_le _)
      have zlt := Heap.lt_size hz
      have nS : ∀ c, c < h'.objs.size → h'.objs.size ≠ c := fun c y => Nat.ne_of_gt y
      have wh : ∀ c o, c ≠ h'.objs.size → h'.get? c = some o → (h'.push { cls := .type "list", data := .seq #[] }).get? c = some o := fun c o _ e => Heap.get?_push_of_some _ e
      show wpAny _ _ (do let old ← Builtin.List.listItems (Value.ref h'.objs.size); Builtin.List.listUpdate (Value.ref h'.objs.size) (fun _ => #[]); letGo old.toList.reverse; Builtin.List.listExtendWith (Value.ref h'.objs.size) (Value.ref (s1.heap.objs.size + 4)) .none) _ _ _
      unfold Builtin.List.listItems
      refine wpAny_bind (wpAny_bind (wpAny_seqItems hS rfl (wpAny_pure ?_)))
      show wpAny _ _ (updateSeq h'.objs.size (fun _ => #[]) >>= fun _ => letGo (#[] : Array Value).toList.reverse >>= fun _ => Builtin.List.listExtendWith (Value.ref h'.objs.size) (Value.ref (s1.heap.objs.size + 4)) .none) _ _ _
      refine wpAny_bind (wpAny_updateSeq hS rfl (wpAny_bind (wpAny_letGo ?_)))
      have I4 := I3.lset (f := fun _ => #[]) (its := []) (its' := []) (ys := []) (t' := s1.toks) upd_same hS rfl .nil (Nat.zero_le _)
      have fine : ∀ g : Heap, (∀ c o, c ≠ h'.objs.size → h'.get? c = some o → g.get? c = some o) → IsZip g (s1.heap.objs.size + 4) (s1.heap.objs.size + 2) (s1.heap.objs.size + 3) .none ∧ ZSt (s1.heap.objs.size + 4) (s1.heap.objs.size + 2) (s1.heap.objs.size + 3) s1.heap.objs.size (s1.heap.objs.size + 1) a b h'.objs.size g 0 := fun g k => by
        have zg := k _ _ (nS _ zlt).symm hz
        exact ⟨zg, k _ _ (nS _ (by omega)).symm hTI, h1.at fun o e => k _ o (nS _ (by omega)).symm e, h2.at fun o e => k _ o (nS _ (by omega)).symm e, ⟨_, _, k _ _ (nS _ (by omega)).symm hTO⟩, .inl zg⟩
      have upk : ∀ (g : Heap) (f : Obj → Obj), (∀ c o, c ≠ h'.objs.size → h'.get? c = some o → g.get? c = some o) → ∀ c o, c ≠ h'.objs.size → h'.get? c = some o → (g.update h'.objs.size f).get? c = some o := fun g f k c o hc e => (Heap.get?_update_other _ _ (Ne.symm hc)).trans (k c o hc e)
      have k1 := upk _ (Obj.mapSeq fun _ => #[]) wh
      obtain ⟨z1, _⟩ := fine _ k1
      have ty : ∀ g : Shared, IsZip g.heap (s1.heap.objs.size + 4) (s1.heap.objs.size + 2) (s1.heap.objs.size + 3) .none → g.TypeIs (.ref (s1.heap.objs.size + 4)) "zip" := fun g e => ⟨_, e, rfl⟩
      unfold Builtin.List.listExtendWith
      refine wpAny_bind (wpAny_typeOf (ty _ z1) ?_)
      have t1 : Builtin.List.listSameRef (Value.ref h'.objs.size) (Value.ref (s1.heap.objs.size + 4)) = false := by
        have := nS _ zlt
        simp [Builtin.List.listSameRef, this]
      have t2 : (Value.type "zip" == Value.type "tuple") = false := by decide
      have t3 : (Value.type "zip" == Value.type "list") = false := by decide
      simp only [t1, t2, t3, Bool.false_eq_true, if_false, Bool.or_false]
      refine wpAny_bind (wpAny_pyIter_zip z1 (wpAny_bind (wpAny_holding ?_)))
      unfold Builtin.List.listLengthHint
      refine wpAny_bind (wpAny_specialOf (ty _ z1) zip_nolen ?_)
      show wpAny _ _ (specialOf (Value.ref (s1.heap.objs.size + 4)) (Str.ofString "__length_hint__") >>= _) _ _ _
      refine wpAny_bind (wpAny_specialOf (ty _ z1) zip_nohint (wpAny_pure ?_))
      show wpAny _ _ (rule "list.extend.makes-room" >>= fun _ => Builtin.List.listTouch (Value.ref h'.objs.size) >>= fun _ => again (.builtin "list.extend.loop" ⟨[Value.ref h'.objs.size, Value.ref (s1.heap.objs.size + 4), .none], []⟩)) _ _ _
      refine wpAny_bind (wpAny_rule (wpAny_bind ?_))
      show wpAny _ _ (updateSeq h'.objs.size (·.push Value.none) >>= fun _ => updateSeq h'.objs.size (·.pop)) _ _ _
      obtain ⟨_, its4, n4, r4, _, e4⟩ := I4.lstM upd_same
      cases r4
      have I5 := I4.lset (f := (·.push Value.none)) (its' := [Value.none]) (ys := [V.non]) (t' := s1.toks) upd_same e4 (by simp) (.cons rfl .nil) (by rw [List.length_singleton, sizeLine_eq]; decide)
      refine wpAny_bind (wpAny_updateSeq e4 rfl ?_)
      obtain ⟨_, its5, n5, r5, _, e5⟩ := I5.lstM upd_same
      obtain ⟨u5, rfl, _⟩ := r5.one
      have I6 := I5.lset (f := (·.pop)) (its := [u5]) (its' := []) (ys := []) (t' := s1.toks) upd_same e5 (by rfl) .nil (Nat.zero_le _)
      rw [upd_upd, upd_upd, upd_upd] at I6
      refine wpAny_updateSeq e5 rfl (wpAny_pure ⟨plainId_quiet PySem.F.plain_extend_loop _, ?_⟩) (by show 1 ≤ sizeLine; rw [sizeLine_eq]; decide) (by show 0 ≤ sizeLine + 1; exact Nat.zero_le _)
      have k3 := upk _ (Obj.mapSeq (·.pop)) (upk _ (Obj.mapSeq (·.push Value.none)) k1)
      refine zip_loop (A1 := X.A.in1) (Rs := wants (fun r g => r = .none ∧ EP X pins σ Q (.ref h'.objs.size) g) X.xe) (H0 := upd H1 h'.objs.size (.lst [])) D hlen hn (I.ok.hd hc) ⟨nS _ zlt, nS _ (by omega), nS _ (by omega), nS _ (by omega), nS _ (by omega)⟩ (fun acc H' s' I' go hl => ⟨rfl, .ref h'.objs.size, H', I', rfl, ?_⟩) xs.length 0 [] _ _ (by omega) (Nat.zero_le _) rfl I6 (fun c hc => ?_) (fine _ k3).2 ?_ ⟨upd_same, fun j T y => by simp at y, But.refl _, ?_, ?_⟩
      · refine q _ acc H' fr (fun c o e => ?_) go.lst hl go.prs
        have nc : c ≠ h'.objs.size := ne_of_none e fr
        exact go.frm c o nc (by rw [upd_ne nc]; exact e)
      · have hc' : c = s1.heap.objs.size + 4 ∨ c = s1.heap.objs.size + 2 ∨ c = s1.heap.objs.size + 3 ∨ c = s1.heap.objs.size ∨ c = s1.heap.objs.size + 1 := by simpa using hc
        have fin : ∀ d : Nat, s1.heap.objs.size ≤ d → d < h'.objs.size → FpOk X pins (upd H1 h'.objs.size (.lst [])) d := fun d g1 g2 => I1.fpOk g1 (by rw [upd_ne (nS _ g2).symm]; exact I1.hok.fresh g1)
        rcases hc' with rfl | rfl | rfl | rfl | rfl
        · exact fin (s1.heap.objs.size + 4) (by omega) (by omega)
        · exact fin (s1.heap.objs.size + 2) (by omega) (by omega)
        · exact fin (s1.heap.objs.size + 3) (by omega) (by omega)
        · exact fin s1.heap.objs.size (by omega) (by omega)
        · exact fin (s1.heap.objs.size + 1) (by omega) (by omega)
      · rw [Heap.size_update, Heap.size_update, Heap.size_update, Heap.size_push]
        exact Nat.lt_succ_self _
      · exact Txt.sqT (Txt.new fr) la
      · exact Txt.sqT (Txt.new fr) lb
theorem w_LZ {K : PySem.W.Frag} {ta : TA} {σ : L2.St} {H : Hp} {Q : VK} (h : ta σ H fun vs H1 => ∃ x y, vs = [x, y] ∧ rLZ K x y H1 Q) : tLZ K ta σ H Q := h
theorem pe_bmA {X : Cx} {K : PySem.W.Frag} {T : String} {name : Str} {id : String} {r : V → List V → Hp → VK → Prop} {o e : Expr} {es : List Expr} {to : TE} {t : TA} {apos cpos : Pos} (pa : PlainAttrs T) (slot : Slot T name id) (hty : typeOf (.builtin id) = pure (.type "method_descriptor")) (hm : MtR X id r) (ho : PE X o to) (ha : PA X (e :: es) t)
    (hbase : attributeBase o name X.env (eval o X.env) = eval o X.env := by rfl)
    (hfew : ((backTo cpos (starEach (e :: es) X.env)).all (fun x => !x.1) && (backToKw cpos (keywordEach [] X.env)).all (fun x => x.1.isSome) && decide ((e :: es).length + ([] : List Keyword).length + (if ([] : List Keyword).isEmpty then 0 else 1) < 30)) = true := by rfl)
    (hline : (apos.endLine == cpos.line) = true := by rfl) (hs : starEach (e :: es) X.env = (false, eval e X.env) :: starEach es X.env := by rfl) (hplain : (backTo cpos (starEach es X.env)).any (·.1) = false := by rfl) (hK : X.K = K := by rfl) :
    PE X (.Call (.Attribute o name apos) (e :: es) [] cpos) (tBM K T r to t) := by
  subst hK
  exact pe_bm pa slot hty hm ho ha hbase hfew hline hs hplain
end Lay

set_option exponentiation.threshold 256
set_option Elab.async false
set_option linter.all false
set_option maxRecDepth 100000
set_option maxHeartbeats 4000000
namespace Lay
open PySem PySem.Spec PyProof.Rows L2
section
variable {X : Cx} {K : PySem.W.Frag}
def rEqNil (K : PySem.W.Frag) : R2 := fun x y H Q => ∃ a b xs, x = .ref a ∧ y = .ref b ∧ SqL K H a xs ∧ SqL K H b [] ∧ Q (.bl xs.isEmpty) H
theorem op_eqNil (hu : X.A.units + 64 < cLine) (hK : X.K = K := by rfl) : OpR X (compareOp .Eq) (rEqNil K) := by
  subst hK
  intro pins s σ H x y v u Q I rx ry h
  obtain ⟨a, b, xs, rfl, rfl, ha, hb, q⟩ := h
  cases rx
  cases ry
  obtain ⟨its, rv, p, _⟩ := I.list ha
  obtain ⟨its2, rv2, p2, _⟩ := I.list hb
  cases rv2
  show wpAny (model X.prog X.w) X.A (richCompare .Eq (.ref a) (.ref b)) (EP X pins σ Q) X.xe s
  have l := rv.length
  cases xs with
  | nil =>
    cases rv
    exact SeqAt.RcAt.lists p.isList p2.isList rfl (by omega) (e := fun _ => true) (fun j h1 _ => by simp at h1) X.prog X.w X.xe _ ⟨.bl _, H, I, rfl, q⟩
  | cons x xs =>
    exact SeqAt.RcAt.lists_lengths p.isList p2.isList (by
      cases its with
      | nil => cases l
      | cons i its => simp) (by omega) X.prog X.w X.xe _ ⟨.bl _, H, I, rfl, q⟩
def rNeRefs (K : PySem.W.Frag) : R2 := fun x y H Q => ∃ a b, ∃ ts : List Addr, x = .ref a ∧ y = .ref b ∧ SqL K H a (ts.map V.ref) ∧ SqL K H b (ts.map V.ref) ∧ Q (.bl false) H
theorem vals_of_refs : ∀ {ts : List Addr} {us : List Value}, Vals (ts.map V.ref) us → us = ts.map Value.ref
  | [], _, h => by cases h; rfl
  | t :: ts, _, h => by
    cases h with
    | cons r rr =>
      cases r
      rw [vals_of_refs rr]
      rfl
theorem op_neRefs (hu : X.A.units + 64 < cLine) (hK : X.K = K := by rfl) : OpR X (compareOp .NotEq) (rNeRefs K) := by
  subst hK
  intro pins s σ H x y v u Q I rx ry h
  obtain ⟨a, b, ts, rfl, rfl, ha, hb, q⟩ := h
  cases rx
  cases ry
  obtain ⟨its, rv, p, _⟩ := I.list ha
  obtain ⟨its2, rv2, p2, _⟩ := I.list hb
  have e1 := vals_of_refs rv
  have e2 := vals_of_refs rv2
  subst e1
  subst e2
  show wpAny (model X.prog X.w) X.A (richCompare .NotEq (.ref a) (.ref b)) (EP X pins σ Q) X.xe s
  refine SeqAt.RcNeAt.lists p.isList p2.isList rfl (by omega) (e := fun _ => true) (fun j h1 h2 => SeqAt.EqAt.same _) X.prog X.w X.xe _ ⟨.bl false, H, I, ?_, q⟩
  show Value.bool _ = Value.bool _
  congr 1
  simp
end
structure EqC (P : Program) (w : World) (K : PySem.W.Frag) (mg : Str → Option Value) (base : Heap) (n : Nat) (C : Addr) (R : Addr → Addr → Hp → Prop) : Prop where
  ex : ∃ (f : Addr) (fd : FuncData) (ps : List Str), FnOk P w K mg base CX0 n f fd ps (spEq R) ∧ PySem.W.findIn K (.ref C) "__eq__" = some (some (.ref f)) ∧ PySem.W.isFn K (.ref f) = true ∧ Binds K fd ps []
theorem op_eqOwn {X : Cx} {n j : Nat} {C : Addr} {R : Addr → Addr → Hp → Prop} (c : EqC X.prog X.w X.K X.mg X.base n C R) (hr : Room j X.A) (hn : n ≤ j) : OpR X (compareOp .Eq) (rEqG (DIns C R)) := by
  obtain ⟨f, fd, ps, F, hs, hf, hb⟩ := c.ex
  exact op_eqG (rcG_ins F hs hf hb (E := E0) pass0) (hr.mono hn)
end Lay

set_option exponentiation.threshold 256
set_option Elab.async false
set_option linter.all false
set_option maxRecDepth 100000
set_option maxHeartbeats 4000000
namespace Lay
open PySem PySem.Spec PyProof.Rows L2
structure MkD (P : Program) (w : World) (K : PySem.W.Frag) (mg : Str → Option Value) (base : Heap) (k : Nat) (x : Str) (C : Addr) (sp : Sp) (dvs : List V) : Prop where
  ex : ∃ (f : Addr) (fd : FuncData) (ps : List Str) (ds : List Value), FnOk P w K mg base CX0 k f fd ps sp ∧ Mk K C f ∧ mg x = some (.ref C) ∧ Vals dvs ds ∧ Binds K fd ps ds
def tMakeD (C : Addr) (sp : Sp) (dvs : List V) (E : XK) (t : TA) : TE := fun σ H Q => t σ H fun vs H1 => ∀ a dx H2, H1 a = none → H2 a = some (.ins C dx []) → Same H1 H2 → sp (.ref a :: (vs ++ dvs)) H2 (fun v H3 => v = .non ∧ Q (.ref a) H3) E
theorem w_makeD {sp : Sp} {dvs : List V} {E : XK} {σ : L2.St} {H : Hp} {Q : VK} {C : Addr} {tr : TA} (h : tr σ H fun vs H1 => ∀ a dx H2, H1 a = none → H2 a = some (.ins C dx []) → Same H1 H2 → sp (.ref a :: (vs ++ dvs)) H2 (fun v H3 => v = .non ∧ Q (.ref a) H3) E) : tMakeD C sp dvs E tr σ H Q := h
section
variable {X : Cx} {j k : Nat} {sp : Sp} {x : Str} {p pos : Pos} {e : Expr} {es : List Expr} {t : TA} {C : Addr} {dvs : List V}
theorem pe_newD (c : MkD X.prog X.w X.K X.mg X.base k x C sp dvs) (hr : Room j X.A) (hk : k + 1 ≤ j) (ha : PA X (e :: es) t) (hg : Gl X x := by rfl) (hdb : (x == ("__debug__" : Str)) = false := by decide)
    (he : starEach (e :: es) X.env = (false, eval e X.env) :: starEach es X.env := by rfl) (hpl : (backTo pos (starEach es X.env)).any (·.1) = false := by rfl) :
    PE X (.Call (.Name x p) (e :: es) [] pos) (tMakeD C sp dvs E0 t) := by
  obtain ⟨f, fd, ps, ds, F, M, hm, r, b⟩ := c.ex
  exact ⟨fun pins s σ H Q I hw => (pe_make (p := p) (pos := pos) M F (hr.mono hk) hg hm b r pass0 (PA.cl ha) hdb he hpl).run pins s σ H Q I ⟨_, hw, fun vs H1 q y dx h1 h2 hn => q y dx _ h1 upd_same (made_same h1 h2)⟩⟩
end
def EN : XK := fun _ _ _ => False
theorem passNo {c : Bool} {X : Cx} : Passes (CXm c X.prog X.w) X EN := fun _ _ _ _ e s' _ x => by
  obtain ⟨a, B, H', k, t, _, _, _, _, _, _, _, h⟩ := x
  exact h.elim
end Lay

set_option exponentiation.threshold 256
set_option Elab.async false
set_option linter.all false
set_option maxRecDepth 100000
set_option maxHeartbeats 4000000
namespace K66
open PySem PySem.Spec PyProof.Rows L2 Lay
def topS (i : Nat) : Stmt := PySem.Challenge.pw_tablesswitched_k66_whole_texts_of_diarie.main.body.getD i (.Pass ⟨0, 0, 0, 0⟩)
abbrev s_is_whole : Stmt := topS 4
theorem sc_is_whole : FnScope ["value"] ["value"] (defScope s_is_whole) := ⟨rfl, rfl, rfl, by decide +kernel, rfl, by decide +kernel, by decide +kernel⟩
abbrev N_is_whole : List Str := ["value"]
abbrev s_is_word : Stmt := topS 12
theorem sc_is_word : FnScope ["value", "sign"] ["value"] (defScope s_is_word) := ⟨rfl, rfl, rfl, by decide +kernel, rfl, by decide +kernel, by decide +kernel⟩
abbrev N_is_word : List Str := ["value", "sign"]
abbrev s_is_short : Stmt := topS 13
theorem sc_is_short : FnScope ["value", "most", "_"] ["value"] (defScope s_is_short) := ⟨rfl, rfl, rfl, by decide +kernel, rfl, by decide +kernel, by decide +kernel⟩
abbrev N_is_short : List Str := ["value", "most", "_"]
abbrev s_atom_text : Stmt := topS 14
theorem sc_atom_text : FnScope ["value"] ["value"] (defScope s_atom_text) := ⟨rfl, rfl, rfl, by decide +kernel, rfl, by decide +kernel, by decide +kernel⟩
abbrev N_atom_text : List Str := ["value"]
abbrev s_write_data : Stmt := topS 15
theorem sc_write_data : FnScope ["data", "waiting", "found", "one", "depth", "k"] ["data"] (defScope s_write_data) := ⟨rfl, rfl, rfl, by decide +kernel, rfl, by decide +kernel, by decide +kernel⟩
abbrev N_write_data : List Str := ["data", "waiting", "found", "one", "depth", "k"]
abbrev s_read_whole : Stmt := topS 16
theorem sc_read_whole : FnScope ["text", "body", "sign"] ["text"] (defScope s_read_whole) := ⟨rfl, rfl, rfl, by decide +kernel, rfl, by decide +kernel, by decide +kernel⟩
abbrev N_read_whole : List Str := ["text", "body", "sign"]
abbrev s_read_atom : Stmt := topS 17
theorem sc_read_atom : FnScope ["piece"] ["piece"] (defScope s_read_atom) := ⟨rfl, rfl, rfl, by decide +kernel, rfl, by decide +kernel, by decide +kernel⟩
abbrev N_read_atom : List Str := ["piece"]
abbrev s_pieces_of : Stmt := topS 18
theorem sc_pieces_of : FnScope ["text", "found", "start", "place", "sign"] ["text"] (defScope s_pieces_of) := ⟨rfl, rfl, rfl, by decide +kernel, rfl, by decide +kernel, by decide +kernel⟩
abbrev N_pieces_of : List Str := ["text", "found", "start", "place", "sign"]
abbrev s_DataReader___init__ : Stmt := inClass (topS 19) 0
theorem sc_DataReader___init__ : FnScope ["self"] ["self"] (defScope s_DataReader___init__) := ⟨rfl, rfl, rfl, by decide +kernel, rfl, by decide +kernel, by decide +kernel⟩
abbrev N_DataReader___init__ : List Str := ["self"]
abbrev s_DataReader_item : Stmt := inClass (topS 19) 1
theorem sc_DataReader_item : FnScope ["self", "value"] ["self", "value"] (defScope s_DataReader_item) := ⟨rfl, rfl, rfl, by decide +kernel, rfl, by decide +kernel, by decide +kernel⟩
abbrev N_DataReader_item : List Str := ["self", "value"]
abbrev s_DataReader_open_one : Stmt := inClass (topS 19) 2
theorem sc_DataReader_open_one : FnScope ["self"] ["self"] (defScope s_DataReader_open_one) := ⟨rfl, rfl, rfl, by decide +kernel, rfl, by decide +kernel, by decide +kernel⟩
abbrev N_DataReader_open_one : List Str := ["self"]
abbrev s_DataReader_close_one : Stmt := inClass (topS 19) 3
theorem sc_DataReader_close_one : FnScope ["self", "found"] ["self"] (defScope s_DataReader_close_one) := ⟨rfl, rfl, rfl, by decide +kernel, rfl, by decide +kernel, by decide +kernel⟩
abbrev N_DataReader_close_one : List Str := ["self", "found"]
abbrev s_DataReader_comma : Stmt := inClass (topS 19) 4
theorem sc_DataReader_comma : FnScope ["self"] ["self"] (defScope s_DataReader_comma) := ⟨rfl, rfl, rfl, by decide +kernel, rfl, by decide +kernel, by decide +kernel⟩
abbrev N_DataReader_comma : List Str := ["self"]
abbrev s_DataReader_take : Stmt := inClass (topS 19) 5
theorem sc_DataReader_take : FnScope ["self", "piece"] ["self", "piece"] (defScope s_DataReader_take) := ⟨rfl, rfl, rfl, by decide +kernel, rfl, by decide +kernel, by decide +kernel⟩
abbrev N_DataReader_take : List Str := ["self", "piece"]
abbrev s_read_data : Stmt := topS 20
theorem sc_read_data : FnScope ["text", "reader", "piece"] ["text"] (defScope s_read_data) := ⟨rfl, rfl, rfl, by decide +kernel, rfl, by decide +kernel, by decide +kernel⟩
abbrev N_read_data : List Str := ["text", "reader", "piece"]
abbrev s_is_same : Stmt := topS 22
theorem sc_is_same : FnScope ["one", "two", "waiting", "first", "second"] ["one", "two"] (defScope s_is_same) := ⟨rfl, rfl, rfl, by decide +kernel, rfl, by decide +kernel, by decide +kernel⟩
abbrev N_is_same : List Str := ["one", "two", "waiting", "first", "second"]
abbrev s_Reply___init__ : Stmt := inClass (topS 23) 0
theorem sc_Reply___init__ : FnScope ["self", "kind", "text", "data"] ["self", "kind", "text", "data"] (defScope s_Reply___init__) := ⟨rfl, rfl, rfl, by decide +kernel, rfl, by decide +kernel, by decide +kernel⟩
abbrev N_Reply___init__ : List Str := ["self", "kind", "text", "data"]
abbrev s_Reply___eq__ : Stmt := inClass (topS 23) 1
theorem sc_Reply___eq__ : FnScope ["self", "other"] ["self", "other"] (defScope s_Reply___eq__) := ⟨rfl, rfl, rfl, by decide +kernel, rfl, by decide +kernel, by decide +kernel⟩
abbrev N_Reply___eq__ : List Str := ["self", "other"]
abbrev s_is_text : Stmt := topS 26
theorem sc_is_text : FnScope ["value"] ["value"] (defScope s_is_text) := ⟨rfl, rfl, rfl, by decide +kernel, rfl, by decide +kernel, by decide +kernel⟩
abbrev N_is_text : List Str := ["value"]
abbrev s_write_diary : Stmt := topS 27
theorem sc_write_diary : FnScope ["entries", "found", "entry", "reply", "lines", "line"] ["entries"] (defScope s_write_diary) := ⟨rfl, rfl, rfl, by decide +kernel, rfl, by decide +kernel, by decide +kernel⟩
abbrev N_write_diary : List Str := ["entries", "found", "entry", "reply", "lines", "line"]
abbrev s_read_part : Stmt := topS 28
theorem sc_read_part : FnScope ["line", "k", "rest", "kind", "blank", "text", "data"] ["line", "k"] (defScope s_read_part) := ⟨rfl, rfl, rfl, by decide +kernel, rfl, by decide +kernel, by decide +kernel⟩
abbrev N_read_part : List Str := ["line", "k", "rest", "kind", "blank", "text", "data"]
abbrev s_read_diary : Stmt := topS 29
theorem sc_read_diary : FnScope ["text", "lines", "parts", "at", "t"] ["text"] (defScope s_read_diary) := ⟨rfl, rfl, rfl, by decide +kernel, rfl, by decide +kernel, by decide +kernel⟩
abbrev N_read_diary : List Str := ["text", "lines", "parts", "at", "t"]
abbrev s__law_draw : Stmt := topS 31
theorem sc__law_draw : FnScope ["script", "seed", "cell"] ["script"] (defScope s__law_draw) := ⟨rfl, rfl, rfl, by decide +kernel, rfl, by decide +kernel, by decide +kernel⟩
abbrev N__law_draw : List Str := ["script", "seed", "cell"]
abbrev s__law_take : Stmt := topS 32
theorem sc__law_take : FnScope ["draw", "many", "found"] ["draw", "many"] (defScope s__law_take) := ⟨rfl, rfl, rfl, by decide +kernel, rfl, by decide +kernel, by decide +kernel⟩
abbrev N__law_take : List Str := ["draw", "many", "found"]
abbrev s__law_data : Stmt := topS 33
theorem sc__law_data : FnScope ["draw", "deep", "turn"] ["draw", "deep"] (defScope s__law_data) := ⟨rfl, rfl, rfl, by decide +kernel, rfl, by decide +kernel, by decide +kernel⟩
abbrev N__law_data : List Str := ["draw", "deep", "turn"]
abbrev s__law_is_word : Stmt := topS 34
theorem sc__law_is_word : FnScope ["value", "small", "sign"] ["value"] (defScope s__law_is_word) := ⟨rfl, rfl, rfl, by decide +kernel, rfl, by decide +kernel, by decide +kernel⟩
abbrev N__law_is_word : List Str := ["value", "small", "sign"]
abbrev s__law_read : Stmt := topS 35
theorem sc__law_read : FnScope ["text"] ["text"] (defScope s__law_read) := ⟨rfl, rfl, rfl, by decide +kernel, rfl, by decide +kernel, by decide +kernel⟩
abbrev N__law_read : List Str := ["text"]
abbrev s__law_due : Stmt := topS 36
theorem sc__law_due : FnScope ["text", "rows", "found", "part", "k", "row", "turn", "topic", "blank", "rest", "data"] ["text"] (defScope s__law_due) := ⟨rfl, rfl, rfl, by decide +kernel, rfl, by decide +kernel, by decide +kernel⟩
abbrev N__law_due : List Str := ["text", "rows", "found", "part", "k", "row", "turn", "topic", "blank", "rest", "data"]
abbrev s__law_told : Stmt := topS 37
theorem sc__law_told : FnScope ["which", "value", "fault"] ["which", "value"] (defScope s__law_told) := ⟨rfl, rfl, rfl, by decide +kernel, rfl, by decide +kernel, by decide +kernel⟩
abbrev N__law_told : List Str := ["which", "value", "fault"]
abbrev s__law_fits : Stmt := topS 38
theorem sc__law_fits : FnScope ["told", "due", "k"] ["told", "due"] (defScope s__law_fits) := ⟨rfl, rfl, rfl, by decide +kernel, rfl, by decide +kernel, by decide +kernel⟩
abbrev N__law_fits : List Str := ["told", "due", "k"]
abbrev s_law : Stmt := topS 39
theorem sc_law : FnScope ["script", "draw", "turn", "entries", "text", "k", "line", "topic", "more", "data", "held", "again", "i", "sign", "other", "good", "bads", "bad", "value"] ["script"] (defScope s_law) := ⟨rfl, rfl, rfl, by decide +kernel, rfl, by decide +kernel, by decide +kernel⟩
abbrev N_law : List Str := ["script", "draw", "turn", "entries", "text", "k", "line", "topic", "more", "data", "held", "again", "i", "sign", "other", "good", "bads", "bad", "value"]
end K66

set_option exponentiation.threshold 256
set_option Elab.async false
set_option linter.all false
set_option maxRecDepth 100000
set_option maxHeartbeats 4000000
namespace K66
open PySem PySem.Spec PyProof.Rows L2 Lay DataM
local macro_rules | `(tactic| walk_at "1") => `(tactic| first
  | with_reducible refine w_seq ?_
  | ((with_reducible refine w_var (v := ?vv) ?hv ?_); (case hv => rfl))
  | with_reducible refine w_c ?_
  | with_reducible refine w_m1 ?_
  | with_reducible refine w_isstr ?_
  | with_reducible refine w_bm0 ?_
  | with_reducible refine w_bm ?_
  | with_reducible refine w_gcons ?_
  | with_reducible refine w_gnil ?_
  | ((with_reducible refine w_ty (xs := ?vv) ?hv ?_); (case hv => walk_at "hx"))
  | ((with_reducible refine w_gtup (xs := ?vv) ?hv ?hl ?_); (case hv => walk_at "hx"); (case hl => rfl))
  | with_reducible refine w_for1 ?_
  | with_reducible refine w_for2 ?_
  | with_reducible refine w_for3 ?_
  | with_reducible refine w_forA ?_
  | with_reducible refine w_forE ?_
  | ((with_reducible refine w_aug (x := ?vv) ?hv ?_); (case hv => rfl))
  | with_reducible refine w_op ?_
  | with_reducible refine w_cb ?_
  | with_reducible refine w_acons ?_
  | with_reducible refine w_anil ?_
  | with_reducible refine w_set ?_
  | with_reducible refine w_if ?_
  | with_reducible refine w_test ?_
  | with_reducible refine w_tB ?_
  | with_reducible refine w_bl ?_
  | with_reducible refine w_and ?_
  | with_reducible refine w_or ?_
  | with_reducible refine w_not ?_
  | with_reducible refine w_iteT ?_
  | with_reducible refine w_iteF ?_
  | with_reducible refine w_ret ?_
  | with_reducible refine w_next ?_
  | with_reducible refine w_drop ?_
  | with_reducible refine w_call ?_
  | with_reducible refine w_ifx ?_
  | with_reducible refine w_andV ?_
  | with_reducible refine w_orV ?_
  | with_reducible refine w_notV ?_
  | with_reducible refine w_sl ?_
  | with_reducible refine w_nopart ?_
  | with_reducible refine w_part ?_
  | with_reducible refine w_exint ?_
  | with_reducible refine w_chain ?_
  | with_reducible refine w_par ?_
  | with_reducible refine w_two ?_
  | with_reducible refine w_par3 ?_
  | with_reducible refine w_three ?_
  | with_reducible refine w_asg ?_
  | with_reducible refine w_gset ?_
  | with_reducible refine w_retN ?_
  | with_reducible refine w_brk ?_
  | with_reducible refine w_cont ?_
  | with_reducible refine w_un ?_
  | with_reducible refine w_neg ?_
  | with_reducible refine w_callS ?_
  | with_reducible refine w_tup0 ?_
  | with_reducible refine w_lst0 ?_
  | with_reducible refine w_fld0 ?_
  | with_reducible refine w_sfld ?_
  | with_reducible refine w_gsub ?_
  | with_reducible refine w_iAny ?_
  | with_reducible refine w_iR1 ?_
  | with_reducible refine w_make ?_
  | with_reducible refine w_meth ?_
  | with_reducible refine w_mk1 ?_)
local macro_rules | `(tactic| walk_at "2") => `(tactic| first
  | with_reducible refine w_add_int ?_
  | with_reducible refine w_sub ?_
  | ((with_reducible refine w_add_str ?hl ?_); (case hl => walk_at "len"))
  | ((with_reducible refine w_mod ?hl ?_); (case hl => first | decide | omega))
  | ((with_reducible refine w_fdiv ?h1 ?h2 ?_); (case h1 => first | decide | omega); (case h2 => first | decide | omega))
  | ((with_reducible refine w_mulR ?h1 ?h2 ?_); (case h1 => first | decide | omega); (case h2 => first | decide | omega))
  | ((with_reducible refine w_mulL ?h1 ?h2 ?_); (case h1 => first | decide | omega); (case h2 => first | decide | omega))
  | with_reducible refine w_iadd_int ?_
  | ((with_reducible refine w_iadd_str ?hl ?_); (case hl => walk_at "len"))
  | ((with_reducible refine w_mk ?hl ?_); (case hl => walk_at "len"))
  | with_reducible refine w_lt_int ?_
  | with_reducible refine w_lt_str ?_
  | with_reducible refine w_le_int ?_
  | with_reducible refine w_le_str ?_
  | with_reducible refine w_gt ?_
  | with_reducible refine w_ge ?_
  | with_reducible refine w_eq_int ?_
  | with_reducible refine w_eq_str ?_
  | with_reducible refine w_ne_int ?_
  | with_reducible refine w_ne_str ?_
  | ((with_reducible refine w_isInt (d := ?vd) ?hd ?_); (case hd => walk_at "dp"))
  | ((with_reducible refine w_isBool (d := ?vd) ?hd ?_); (case hd => walk_at "dp"))
  | ((with_reducible refine w_isStr (d := ?vd) ?hd ?_); (case hd => walk_at "dp"))
  | ((with_reducible refine w_isTup (d := ?vd) ?hd ?_); (case hd => walk_at "dp"))
  | ((with_reducible refine w_isLst (d := ?vd) ?hd ?_); (case hd => walk_at "dp"))
  | refine w_in_str ?_
  | refine w_nin_str ?_
  | ((with_reducible refine w_ixL (xs := ?vv) (y := ?vr) ?h ?ha ?_); (case h => walk_at "hx"); (case ha => rfl))
  | with_reducible refine w_is ?_
  | with_reducible refine w_isnot ?_
  | ((with_reducible refine w_len_str ?hl ?_); (case hl => walk_at "len"))
  | ((with_reducible refine w_len (xs := ?vv) ?hl ?_); (case hl => walk_at "hx"))
  | with_reducible refine w_int_int ?_
  | with_reducible refine w_str_str ?_
  | with_reducible refine w_abs ?_
  | ((with_reducible refine w_sl_str ?hl ?_); (case hl => walk_at "len"))
  | ((with_reducible refine w_fldAt (C := ?vC) (dx := ?vdx) (fs := ?vfs) (v := ?vv) ?h1 ?h2 ?h3 ?h4 ?_); (case h1 => walk_at "hx"); (case h2 => assumption); (case h3 => assumption); (case h4 => rfl))
  | ((with_reducible refine w_methAt (dx := ?vdx) (fs := ?vfs) ?h1 ?h2 ?_); (case h1 => walk_at "hx"); (case h2 => rfl))
  | ((with_reducible refine w_iteP ?h1 ?_); (case h1 => walk_at "yes"))
  | ((with_reducible refine w_iteN ?h1 ?_); (case h1 => walk_at "no")))
local macro_rules | `(tactic| walk_at "yes") => `(tactic| first | assumption | ((with_reducible refine bnotT ?_); walk_at "no") | (refine decide_eq_true ?_; first | assumption | omega) | exact rfl)
local macro_rules | `(tactic| walk_at "no") => `(tactic| first | assumption | ((with_reducible refine bnotF ?_); walk_at "yes") | (refine decide_eq_false ?_; first | assumption | omega) | exact rfl)
local macro_rules | `(tactic| walk_at "len") => `(tactic| first | assumption | exact Nat.le_of_ble_eq_true rfl | omega | decide | (simp only [List.length_append, List.length_cons, List.length_nil, List.length_map]; omega))
local macro_rules | `(tactic| walk_at "ne") => `(tactic| first | assumption | (refine Ne.symm ?_; assumption))
local macro_rules | `(tactic| walk_at "hx") => `(tactic| first
  | assumption
  | exact upd_same
  | ((with_reducible refine sqa_l ?_); walk_at "hx")
  | ((with_reducible refine sqa_t ?_); walk_at "hx")
  | ((with_reducible refine SqL.of ?_); walk_at "hx")
  | ((with_reducible refine SqT.of ?_); walk_at "hx")
  | ((with_reducible refine at_same (by assumption) ?_); walk_at "hx")
  | ((with_reducible refine at_but (by assumption) ?hne ?_); (case hne => walk_at "ne"); walk_at "hx")
  | ((with_reducible refine Txt.tup (by assumption) _ _ ?_); walk_at "hx")
  | ((with_reducible refine Same.seq (by assumption) ?_); walk_at "hx")
  | ((with_reducible refine Same.seqT (by assumption) ?_); walk_at "hx")
  | ((with_reducible refine Dp.same (by assumption) _ _ ?_); walk_at "hx")
  | ((with_reducible refine DpAll.same (by assumption) _ _ ?_); walk_at "hx"))
local macro_rules | `(tactic| walk_at "go") => `(tactic| repeat (first | walk_at "1" | walk_at "2"))
local macro_rules | `(tactic| walk_at "dp") => `(tactic| first | exact .int _ | exact .str _ | exact .bl _ | exact .non | walk_at "hx")

abbrev sLET : Str := Str.ofString "abcdefghijklmnopqrstuvwxyz"
abbrev sDIG : Str := Str.ofString "0123456789"
structure Facts (w : World) (K : PySem.W.Frag) (mg : Str → Option Value) (CM : Addr) : Prop where
  b_isinstance : mg "isinstance" = none
  b_int : mg "int" = none
  b_bool : mg "bool" = none
  b_str : mg "str" = none
  b_tuple : mg "tuple" = none
  b_len : mg "len" = none
  b_all : mg "all" = none
  b_any : mg "any" = none
  b_range : mg "range" = none
  b_enumerate : mg "enumerate" = none
  b_abs : mg "abs" = none
  b_repr : mg "repr" = none
  c_LETTERS : ∃ u, mg "LETTERS" = some u ∧ RelV (.str sLET) u
  c_DIGITS : ∃ u, mg "DIGITS" = some u ∧ RelV (.str sDIG) u
  c_MOST_WORD : ∃ u, mg "MOST_WORD" = some u ∧ RelV (.int 12) u
  c_MOST_DEPTH : ∃ u, mg "MOST_DEPTH" = some u ∧ RelV (.int 1000) u
  c_MOST_DIGITS : ∃ u, mg "MOST_DIGITS" = some u ∧ RelV (.int 4000) u
  x_Malformed : PySem.W.excIn K CM [.type "ValueError", .type "Exception", .type "BaseException", .type "object"] "ValueError.__new__" = true
  g_Malformed : mg "Malformed" = some (.ref CM)
  k_Malformed : PySem.W.keepIn K (.ref CM) = true
  s_Malformed : PySem.W.subIn K (.ref CM) (.type "BaseException") = some true
  t_Malformed : PySem.W.typeIn K (.ref CM) = some (.type "type")
  e_Malformed : PySem.W.exmOne K (.ref CM) (.ref CM) = some true
  digits : PySem.W.nsIn K cStatics "sys.int_max_str_digits" = some none
theorem let_mem (c : Nat) : decide (c ∈ sLET.cps.toList) = isLet c := by
  unfold isLet
  congr 1
  apply propext
  show c ∈ [97, 98, 99, 100, 101, 102, 103, 104, 105, 106, 107, 108, 109, 110, 111, 112, 113, 114, 115, 116, 117, 118, 119, 120, 121, 122] ↔ _
  simp only [List.mem_cons, List.not_mem_nil, or_false]
  omega
theorem dig_mem (c : Nat) : decide (c ∈ sDIG.cps.toList) = isDig c := by
  unfold isDig
  congr 1
  apply propext
  show c ∈ [48, 49, 50, 51, 52, 53, 54, 55, 56, 57] ↔ _
  simp only [List.mem_cons, List.not_mem_nil, or_false]
  omega
def isWord : PyData → Bool
  | .str s => isWordT s.cps.toList
  | _ => false
def isWhole : PyData → Bool
  | .int _ => true
  | _ => false
def isShort : PyData → Bool
  | .int i => decide (i.natAbs < 10 ^ 4000)
  | _ => false
def shortS : PyData → Prop
  | .str s => s.length ≤ 1000000
  | _ => True
theorem len_cps (s : Str) : s.cps.toList.length = s.length := Array.length_toList
section
variable {P : Program} {w : World} {K : PySem.W.Frag} {mg : Str → Option Value} {base : Heap} {CM : Addr}
def spWhole (K : PySem.W.Frag) : Sp := fun vs H Q _ => ∃ v d, vs = [v] ∧ Dp K H v d ∧ Q (.bl (isWhole d)) H
theorem ok_is_whole {f : Addr} {fd : FuncData} (T : Facts w K mg CM) (F : Fun K "is_whole" "is_whole" s_is_whole f fd) : FnOk P w K mg base CX0 1 f fd ["value"] (spWhole K) := by
  refine F.ok sc_is_whole (fun vs H Q E h => ?_) (fun cdv A outer s H vs Q E hr h => ?_)
  · obtain ⟨v, d, rfl, _⟩ := h
    rfl
  · obtain ⟨v, d, rfl, hd, q⟩ := h
    refine ⟨_, (pss_one (ps_ret (pe_and (pe_callB (call_isiA (K := K)) (by rfl) T.b_isinstance (by decide +kernel) (pa_cons (pv 0) (pa_cons (pe_bltn (v := .ty "int") (by rfl) T.b_int (by decide +kernel) rfl) pa_nil))) (pe_one (pe_not (pe_callB (call_isiA (K := K)) (by rfl) T.b_isinstance (by decide +kernel) (pa_cons (pv 0) (pa_cons (pe_bltn (v := .ty "bool") (by rfl) T.b_bool (by decide +kernel) rfl) pa_nil)))))))), ?_⟩
    try dsimp only [cxOf]
    refine w_start (show _ = [some _] from rfl) ?_
    walk_at "go"
    cases d <;> (walk_at "go"; exact q)
def spWord (K : PySem.W.Frag) : Sp := fun vs H Q _ => ∃ v d, vs = [v] ∧ Dp K H v d ∧ shortS d ∧ ∀ H', Same H H' → Q (.bl (isWord d)) H'
theorem ok_is_word {f : Addr} {fd : FuncData} (T : Facts w K mg CM) (F : Fun K "is_word" "is_word" s_is_word f fd) : FnOk P w K mg base CX0 1 f fd ["value"] (spWord K) := by
  refine F.ok sc_is_word (fun vs H Q E h => ?_) (fun cdv A outer s H vs Q E hr h => ?_)
  · obtain ⟨v, d, rfl, _⟩ := h
    rfl
  · obtain ⟨v, d, rfl, hd, hz, q⟩ := h
    refine ⟨_, (pss_cons (ps_if (PW.pt (pw_or (pt_not (pt_val (pe_callB (call_isiA (K := K)) (by rfl) T.b_isinstance (by decide +kernel) (pa_cons (pv 0) (pa_cons (pe_bltn (v := .ty "str") (by rfl) T.b_str (by decide +kernel) rfl) pa_nil))))) (pw_or (pt_not (pt_chain op_leA op_leA pe_int (pe_callB (call_lenA (K := K)) (by rfl) T.b_len (by decide +kernel) (pa_cons (pv 0) pa_nil)) (pe_gc (by rfl) T.c_MOST_WORD))) (pw_or1 (pt_cmpR (op_notInA (K := K)) (pe_ix (ix_A (K := K)) (pv 0) pe_int (fun _ _ => rfl)) (pe_gc (by rfl) T.c_LETTERS) (by rfl)))))) (pss_one (ps_ret pe_bl)) pss_nil)
    (pss_one (ps_ret (pe_callB (all_A (K := K) rfl) (by rfl) T.b_all (by decide +kernel) (pa_cons (pe_lc (own := [("sign", 1)]) (g := gName 1) (tt := tYes) rfl sc_is_word.nd (pi_A (K := K) (pv 0)) (blkOk_by (N := N_is_word) (sc := defScope s_is_word) (by decide +kernel)) (fun _ _ _ _ _ => pg_name (i := 1) sc_is_word.nd rfl (Or.inl rfl)) (fun _ _ _ _ _ => pts_nil) (fun _ _ _ _ _ => (pe_or (pe_cmpR (op_inA (K := K)) (pv 1) (pe_gc (by rfl) T.c_LETTERS) (by rfl)) (pe_one (pe_cmpR (op_inA (K := K)) (pv 1) (pe_gc (by rfl) T.c_DIGITS) (by rfl)))))) pa_nil))))), ?_⟩
    try dsimp only [cxOf]
    refine w_start (show _ = [some _, none] from rfl) ?_
    walk_at "go"
    have no : ∀ d, isStrD d = false → isWord d = false := by
      intro d h
      cases d <;> first | rfl | cases h
    cases hi : isStrD d with
    | false =>
      walk_at "go"
      rw [← no d hi]
      exact q H (Same.refl H)
    | true =>
      cases d with
      | str s =>
        cases hd
        have hs : s.length ≤ 1000000 := hz
        walk_at "go"
        have e1 := len_cps s
        by_cases h1 : 1 ≤ s.length
        · walk_at "go"
          by_cases h2 : s.length ≤ 12
          · walk_at "go"
            cases hl : s.cps.toList with
            | nil =>
              rw [hl] at e1
              simp at e1
              omega
            | cons c r =>
              refine w_ix_str (z := s) (n := 0) (c := c) (by omega) (by rw [hl]; exact atI_nat (j := 0) rfl) ?_
              walk_at "go"
              rw [let_mem]
              have hw : isWord (.str s) = (isLet c && s.cps.toList.all fun c => isLet c || isDig c) := by
                show isWordT s.cps.toList = _
                unfold isWordT
                rw [len_cps, decide_eq_true h1, decide_eq_true h2, hl]
                rfl
              cases hc : isLet c with
              | false =>
                walk_at "go"
                have := q H (Same.refl H)
                rw [hw, hc] at this
                exact this
              | true =>
                walk_at "go"
                refine w_lcS (x := s) (fun c => .bl (isLet c || isDig c)) rfl (by omega) (fun v => rfl) (fun c H1 hc1 e2 R hR => ?_) (fun D H2 n2 e2 hD => ?_)
                · show tOrV _ _ [some (V.str s), some (.str ⟨#[c]⟩)] H1 R
                  walk_at "go"
                  rw [let_mem]
                  cases h : isLet c with
                  | true =>
                    walk_at "go"
                    have := hR H1 (Same.refl H1)
                    rw [h] at this
                    exact this
                  | false =>
                    walk_at "go"
                    rw [dig_mem]
                    have := hR H1 (Same.refl H1)
                    rw [h] at this
                    exact this
                · walk_at "go"
                  refine w_all (bs := s.cps.toList.map fun c => isLet c || isDig c) ?_ ?_
                  · rw [List.map_map]
                    exact SqL.of hD
                  · have := q H2 e2
                    rw [hw, hc] at this
                    rw [List.all_map]
                    exact this
          · walk_at "go"
            have := q H (Same.refl H)
            have hw : isWord (.str s) = false := by
              show isWordT s.cps.toList = _
              unfold isWordT
              rw [len_cps, decide_eq_true h1, decide_eq_false h2]
              rfl
            rw [hw] at this
            exact this
        · walk_at "go"
          have := q H (Same.refl H)
          have hw : isWord (.str s) = false := by
            show isWordT s.cps.toList = _
            unfold isWordT
            rw [len_cps, decide_eq_false h1]
            rfl
          rw [hw] at this
          exact this
      | _ => cases hi
end
end K66

set_option exponentiation.threshold 256
set_option Elab.async false
set_option linter.all false
set_option maxRecDepth 100000
set_option maxHeartbeats 4000000
namespace K66
open PySem PySem.Spec PyProof.Rows L2 Lay DataM
local macro_rules | `(tactic| walk_at "1") => `(tactic| first
  | with_reducible refine w_seq ?_
  | ((with_reducible refine w_var (v := ?vv) ?hv ?_); (case hv => rfl))
  | with_reducible refine w_c ?_
  | with_reducible refine w_m1 ?_
  | with_reducible refine w_isstr ?_
  | with_reducible refine w_bm0 ?_
  | with_reducible refine w_bm ?_
  | with_reducible refine w_gcons ?_
  | with_reducible refine w_gnil ?_
  | ((with_reducible refine w_ty (xs := ?vv) ?hv ?_); (case hv => walk_at "hx"))
  | ((with_reducible refine w_gtup (xs := ?vv) ?hv ?hl ?_); (case hv => walk_at "hx"); (case hl => rfl))
  | with_reducible refine w_for1 ?_
  | with_reducible refine w_for2 ?_
  | with_reducible refine w_for3 ?_
  | with_reducible refine w_forA ?_
  | with_reducible refine w_forE ?_
  | ((with_reducible refine w_aug (x := ?vv) ?hv ?_); (case hv => rfl))
  | with_reducible refine w_op ?_
  | with_reducible refine w_cb ?_
  | with_reducible refine w_acons ?_
  | with_reducible refine w_anil ?_
  | with_reducible refine w_set ?_
  | with_reducible refine w_if ?_
  | with_reducible refine w_test ?_
  | with_reducible refine w_tB ?_
  | with_reducible refine w_bl ?_
  | with_reducible refine w_and ?_
  | with_reducible refine w_or ?_
  | with_reducible refine w_not ?_
  | with_reducible refine w_iteT ?_
  | with_reducible refine w_iteF ?_
  | with_reducible refine w_ret ?_
  | with_reducible refine w_next ?_
  | with_reducible refine w_drop ?_
  | with_reducible refine w_call ?_
  | with_reducible refine w_ifx ?_
  | with_reducible refine w_andV ?_
  | with_reducible refine w_orV ?_
  | with_reducible refine w_notV ?_
  | with_reducible refine w_sl ?_
  | with_reducible refine w_nopart ?_
  | with_reducible refine w_part ?_
  | with_reducible refine w_exint ?_
  | with_reducible refine w_chain ?_
  | with_reducible refine w_par ?_
  | with_reducible refine w_two ?_
  | with_reducible refine w_par3 ?_
  | with_reducible refine w_three ?_
  | with_reducible refine w_asg ?_
  | with_reducible refine w_gset ?_
  | with_reducible refine w_retN ?_
  | with_reducible refine w_brk ?_
  | with_reducible refine w_cont ?_
  | with_reducible refine w_un ?_
  | with_reducible refine w_neg ?_
  | with_reducible refine w_callS ?_
  | with_reducible refine w_tup0 ?_
  | with_reducible refine w_lst0 ?_
  | with_reducible refine w_fld0 ?_
  | with_reducible refine w_sfld ?_
  | with_reducible refine w_gsub ?_
  | with_reducible refine w_iAny ?_
  | with_reducible refine w_iR1 ?_
  | with_reducible refine w_make ?_
  | with_reducible refine w_meth ?_
  | with_reducible refine w_mk1 ?_)
local macro_rules | `(tactic| walk_at "2") => `(tactic| first
  | with_reducible refine w_add_int ?_
  | with_reducible refine w_sub ?_
  | ((with_reducible refine w_add_str ?hl ?_); (case hl => walk_at "len"))
  | ((with_reducible refine w_mod ?hl ?_); (case hl => first | decide | omega))
  | ((with_reducible refine w_fdiv ?h1 ?h2 ?_); (case h1 => first | decide | omega); (case h2 => first | decide | omega))
  | ((with_reducible refine w_mulR ?h1 ?h2 ?_); (case h1 => first | decide | omega); (case h2 => first | decide | omega))
  | ((with_reducible refine w_mulL ?h1 ?h2 ?_); (case h1 => first | decide | omega); (case h2 => first | decide | omega))
  | with_reducible refine w_iadd_int ?_
  | ((with_reducible refine w_iadd_str ?hl ?_); (case hl => walk_at "len"))
  | ((with_reducible refine w_mk ?hl ?_); (case hl => walk_at "len"))
  | with_reducible refine w_lt_int ?_
  | with_reducible refine w_lt_str ?_
  | with_reducible refine w_le_int ?_
  | with_reducible refine w_le_str ?_
  | with_reducible refine w_gt ?_
  | with_reducible refine w_ge ?_
  | with_reducible refine w_eq_int ?_
  | with_reducible refine w_eq_str ?_
  | with_reducible refine w_ne_int ?_
  | with_reducible refine w_ne_str ?_
  | ((with_reducible refine w_isInt (d := ?vd) ?hd ?_); (case hd => walk_at "dp"))
  | ((with_reducible refine w_isBool (d := ?vd) ?hd ?_); (case hd => walk_at "dp"))
  | ((with_reducible refine w_isStr (d := ?vd) ?hd ?_); (case hd => walk_at "dp"))
  | ((with_reducible refine w_isTup (d := ?vd) ?hd ?_); (case hd => walk_at "dp"))
  | ((with_reducible refine w_isLst (d := ?vd) ?hd ?_); (case hd => walk_at "dp"))
  | refine w_in_str ?_
  | refine w_nin_str ?_
  | ((with_reducible refine w_ixL (xs := ?vv) (y := ?vr) ?h ?ha ?_); (case h => walk_at "hx"); (case ha => rfl))
  | with_reducible refine w_is ?_
  | with_reducible refine w_isnot ?_
  | ((with_reducible refine w_len_str ?hl ?_); (case hl => walk_at "len"))
  | ((with_reducible refine w_len (xs := ?vv) ?hl ?_); (case hl => walk_at "hx"))
  | with_reducible refine w_int_int ?_
  | with_reducible refine w_str_str ?_
  | with_reducible refine w_abs ?_
  | ((with_reducible refine w_sl_str ?hl ?_); (case hl => walk_at "len"))
  | ((with_reducible refine w_fldAt (C := ?vC) (dx := ?vdx) (fs := ?vfs) (v := ?vv) ?h1 ?h2 ?h3 ?h4 ?_); (case h1 => walk_at "hx"); (case h2 => assumption); (case h3 => assumption); (case h4 => rfl))
  | ((with_reducible refine w_methAt (dx := ?vdx) (fs := ?vfs) ?h1 ?h2 ?_); (case h1 => walk_at "hx"); (case h2 => rfl))
  | ((with_reducible refine w_iteP ?h1 ?_); (case h1 => walk_at "yes"))
  | ((with_reducible refine w_iteN ?h1 ?_); (case h1 => walk_at "no")))
local macro_rules | `(tactic| walk_at "yes") => `(tactic| first | assumption | ((with_reducible refine bnotT ?_); walk_at "no") | (refine decide_eq_true ?_; first | assumption | omega) | exact rfl)
local macro_rules | `(tactic| walk_at "no") => `(tactic| first | assumption | ((with_reducible refine bnotF ?_); walk_at "yes") | (refine decide_eq_false ?_; first | assumption | omega) | exact rfl)
local macro_rules | `(tactic| walk_at "len") => `(tactic| first | assumption | exact Nat.le_of_ble_eq_true rfl | omega | decide | (simp only [List.length_append, List.length_cons, List.length_nil, List.length_map]; omega))
local macro_rules | `(tactic| walk_at "ne") => `(tactic| first | assumption | (refine Ne.symm ?_; assumption))
local macro_rules | `(tactic| walk_at "hx") => `(tactic| first
  | assumption
  | exact upd_same
  | ((with_reducible refine sqa_l ?_); walk_at "hx")
  | ((with_reducible refine sqa_t ?_); walk_at "hx")
  | ((with_reducible refine SqL.of ?_); walk_at "hx")
  | ((with_reducible refine SqT.of ?_); walk_at "hx")
  | ((with_reducible refine at_same (by assumption) ?_); walk_at "hx")
  | ((with_reducible refine at_but (by assumption) ?hne ?_); (case hne => walk_at "ne"); walk_at "hx")
  | ((with_reducible refine Txt.tup (by assumption) _ _ ?_); walk_at "hx")
  | ((with_reducible refine Same.seq (by assumption) ?_); walk_at "hx")
  | ((with_reducible refine Same.seqT (by assumption) ?_); walk_at "hx")
  | ((with_reducible refine Dp.same (by assumption) _ _ ?_); walk_at "hx")
  | ((with_reducible refine DpAll.same (by assumption) _ _ ?_); walk_at "hx"))
local macro_rules | `(tactic| walk_at "go") => `(tactic| repeat (first | walk_at "1" | walk_at "2"))
local macro_rules | `(tactic| walk_at "dp") => `(tactic| first | exact .int _ | exact .str _ | exact .bl _ | exact .non | walk_at "hx")

section
variable {P : Program} {w : World} {K : PySem.W.Frag} {mg : Str → Option Value} {base : Heap} {CM : Addr}
def spShort (K : PySem.W.Frag) : Sp := fun vs H Q _ => ∃ v d, vs = [v] ∧ Dp K H v d ∧ Q (.bl (isShort d)) H
def Mp (k : Nat) : Int := 10 ^ (32 * (k + 1))
theorem mp_step (k : Nat) : Mp k * 10 ^ 32 = Mp (k + 1) := by
  unfold Mp
  rw [← Int.pow_add]
  congr 1
theorem mp_lt {k : Nat} (h : k ≤ 124) : (Mp k).natAbs < 2 ^ 16001 := by
  unfold Mp
  rw [Int.natAbs_pow]
  have h1 : (10 : Int).natAbs ^ (32 * (k + 1)) ≤ 16 ^ (32 * (k + 1)) := Nat.pow_le_pow_left (by decide) _
  have h2 : 16 ^ (32 * (k + 1)) ≤ 16 ^ 4000 := Nat.pow_le_pow_right (by decide) (by omega)
  have h3 : (16 : Nat) ^ 4000 = 2 ^ 16000 := by rw [show (16 : Nat) = 2 ^ 4 from rfl, ← Nat.pow_mul]
  have h4 : (2 : Nat) ^ 16000 < 2 ^ 16001 := Nat.pow_lt_pow_right (by decide) (by decide)
  omega
theorem mp_ok {k : Nat} (h : k ≤ 124) : IntMulOk (Mp k) (10 ^ 32) :=
  (wide_mul (a := 16001) (b := 200) (mp_lt h) (by decide) (by decide) (by decide) (by decide)).ok
theorem mp_last : Mp 124 = ((10 ^ 4000 : Nat) : Int) := by
  unfold Mp
  rw [Int.natCast_pow]
  rfl
theorem mp_small {i : Int} (h1 : -Mp 0 < i) (h2 : i < Mp 0) : i.natAbs < 10 ^ 4000 := by
  have h3 : Mp 0 ≤ ((10 ^ 4000 : Nat) : Int) := by
    rw [← mp_last]
    unfold Mp
    rw [show ((10 : Int) ^ (32 * (0 + 1))) = ((10 ^ 32 : Nat) : Int) from rfl, show ((10 : Int) ^ (32 * (124 + 1))) = ((10 ^ 4000 : Nat) : Int) by rw [Int.natCast_pow] <;> rfl]
    exact Int.ofNat_le.mpr (Nat.pow_le_pow_right (by decide) (by decide))
  generalize (10 ^ 4000 : Nat) = B at h3 ⊢
  omega
theorem ok_is_short {f : Addr} {fd : FuncData} (T : Facts w K mg CM) (F : Fun K "is_short" "is_short" s_is_short f fd) (c_is_whole : Fn0 P w K mg base 1 "is_whole" (spWhole K)) : FnOk P w K mg base CX0 2 f fd ["value"] (spShort K) := by
  refine F.ok sc_is_short (fun vs H Q E h => ?_) (fun cdv A outer s H vs Q E hr h => ?_)
  · obtain ⟨v, d, rfl, _⟩ := h
    rfl
  · obtain ⟨v, d, rfl, hd, q⟩ := h
    refine ⟨_, (pss_cons (ps_if (pt_not (pt_val (pe_f0 c_is_whole hr (by first | decide | omega) (pa_cons (pv 0) pa_nil)))) (pss_one (ps_ret pe_bl)) pss_nil)
    (pss_cons (ps_set (i := 1) sc_is_short.nd rfl (by first | exact Or.inl rfl | exact Or.inr rfl) (pe_op op_powA pe_int pe_int))
    (pss_mid (ps_if (pt_chain op_ltA op_ltA (pe_un un_neg (pv 1)) (pv 0) (pv 1)) (pss_one (ps_ret pe_bl)) pss_nil)
    (pss_cons (ps_for PassesOwn.never rfl (pi_range1 (by rfl) T.b_range (pa_cons (pe_op op_subA (pe_op op_fdivA (pe_gc (by rfl) T.c_MOST_DIGITS) pe_int) pe_int) pa_nil)) (pg_name (i := 2) sc_is_short.nd rfl (by first | exact Or.inl rfl | exact Or.inr rfl)) (pss_one (ps_aug (i := 1) sc_is_short.nd rfl (by first | exact Or.inl rfl | exact Or.inr rfl) (pe_op op_powA pe_int pe_int) ip_mulA)))
    (pss_one (ps_ret (pe_chain op_ltA op_ltA (pe_un un_neg (pv 1)) (pv 0) (pv 1)))))))), ?_⟩
    try dsimp only [cxOf]
    refine w_start (show _ = [some _, none, none] from rfl) ?_
    walk_at "go"
    refine ⟨v, d, rfl, hd, ?_⟩
    walk_at "go"
    cases hi : isWhole d with
    | false =>
      walk_at "go"
      have e : isShort d = false := by
        cases d <;> first | rfl | cases hi
      rw [e] at q
      exact q
    | true =>
      cases d with
      | int i =>
        cases hd
        walk_at "go"
        refine w_pow ⟨by decide, by decide, by decide⟩ ?_
        walk_at "go"
        have fin : ∀ b : Bool, (b = decide (i.natAbs < 10 ^ 4000)) → Q (.bl b) H := fun b e => by
          rw [e]
          exact q
        refine w_mid (fun σ' H' => σ' = [some (.int i), some (.int (Mp 0)), none] ∧ H = H') ?_ ?_
        · walk_at "go"
          show if decide (-Mp 0 < i) = true then _ else _
          refine w_ite (fun h1 => ?_) (fun h1 => ?_)
          · walk_at "go"
            show if decide (i < Mp 0) = true then _ else _
            refine w_ite (fun h2 => ?_) (fun h2 => ?_)
            · walk_at "go"
              exact fin true (decide_eq_true (mp_small (of_decide_eq_true h1) (of_decide_eq_true h2))).symm
            · walk_at "go"
              exact ⟨rfl, rfl⟩
          · walk_at "go"
            exact ⟨rfl, rfl⟩
        · rintro σ' H' ⟨rfl, rfl⟩
          walk_at "go"
          refine r1_of (n := 124) rfl (by decide) ?_
          refine lp_range (fun k σ' H' => H = H' ∧ ∃ o, σ' = [some (.int i), some (.int (Mp k)), o]) ⟨rfl, none, rfl⟩ (fun k σ' H' hk p => ?_) (fun σ' H' p => ?_)
          · obtain ⟨rfl, o, rfl⟩ := p
            walk_at "go"
            refine w_pow ⟨by decide, by decide, by decide⟩ ?_
            refine w_imul (mp_ok (by omega)) ?_
            refine ⟨rfl, some (.int (k : Nat)), ?_⟩
            show [some (V.int i), some (.int (Mp k * 10 ^ 32)), some (V.int (k : Nat))] = _
            rw [mp_step]
          · obtain ⟨rfl, o, rfl⟩ := p
            walk_at "go"
            rw [mp_last]
            generalize hB : (10 ^ 4000 : Nat) = B at fin ⊢
            refine w_ite (fun h1 => ?_) (fun h1 => ?_)
            · have h1' := of_decide_eq_true h1
              walk_at "go"
              refine fin _ ?_
              congr 1
              apply propext
              omega
            · have h1' := of_decide_eq_false h1
              walk_at "go"
              refine fin _ (decide_eq_false ?_).symm
              omega
      | _ => cases hi
end
end K66

set_option exponentiation.threshold 256
set_option Elab.async false
set_option linter.all false
set_option maxRecDepth 100000
set_option maxHeartbeats 4000000
set_option exponentiation.threshold 10
namespace K66
open PySem PySem.Spec PyProof.Rows L2 Lay DataM
local macro_rules | `(tactic| walk_at "1") => `(tactic| first
  | with_reducible refine w_seq ?_
  | ((with_reducible refine w_var (v := ?vv) ?hv ?_); (case hv => rfl))
  | with_reducible refine w_c ?_
  | with_reducible refine w_m1 ?_
  | with_reducible refine w_isstr ?_
  | with_reducible refine w_bm0 ?_
  | with_reducible refine w_bm ?_
  | with_reducible refine w_gcons ?_
  | with_reducible refine w_gnil ?_
  | ((with_reducible refine w_ty (xs := ?vv) ?hv ?_); (case hv => walk_at "hx"))
  | ((with_reducible refine w_gtup (xs := ?vv) ?hv ?hl ?_); (case hv => walk_at "hx"); (case hl => rfl))
  | with_reducible refine w_for1 ?_
  | with_reducible refine w_for2 ?_
  | with_reducible refine w_for3 ?_
  | with_reducible refine w_forA ?_
  | with_reducible refine w_forE ?_
  | ((with_reducible refine w_aug (x := ?vv) ?hv ?_); (case hv => rfl))
  | with_reducible refine w_op ?_
  | with_reducible refine w_cb ?_
  | with_reducible refine w_acons ?_
  | with_reducible refine w_anil ?_
  | with_reducible refine w_set ?_
  | with_reducible refine w_if ?_
  | with_reducible refine w_test ?_
  | with_reducible refine w_tB ?_
  | with_reducible refine w_bl ?_
  | with_reducible refine w_and ?_
  | with_reducible refine w_or ?_
  | with_reducible refine w_not ?_
  | with_reducible refine w_iteT ?_
  | with_reducible refine w_iteF ?_
  | with_reducible refine w_ret ?_
  | with_reducible refine w_next ?_
  | with_reducible refine w_drop ?_
  | with_reducible refine w_call ?_
  | with_reducible refine w_ifx ?_
  | with_reducible refine w_andV ?_
  | with_reducible refine w_orV ?_
  | with_reducible refine w_notV ?_
  | with_reducible refine w_sl ?_
  | with_reducible refine w_nopart ?_
  | with_reducible refine w_part ?_
  | with_reducible refine w_exint ?_
  | with_reducible refine w_chain ?_
  | with_reducible refine w_par ?_
  | with_reducible refine w_two ?_
  | with_reducible refine w_par3 ?_
  | with_reducible refine w_three ?_
  | with_reducible refine w_asg ?_
  | with_reducible refine w_gset ?_
  | with_reducible refine w_retN ?_
  | with_reducible refine w_brk ?_
  | with_reducible refine w_cont ?_
  | with_reducible refine w_un ?_
  | with_reducible refine w_neg ?_
  | with_reducible refine w_callS ?_
  | with_reducible refine w_tup0 ?_
  | with_reducible refine w_lst0 ?_
  | with_reducible refine w_fld0 ?_
  | with_reducible refine w_sfld ?_
  | with_reducible refine w_gsub ?_
  | with_reducible refine w_iAny ?_
  | with_reducible refine w_iR1 ?_
  | with_reducible refine w_make ?_
  | with_reducible refine w_meth ?_
  | with_reducible refine w_mk1 ?_)
local macro_rules | `(tactic| walk_at "2") => `(tactic| first
  | with_reducible refine w_add_int ?_
  | with_reducible refine w_sub ?_
  | ((with_reducible refine w_add_str ?hl ?_); (case hl => walk_at "len"))
  | ((with_reducible refine w_mod ?hl ?_); (case hl => first | decide | omega))
  | ((with_reducible refine w_fdiv ?h1 ?h2 ?_); (case h1 => first | decide | omega); (case h2 => first | decide | omega))
  | ((with_reducible refine w_mulR ?h1 ?h2 ?_); (case h1 => first | decide | omega); (case h2 => first | decide | omega))
  | ((with_reducible refine w_mulL ?h1 ?h2 ?_); (case h1 => first | decide | omega); (case h2 => first | decide | omega))
  | with_reducible refine w_iadd_int ?_
  | ((with_reducible refine w_iadd_str ?hl ?_); (case hl => walk_at "len"))
  | ((with_reducible refine w_mk ?hl ?_); (case hl => walk_at "len"))
  | with_reducible refine w_lt_int ?_
  | with_reducible refine w_lt_str ?_
  | with_reducible refine w_le_int ?_
  | with_reducible refine w_le_str ?_
  | with_reducible refine w_gt ?_
  | with_reducible refine w_ge ?_
  | with_reducible refine w_eq_int ?_
  | with_reducible refine w_eq_str ?_
  | with_reducible refine w_ne_int ?_
  | with_reducible refine w_ne_str ?_
  | ((with_reducible refine w_isInt (d := ?vd) ?hd ?_); (case hd => walk_at "dp"))
  | ((with_reducible refine w_isBool (d := ?vd) ?hd ?_); (case hd => walk_at "dp"))
  | ((with_reducible refine w_isStr (d := ?vd) ?hd ?_); (case hd => walk_at "dp"))
  | ((with_reducible refine w_isTup (d := ?vd) ?hd ?_); (case hd => walk_at "dp"))
  | ((with_reducible refine w_isLst (d := ?vd) ?hd ?_); (case hd => walk_at "dp"))
  | refine w_in_str ?_
  | refine w_nin_str ?_
  | ((with_reducible refine w_ixL (xs := ?vv) (y := ?vr) ?h ?ha ?_); (case h => walk_at "hx"); (case ha => rfl))
  | with_reducible refine w_is ?_
  | with_reducible refine w_isnot ?_
  | ((with_reducible refine w_len_str ?hl ?_); (case hl => walk_at "len"))
  | ((with_reducible refine w_len (xs := ?vv) ?hl ?_); (case hl => walk_at "hx"))
  | with_reducible refine w_int_int ?_
  | with_reducible refine w_str_str ?_
  | with_reducible refine w_abs ?_
  | ((with_reducible refine w_sl_str ?hl ?_); (case hl => walk_at "len"))
  | ((with_reducible refine w_fldAt (C := ?vC) (dx := ?vdx) (fs := ?vfs) (v := ?vv) ?h1 ?h2 ?h3 ?h4 ?_); (case h1 => walk_at "hx"); (case h2 => assumption); (case h3 => assumption); (case h4 => rfl))
  | ((with_reducible refine w_methAt (dx := ?vdx) (fs := ?vfs) ?h1 ?h2 ?_); (case h1 => walk_at "hx"); (case h2 => rfl))
  | ((with_reducible refine w_iteP ?h1 ?_); (case h1 => walk_at "yes"))
  | ((with_reducible refine w_iteN ?h1 ?_); (case h1 => walk_at "no")))
local macro_rules | `(tactic| walk_at "yes") => `(tactic| first | assumption | ((with_reducible refine bnotT ?_); walk_at "no") | (refine decide_eq_true ?_; first | assumption | omega) | exact rfl)
local macro_rules | `(tactic| walk_at "no") => `(tactic| first | assumption | ((with_reducible refine bnotF ?_); walk_at "yes") | (refine decide_eq_false ?_; first | assumption | omega) | exact rfl)
local macro_rules | `(tactic| walk_at "len") => `(tactic| first | assumption | exact Nat.le_of_ble_eq_true rfl | omega | decide | (simp only [List.length_append, List.length_cons, List.length_nil, List.length_map]; omega))
local macro_rules | `(tactic| walk_at "ne") => `(tactic| first | assumption | (refine Ne.symm ?_; assumption))
local macro_rules | `(tactic| walk_at "hx") => `(tactic| first
  | assumption
  | exact upd_same
  | ((with_reducible refine sqa_l ?_); walk_at "hx")
  | ((with_reducible refine sqa_t ?_); walk_at "hx")
  | ((with_reducible refine SqL.of ?_); walk_at "hx")
  | ((with_reducible refine SqT.of ?_); walk_at "hx")
  | ((with_reducible refine at_same (by assumption) ?_); walk_at "hx")
  | ((with_reducible refine at_but (by assumption) ?hne ?_); (case hne => walk_at "ne"); walk_at "hx")
  | ((with_reducible refine Txt.tup (by assumption) _ _ ?_); walk_at "hx")
  | ((with_reducible refine Same.seq (by assumption) ?_); walk_at "hx")
  | ((with_reducible refine Same.seqT (by assumption) ?_); walk_at "hx")
  | ((with_reducible refine Dp.same (by assumption) _ _ ?_); walk_at "hx")
  | ((with_reducible refine DpAll.same (by assumption) _ _ ?_); walk_at "hx"))
local macro_rules | `(tactic| walk_at "go") => `(tactic| repeat (first | walk_at "1" | walk_at "2"))
local macro_rules | `(tactic| walk_at "dp") => `(tactic| first | exact .int _ | exact .str _ | exact .bl _ | exact .non | walk_at "hx")

section
variable {P : Program} {w : World} {K : PySem.W.Frag} {mg : Str → Option Value} {base : Heap} {CM : Addr}
def atomP : PyData → Option Str
  | .bool b => some (if b then "+" else "-")
  | .str s => if isWordT s.cps.toList then some s else if s = "" then some "." else none
  | .int i => if i.natAbs < 10 ^ 4000 then some (Str.ofString (toString i)) else none
  | _ => none
def spAtom (K : PySem.W.Frag) (CM : Addr) : Sp := fun vs H Q E => ∃ v d, vs = [v] ∧ Dp K H v d ∧ shortS d ∧ (∀ t, atomP d = some t → ∀ H', Same H H' → Q (.str t) H') ∧ (atomP d = none → Flt E CM H)
theorem pow43 : (10 : Nat) ^ 4000 ≤ 10 ^ 4300 := Nat.pow_le_pow_right (by decide) (by decide)
theorem ok_atom_text {f : Addr} {fd : FuncData} (T : Facts w K mg CM) (F : Fun K "atom_text" "atom_text" s_atom_text f fd) (c_is_word : Fn0 P w K mg base 1 "is_word" (spWord K)) (c_is_short : Fn0 P w K mg base 2 "is_short" (spShort K)) :
    FnOk P w K mg base (CXm true P w) 3 f fd ["value"] (spAtom K CM) := by
  refine okM F sc_atom_text (fun vs H Q E h => ?_) (fun cdv A outer s H vs Q E hr h => ?_)
  · obtain ⟨v, d, rfl, _⟩ := h
    rfl
  · obtain ⟨v, d, rfl, hd, hz, q1, q2⟩ := h
    refine ⟨_, (pss_cons (ps_if (pt_val (pe_callB (call_isiA (K := K)) (by rfl) T.b_isinstance (by decide +kernel) (pa_cons (pv 0) (pa_cons (pe_bltn (v := .ty "bool") (by rfl) T.b_bool (by decide +kernel) rfl) pa_nil)))) (pss_one (ps_ret (pe_ifExp (pt_val (pv 0)) pe_str pe_str))) pss_nil)
    (pss_cons (ps_if (PW.pt (pw_and (pt_not (pt_val (pe_f0 c_is_word hr (by first | decide | omega) (pa_cons (pv 0) pa_nil)))) (pw_and (pt_not (pt_val (pe_f0 c_is_short hr (by first | decide | omega) (pa_cons (pv 0) pa_nil)))) (pw_and1 (pt_not (PW.pt (pw_and (pt_val (pe_callB (call_isiA (K := K)) (by rfl) T.b_isinstance (by decide +kernel) (pa_cons (pv 0) (pa_cons (pe_bltn (v := .ty "str") (by rfl) T.b_str (by decide +kernel) rfl) pa_nil)))) (pw_and1 (pt_cmpR (op_eqA (K := K) hr.units) (pv 0) pe_str (nomark _)))))))))) (pss_one (ps_raiseM rfl (tk_of rfl rfl rfl rfl) (mk_txt PySem.F.excBase_ValueError T.x_Malformed T.g_Malformed T.k_Malformed (raises_own T.s_Malformed T.t_Malformed) pe_str (by rfl)))) pss_nil)
    (pss_one (ps_ret (pe_ifExp (pt_cmpR (op_neA (K := K) hr.units) (pv 0) pe_str (nomark _)) (pe_callTy (call_strA rfl T.digits) (by rfl) T.b_str (by decide +kernel) (pa_cons (pv 0) pa_nil)) pe_str))))), ?_⟩
    try dsimp only [cxOf]
    refine w_start (show _ = [some _] from rfl) ?_
    walk_at "go"
    cases hb : isBoolD d with
    | true =>
      cases d with
      | bool b =>
        cases hd
        walk_at "go"
        cases b with
        | true =>
          walk_at "go"
          exact q1 _ rfl H (Same.refl H)
        | false =>
          walk_at "go"
          exact q1 _ rfl H (Same.refl H)
      | _ => cases hb
    | false =>
      walk_at "go"
      refine ⟨v, d, rfl, hd, hz, fun H1 e1 => ?_⟩
      have hd1 := Dp.same e1 d v hd
      walk_at "go"
      cases d with
      | bool b => cases hb
      | str s =>
        cases hd
        cases hw : isWordT s.cps.toList with
        | true =>
          have hw' : isWord (.str s) = true := hw
          walk_at "go"
          have hn : ¬ s = "" := by
            intro z
            rw [z] at hw
            exact absurd hw (by decide)
          walk_at "go"
          exact q1 s (by show (if isWordT s.cps.toList = true then some s else _) = some s; rw [if_pos hw]) H1 e1
        | false =>
          have hw' : isWord (.str s) = false := hw
          walk_at "go"
          refine ⟨_, _, rfl, .str s, ?_⟩
          have hs : isShort (.str s) = false := rfl
          walk_at "go"
          by_cases hn : s = ""
          · subst hn
            walk_at "go"
            exact q1 "." rfl H1 e1
          · walk_at "go"
            refine w_flt (by decide) (q2 ?_) e1
            show (if isWordT s.cps.toList = true then some s else if s = "" then some "." else none) = none
            rw [hw, if_neg Bool.false_ne_true, if_neg hn]
      | int i =>
        cases hd
        have hw' : isWord (.int i) = false := rfl
        walk_at "go"
        refine ⟨_, _, rfl, .int i, ?_⟩
        by_cases hs : i.natAbs < 10 ^ 4000
        · have hs' : isShort (.int i) = true := decide_eq_true hs
          walk_at "go"
          refine .inl ⟨rfl, ?_⟩
          walk_at "go"
          refine w_str_int (Nat.lt_of_lt_of_le hs pow43) ?_
          exact q1 _ (if_pos hs) H1 e1
        · have hs' : isShort (.int i) = false := decide_eq_false hs
          walk_at "go"
          exact w_flt (by decide) (q2 (if_neg hs)) e1
      | none =>
        cases hd
        have hw' : isWord .none = false := rfl
        walk_at "go"
        refine ⟨_, _, rfl, .non, ?_⟩
        have hs' : isShort .none = false := rfl
        walk_at "go"
        exact w_flt (by decide) (q2 rfl) e1
      | list ds =>
        have hw' : isWord (.list ds) = false := rfl
        walk_at "go"
        refine ⟨_, _, rfl, hd1, ?_⟩
        have hs' : isShort (.list ds) = false := rfl
        walk_at "go"
        exact w_flt (by decide) (q2 rfl) e1
      | tuple ds =>
        have hw' : isWord (.tuple ds) = false := rfl
        walk_at "go"
        refine ⟨_, _, rfl, hd1, ?_⟩
        have hs' : isShort (.tuple ds) = false := rfl
        walk_at "go"
        exact w_flt (by decide) (q2 rfl) e1
      | dict _ => cases hd
end
end K66

set_option exponentiation.threshold 256
set_option Elab.async false
set_option linter.all false
set_option maxRecDepth 100000
set_option maxHeartbeats 4000000
set_option exponentiation.threshold 10
namespace K66
open PySem PySem.Spec PyProof.Rows L2 Lay DataM
local macro_rules | `(tactic| walk_at "1") => `(tactic| first
  | with_reducible refine w_seq ?_
  | ((with_reducible refine w_var (v := ?vv) ?hv ?_); (case hv => rfl))
  | with_reducible refine w_c ?_
  | with_reducible refine w_m1 ?_
  | with_reducible refine w_isstr ?_
  | with_reducible refine w_bm0 ?_
  | with_reducible refine w_bm ?_
  | with_reducible refine w_gcons ?_
  | with_reducible refine w_gnil ?_
  | ((with_reducible refine w_ty (xs := ?vv) ?hv ?_); (case hv => walk_at "hx"))
  | ((with_reducible refine w_gtup (xs := ?vv) ?hv ?hl ?_); (case hv => walk_at "hx"); (case hl => rfl))
  | with_reducible refine w_for1 ?_
  | with_reducible refine w_for2 ?_
  | with_reducible refine w_for3 ?_
  | with_reducible refine w_forA ?_
  | with_reducible refine w_forE ?_
  | ((with_reducible refine w_aug (x := ?vv) ?hv ?_); (case hv => rfl))
  | with_reducible refine w_op ?_
  | with_reducible refine w_cb ?_
  | with_reducible refine w_acons ?_
  | with_reducible refine w_anil ?_
  | with_reducible refine w_set ?_
  | with_reducible refine w_if ?_
  | with_reducible refine w_test ?_
  | with_reducible refine w_tB ?_
  | with_reducible refine w_bl ?_
  | with_reducible refine w_and ?_
  | with_reducible refine w_or ?_
  | with_reducible refine w_not ?_
  | with_reducible refine w_iteT ?_
  | with_reducible refine w_iteF ?_
  | with_reducible refine w_ret ?_
  | with_reducible refine w_next ?_
  | with_reducible refine w_drop ?_
  | with_reducible refine w_call ?_
  | with_reducible refine w_ifx ?_
  | with_reducible refine w_andV ?_
  | with_reducible refine w_orV ?_
  | with_reducible refine w_notV ?_
  | with_reducible refine w_sl ?_
  | with_reducible refine w_nopart ?_
  | with_reducible refine w_part ?_
  | with_reducible refine w_exint ?_
  | with_reducible refine w_chain ?_
  | with_reducible refine w_par ?_
  | with_reducible refine w_two ?_
  | with_reducible refine w_par3 ?_
  | with_reducible refine w_three ?_
  | with_reducible refine w_asg ?_
  | with_reducible refine w_gset ?_
  | with_reducible refine w_retN ?_
  | with_reducible refine w_brk ?_
  | with_reducible refine w_cont ?_
  | with_reducible refine w_un ?_
  | with_reducible refine w_neg ?_
  | with_reducible refine w_callS ?_
  | with_reducible refine w_tup0 ?_
  | with_reducible refine w_lst0 ?_
  | with_reducible refine w_fld0 ?_
  | with_reducible refine w_sfld ?_
  | with_reducible refine w_gsub ?_
  | with_reducible refine w_iAny ?_
  | with_reducible refine w_iR1 ?_
  | with_reducible refine w_make ?_
  | with_reducible refine w_meth ?_
  | with_reducible refine w_mk1 ?_)
local macro_rules | `(tactic| walk_at "2") => `(tactic| first
  | with_reducible refine w_add_int ?_
  | with_reducible refine w_sub ?_
  | ((with_reducible refine w_add_str ?hl ?_); (case hl => walk_at "len"))
  | ((with_reducible refine w_mod ?hl ?_); (case hl => first | decide | omega))
  | ((with_reducible refine w_fdiv ?h1 ?h2 ?_); (case h1 => first | decide | omega); (case h2 => first | decide | omega))
  | ((with_reducible refine w_mulR ?h1 ?h2 ?_); (case h1 => first | decide | omega); (case h2 => first | decide | omega))
  | ((with_reducible refine w_mulL ?h1 ?h2 ?_); (case h1 => first | decide | omega); (case h2 => first | decide | omega))
  | with_reducible refine w_iadd_int ?_
  | ((with_reducible refine w_iadd_str ?hl ?_); (case hl => walk_at "len"))
  | ((with_reducible refine w_mk ?hl ?_); (case hl => walk_at "len"))
  | with_reducible refine w_lt_int ?_
  | with_reducible refine w_lt_str ?_
  | with_reducible refine w_le_int ?_
  | with_reducible refine w_le_str ?_
  | with_reducible refine w_gt ?_
  | with_reducible refine w_ge ?_
  | with_reducible refine w_eq_int ?_
  | with_reducible refine w_eq_str ?_
  | with_reducible refine w_ne_int ?_
  | with_reducible refine w_ne_str ?_
  | ((with_reducible refine w_isInt (d := ?vd) ?hd ?_); (case hd => walk_at "dp"))
  | ((with_reducible refine w_isBool (d := ?vd) ?hd ?_); (case hd => walk_at "dp"))
  | ((with_reducible refine w_isStr (d := ?vd) ?hd ?_); (case hd => walk_at "dp"))
  | ((with_reducible refine w_isTup (d := ?vd) ?hd ?_); (case hd => walk_at "dp"))
  | ((with_reducible refine w_isLst (d := ?vd) ?hd ?_); (case hd => walk_at "dp"))
  | refine w_in_str ?_
  | refine w_nin_str ?_
  | ((with_reducible refine w_ixL (xs := ?vv) (y := ?vr) ?h ?ha ?_); (case h => walk_at "hx"); (case ha => rfl))
  | with_reducible refine w_is ?_
  | with_reducible refine w_isnot ?_
  | ((with_reducible refine w_len_str ?hl ?_); (case hl => walk_at "len"))
  | ((with_reducible refine w_len (xs := ?vv) ?hl ?_); (case hl => walk_at "hx"))
  | with_reducible refine w_int_int ?_
  | with_reducible refine w_str_str ?_
  | with_reducible refine w_abs ?_
  | ((with_reducible refine w_sl_str ?hl ?_); (case hl => walk_at "len"))
  | ((with_reducible refine w_fldAt (C := ?vC) (dx := ?vdx) (fs := ?vfs) (v := ?vv) ?h1 ?h2 ?h3 ?h4 ?_); (case h1 => walk_at "hx"); (case h2 => assumption); (case h3 => assumption); (case h4 => rfl))
  | ((with_reducible refine w_methAt (dx := ?vdx) (fs := ?vfs) ?h1 ?h2 ?_); (case h1 => walk_at "hx"); (case h2 => rfl))
  | ((with_reducible refine w_iteP ?h1 ?_); (case h1 => walk_at "yes"))
  | ((with_reducible refine w_iteN ?h1 ?_); (case h1 => walk_at "no")))
local macro_rules | `(tactic| walk_at "yes") => `(tactic| first | assumption | ((with_reducible refine bnotT ?_); walk_at "no") | (refine decide_eq_true ?_; first | assumption | omega) | exact rfl)
local macro_rules | `(tactic| walk_at "no") => `(tactic| first | assumption | ((with_reducible refine bnotF ?_); walk_at "yes") | (refine decide_eq_false ?_; first | assumption | omega) | exact rfl)
local macro_rules | `(tactic| walk_at "len") => `(tactic| first | assumption | exact Nat.le_of_ble_eq_true rfl | omega | decide | (simp only [List.length_append, List.length_cons, List.length_nil, List.length_map]; omega))
local macro_rules | `(tactic| walk_at "ne") => `(tactic| first | assumption | (refine Ne.symm ?_; assumption))
local macro_rules | `(tactic| walk_at "hx") => `(tactic| first
  | assumption
  | exact upd_same
  | ((with_reducible refine sqa_l ?_); walk_at "hx")
  | ((with_reducible refine sqa_t ?_); walk_at "hx")
  | ((with_reducible refine SqL.of ?_); walk_at "hx")
  | ((with_reducible refine SqT.of ?_); walk_at "hx")
  | ((with_reducible refine at_same (by assumption) ?_); walk_at "hx")
  | ((with_reducible refine at_but (by assumption) ?hne ?_); (case hne => walk_at "ne"); walk_at "hx")
  | ((with_reducible refine Txt.tup (by assumption) _ _ ?_); walk_at "hx")
  | ((with_reducible refine Same.seq (by assumption) ?_); walk_at "hx")
  | ((with_reducible refine Same.seqT (by assumption) ?_); walk_at "hx")
  | ((with_reducible refine Dp.same (by assumption) _ _ ?_); walk_at "hx")
  | ((with_reducible refine DpAll.same (by assumption) _ _ ?_); walk_at "hx"))
local macro_rules | `(tactic| walk_at "go") => `(tactic| repeat (first | walk_at "1" | walk_at "2"))
local macro_rules | `(tactic| walk_at "dp") => `(tactic| first | exact .int _ | exact .str _ | exact .bl _ | exact .non | walk_at "hx")

mutual
def wrd : PyData → Nat → Option Tx
  | .tuple ds, n => if n ≤ 1000 then (wrdj ds (n + 1)).map fun l => 91 :: (l ++ [93]) else none
  | .bool b, _ => (atomP (.bool b)).map fun s => s.cps.toList
  | .int i, _ => (atomP (.int i)).map fun s => s.cps.toList
  | .str s, _ => (atomP (.str s)).map fun s => s.cps.toList
  | .none, _ => none
  | .list _, _ => none
  | .dict _, _ => none
def wrdj : List PyData → Nat → Option Tx
  | [], _ => some []
  | d :: ds, n => (wrd d n).bind fun a => (wrdj ds n).map fun b => if ds.isEmpty then a else a ++ 44 :: b
end
mutual
def siz : PyData → Nat
  | .tuple ds => sizs ds + 2
  | _ => 1
def sizs : List PyData → Nat
  | [] => 0
  | d :: ds => siz d + 1 + sizs ds
end
mutual
def fitS : PyData → Prop
  | .tuple ds => fitSs ds
  | .str s => s.length ≤ 1000000
  | _ => True
def fitSs : List PyData → Prop
  | [] => True
  | d :: ds => fitS d ∧ fitSs ds
end
theorem fitS_short : ∀ {d : PyData}, fitS d → shortS d
  | .str s, h => h
  | .none, _ | .bool _, _ | .int _, _ | .list _, _ | .tuple _, _ | .dict _, _ => trivial
theorem fitSs_get : ∀ {ds : List PyData} {i : Nat} {d : PyData}, fitSs ds → ds[i]? = some d → fitS d
  | [], i, d, _, e => by simp at e
  | a :: ds, 0, d, h, e => by
    simp at e
    subst e
    simp only [fitSs] at h
    exact h.1
  | a :: ds, i + 1, d, h, e => by
    simp only [fitSs] at h
    exact fitSs_get (i := i) h.2 (by simpa using e)
inductive Wk where
  | lit (s : Str)
  | dat (d : PyData) (n : Nat)
def Wk.out : Wk → Option Tx
  | .lit s => some s.cps.toList
  | .dat d n => wrd d n
def den : List Wk → Option Tx
  | [] => some []
  | w :: ws => w.out.bind fun a => (den ws).map fun b => a ++ b
def Wk.mu : Wk → Nat
  | .lit _ => 1
  | .dat d _ => siz d
def mus : List Wk → Nat
  | [] => 0
  | w :: ws => w.mu + mus ws
def more (n : Nat) : List PyData → List Wk
  | [] => []
  | d :: ds => .lit "," :: .dat d n :: more n ds
def items (n : Nat) : List PyData → List Wk
  | [] => []
  | d :: ds => .dat d n :: more n ds
theorem den_append : ∀ (a b : List Wk), den (a ++ b) = (den a).bind fun x => (den b).map fun y => x ++ y
  | [], b => by
    show den b = _
    cases den b <;> rfl
  | w :: a, b => by
    rw [List.cons_append]
    simp only [den]
    rw [den_append a b]
    cases w.out with
    | none => rfl
    | some x =>
      cases den a with
      | none => rfl
      | some y =>
        cases den b with
        | none => rfl
        | some z => simp
theorem mus_append : ∀ (a b : List Wk), mus (a ++ b) = mus a + mus b
  | [], b => by simp [mus]
  | w :: a, b => by
    show w.mu + mus (a ++ b) = w.mu + mus a + mus b
    rw [mus_append a b]
    omega
theorem den_more (n : Nat) : ∀ ds : List PyData, den (more n ds) = if ds.isEmpty then some [] else (wrdj ds n).map fun l => 44 :: l
  | [] => rfl
  | d :: ds => by
    show (Wk.lit ",").out.bind _ = _
    simp only [den, Wk.out, den_more n ds, wrdj]
    cases wrd d n with
    | none => rfl
    | some a =>
      cases ds with
      | nil =>
        simp [wrdj]
        rfl
      | cons d2 ds =>
        cases h : wrdj (d2 :: ds) n with
        | none => rfl
        | some b => simp; rfl
theorem den_items (n : Nat) : ∀ ds : List PyData, den (items n ds) = wrdj ds n
  | [] => rfl
  | d :: ds => by
    simp only [items, den, Wk.out, den_more, wrdj]
    cases wrd d n with
    | none => rfl
    | some a =>
      cases ds with
      | nil => simp [wrdj]
      | cons d2 ds =>
        cases h : wrdj (d2 :: ds) n with
        | none => rfl
        | some b => simp
theorem mus_more (n : Nat) : ∀ ds : List PyData, mus (more n ds) = sizs ds
  | [] => rfl
  | d :: ds => by
    simp only [more, mus, Wk.mu, mus_more n ds, sizs]
    omega
theorem mus_items (n : Nat) : ∀ ds : List PyData, mus (items n ds) ≤ sizs ds
  | [] => Nat.le_refl _
  | d :: ds => by
    simp only [items, mus, Wk.mu, mus_more, sizs]
    omega
theorem siz_pos : ∀ d : PyData, 1 ≤ siz d
  | .tuple ds => by simp only [siz]; omega
  | .none | .bool _ | .int _ | .str _ | .list _ | .dict _ => by simp [siz]
theorem mus_len : ∀ ws : List Wk, ws.length ≤ mus ws
  | [] => Nat.le_refl _
  | w :: ws => by
    have := mus_len ws
    cases w with
    | lit s => simp only [List.length_cons, mus, Wk.mu]; omega
    | dat d n =>
      have := siz_pos d
      simp only [List.length_cons, mus, Wk.mu]
      omega
def Aim (goal : Option Tx) (found : Tx) (ws : List Wk) : Prop := (den ws).map (fun r => found ++ r) = goal
theorem Aim.tup {goal : Option Tx} {found : Tx} {ds : List PyData} {n : Nat} {ws : List Wk} (hn : n ≤ 1000) (h : Aim goal found (.dat (.tuple ds) n :: ws)) : Aim goal (found ++ [91]) (items (n + 1) ds ++ .lit "]" :: ws) := by
  unfold Aim at h ⊢
  rw [← h, den_append, den_items]
  simp only [den, Wk.out, wrd, if_pos hn]
  cases wrdj ds (n + 1) with
  | none => rfl
  | some l =>
    cases den ws with
    | none => rfl
    | some r =>
      have e : (Str.ofString "]").cps.toList = [93] := rfl
      simp [e]
theorem Aim.step {goal : Option Tx} {found a : Tx} {w : Wk} {ws : List Wk} (hw : w.out = some a) (h : Aim goal found (w :: ws)) : Aim goal (found ++ a) ws := by
  unfold Aim at h ⊢
  rw [← h]
  simp only [den, hw]
  cases den ws with
  | none => rfl
  | some r => simp
theorem Aim.stop {goal : Option Tx} {found : Tx} {w : Wk} {ws : List Wk} (hw : w.out = none) (h : Aim goal found (w :: ws)) : goal = none := by
  unfold Aim at h
  rw [← h]
  simp [den, hw]
theorem wrd_big {ds : List PyData} {n : Nat} (h : ¬ n ≤ 1000) : wrd (.tuple ds) n = none := by
  simp only [wrd, if_neg h]
theorem wrd_atom {d : PyData} {n : Nat} (h : isTupD d = false) : wrd d n = (atomP d).map fun s => s.cps.toList := by
  cases d <;> first | rfl | cases h
theorem foldl_app : ∀ (l : List Str) (a : Array Nat), (l.foldl (fun acc s => acc ++ s.cps) a).toList = a.toList ++ (l.map fun s => s.cps.toList).flatten
  | [], a => by simp
  | s :: l, a => by
    rw [List.foldl_cons, foldl_app l]
    simp
end K66

set_option exponentiation.threshold 256
set_option Elab.async false
set_option linter.all false
set_option maxRecDepth 100000
set_option maxHeartbeats 4000000
set_option exponentiation.threshold 10
namespace K66
open PySem PySem.Spec PyProof.Rows L2 Lay DataM
local macro_rules | `(tactic| walk_at "1") => `(tactic| first
  | with_reducible refine w_seq ?_
  | ((with_reducible refine w_var (v := ?vv) ?hv ?_); (case hv => rfl))
  | with_reducible refine w_c ?_
  | with_reducible refine w_m1 ?_
  | with_reducible refine w_isstr ?_
  | with_reducible refine w_bm0 ?_
  | with_reducible refine w_bm ?_
  | with_reducible refine w_gcons ?_
  | with_reducible refine w_gnil ?_
  | ((with_reducible refine w_ty (xs := ?vv) ?hv ?_); (case hv => walk_at "hx"))
  | ((with_reducible refine w_gtup (xs := ?vv) ?hv ?hl ?_); (case hv => walk_at "hx"); (case hl => rfl))
  | with_reducible refine w_for1 ?_
  | with_reducible refine w_for2 ?_
  | with_reducible refine w_for3 ?_
  | with_reducible refine w_forA ?_
  | with_reducible refine w_forE ?_
  | ((with_reducible refine w_aug (x := ?vv) ?hv ?_); (case hv => rfl))
  | with_reducible refine w_op ?_
  | with_reducible refine w_cb ?_
  | with_reducible refine w_acons ?_
  | with_reducible refine w_anil ?_
  | with_reducible refine w_set ?_
  | with_reducible refine w_if ?_
  | with_reducible refine w_test ?_
  | with_reducible refine w_tB ?_
  | with_reducible refine w_bl ?_
  | with_reducible refine w_and ?_
  | with_reducible refine w_or ?_
  | with_reducible refine w_not ?_
  | with_reducible refine w_iteT ?_
  | with_reducible refine w_iteF ?_
  | with_reducible refine w_ret ?_
  | with_reducible refine w_next ?_
  | with_reducible refine w_drop ?_
  | with_reducible refine w_call ?_
  | with_reducible refine w_ifx ?_
  | with_reducible refine w_andV ?_
  | with_reducible refine w_orV ?_
  | with_reducible refine w_notV ?_
  | with_reducible refine w_sl ?_
  | with_reducible refine w_nopart ?_
  | with_reducible refine w_part ?_
  | with_reducible refine w_exint ?_
  | with_reducible refine w_chain ?_
  | with_reducible refine w_par ?_
  | with_reducible refine w_two ?_
  | with_reducible refine w_par3 ?_
  | with_reducible refine w_three ?_
  | with_reducible refine w_asg ?_
  | with_reducible refine w_gset ?_
  | with_reducible refine w_retN ?_
  | with_reducible refine w_brk ?_
  | with_reducible refine w_cont ?_
  | with_reducible refine w_un ?_
  | with_reducible refine w_neg ?_
  | with_reducible refine w_callS ?_
  | with_reducible refine w_tup0 ?_
  | with_reducible refine w_lst0 ?_
  | with_reducible refine w_fld0 ?_
  | with_reducible refine w_sfld ?_
  | with_reducible refine w_gsub ?_
  | with_reducible refine w_iAny ?_
  | with_reducible refine w_iR1 ?_
  | with_reducible refine w_make ?_
  | with_reducible refine w_meth ?_
  | with_reducible refine w_mk1 ?_)
local macro_rules | `(tactic| walk_at "2") => `(tactic| first
  | with_reducible refine w_add_int ?_
  | with_reducible refine w_sub ?_
  | ((with_reducible refine w_add_str ?hl ?_); (case hl => walk_at "len"))
  | ((with_reducible refine w_mod ?hl ?_); (case hl => first | decide | omega))
  | ((with_reducible refine w_fdiv ?h1 ?h2 ?_); (case h1 => first | decide | omega); (case h2 => first | decide | omega))
  | ((with_reducible refine w_mulR ?h1 ?h2 ?_); (case h1 => first | decide | omega); (case h2 => first | decide | omega))
  | ((with_reducible refine w_mulL ?h1 ?h2 ?_); (case h1 => first | decide | omega); (case h2 => first | decide | omega))
  | with_reducible refine w_iadd_int ?_
  | ((with_reducible refine w_iadd_str ?hl ?_); (case hl => walk_at "len"))
  | ((with_reducible refine w_mk ?hl ?_); (case hl => walk_at "len"))
  | with_reducible refine w_lt_int ?_
  | with_reducible refine w_lt_str ?_
  | with_reducible refine w_le_int ?_
  | with_reducible refine w_le_str ?_
  | with_reducible refine w_gt ?_
  | with_reducible refine w_ge ?_
  | with_reducible refine w_eq_int ?_
  | with_reducible refine w_eq_str ?_
  | with_reducible refine w_ne_int ?_
  | with_reducible refine w_ne_str ?_
  | ((with_reducible refine w_isInt (d := ?vd) ?hd ?_); (case hd => walk_at "dp"))
  | ((with_reducible refine w_isBool (d := ?vd) ?hd ?_); (case hd => walk_at "dp"))
  | ((with_reducible refine w_isStr (d := ?vd) ?hd ?_); (case hd => walk_at "dp"))
  | ((with_reducible refine w_isTup (d := ?vd) ?hd ?_); (case hd => walk_at "dp"))
  | ((with_reducible refine w_isLst (d := ?vd) ?hd ?_); (case hd => walk_at "dp"))
  | refine w_in_str ?_
  | refine w_nin_str ?_
  | ((with_reducible refine w_ixL (xs := ?vv) (y := ?vr) ?h ?ha ?_); (case h => walk_at "hx"); (case ha => rfl))
  | with_reducible refine w_is ?_
  | with_reducible refine w_isnot ?_
  | ((with_reducible refine w_len_str ?hl ?_); (case hl => walk_at "len"))
  | ((with_reducible refine w_len (xs := ?vv) ?hl ?_); (case hl => walk_at "hx"))
  | with_reducible refine w_int_int ?_
  | with_reducible refine w_str_str ?_
  | with_reducible refine w_abs ?_
  | ((with_reducible refine w_sl_str ?hl ?_); (case hl => walk_at "len"))
  | ((with_reducible refine w_fldAt (C := ?vC) (dx := ?vdx) (fs := ?vfs) (v := ?vv) ?h1 ?h2 ?h3 ?h4 ?_); (case h1 => walk_at "hx"); (case h2 => assumption); (case h3 => assumption); (case h4 => rfl))
  | ((with_reducible refine w_methAt (dx := ?vdx) (fs := ?vfs) ?h1 ?h2 ?_); (case h1 => walk_at "hx"); (case h2 => rfl))
  | ((with_reducible refine w_iteP ?h1 ?_); (case h1 => walk_at "yes"))
  | ((with_reducible refine w_iteN ?h1 ?_); (case h1 => walk_at "no")))
local macro_rules | `(tactic| walk_at "yes") => `(tactic| first | assumption | ((with_reducible refine bnotT ?_); walk_at "no") | (refine decide_eq_true ?_; first | assumption | omega) | exact rfl)
local macro_rules | `(tactic| walk_at "no") => `(tactic| first | assumption | ((with_reducible refine bnotF ?_); walk_at "yes") | (refine decide_eq_false ?_; first | assumption | omega) | exact rfl)
local macro_rules | `(tactic| walk_at "len") => `(tactic| first | assumption | exact Nat.le_of_ble_eq_true rfl | omega | decide | (simp only [List.length_append, List.length_cons, List.length_nil, List.length_map]; omega))
local macro_rules | `(tactic| walk_at "ne") => `(tactic| first | assumption | (refine Ne.symm ?_; assumption))
local macro_rules | `(tactic| walk_at "hx") => `(tactic| first
  | assumption
  | exact upd_same
  | ((with_reducible refine sqa_l ?_); walk_at "hx")
  | ((with_reducible refine sqa_t ?_); walk_at "hx")
  | ((with_reducible refine SqL.of ?_); walk_at "hx")
  | ((with_reducible refine SqT.of ?_); walk_at "hx")
  | ((with_reducible refine at_same (by assumption) ?_); walk_at "hx")
  | ((with_reducible refine at_but (by assumption) ?hne ?_); (case hne => walk_at "ne"); walk_at "hx")
  | ((with_reducible refine Txt.tup (by assumption) _ _ ?_); walk_at "hx")
  | ((with_reducible refine Same.seq (by assumption) ?_); walk_at "hx")
  | ((with_reducible refine Same.seqT (by assumption) ?_); walk_at "hx")
  | ((with_reducible refine Dp.same (by assumption) _ _ ?_); walk_at "hx")
  | ((with_reducible refine DpAll.same (by assumption) _ _ ?_); walk_at "hx"))
local macro_rules | `(tactic| walk_at "go") => `(tactic| repeat (first | walk_at "1" | walk_at "2"))
local macro_rules | `(tactic| walk_at "dp") => `(tactic| first | exact .int _ | exact .str _ | exact .bl _ | exact .non | walk_at "hx")

section
variable {P : Program} {w : World} {K : PySem.W.Frag} {mg : Str → Option Value} {base : Heap} {CM : Addr}
inductive WkAt (K : PySem.W.Frag) (H0 H : Hp) : V → Wk → Prop
  | lit {t : Addr} {s : Str} (h : H t = some (.tup [.str s, .int 0])) : WkAt K H0 H (.ref t) (.lit s)
  | dat {t : Addr} {u : V} {d : PyData} {n : Nat} (h : H t = some (.tup [u, .int (n : Nat)])) (hn : 1 ≤ n) (hd : Dp K H0 u d) (hf : fitS d) : WkAt K H0 H (.ref t) (.dat d n)
theorem WkAt.txt {H0 H H' : Hp} {v : V} {k : Wk} (e : Txt H H') (h : WkAt K H0 H v k) : WkAt K H0 H' v k := by
  cases h with
  | lit h => exact .lit (e.tup _ _ h)
  | dat h hn hd hf => exact .dat (e.tup _ _ h) hn hd hf
abbrev WksAt (K : PySem.W.Frag) (H0 H : Hp) : List V → List Wk → Prop := Paired (WkAt K H0 H)
theorem WksAt.txt {H0 H H' : Hp} {vs : List V} {ks : List Wk} (e : Txt H H') (h : WksAt K H0 H vs ks) : WksAt K H0 H' vs ks := Paired.mapP h fun _ _ q => q.txt e
def spWrite (K : PySem.W.Frag) (CM : Addr) : Sp := fun vs H Q E => ∃ v d, vs = [v] ∧ Dp K H v d ∧ fitS d ∧ siz d ≤ 1000000 ∧ (∀ l, wrd d 1 = some l → l.length ≤ 10000000) ∧
  (∀ l, wrd d 1 = some l → ∀ H', Same H H' → Q (.str ⟨l.toArray⟩) H') ∧ (wrd d 1 = none → Flt E CM H)
theorem len_sizs : ∀ ds : List PyData, ds.length ≤ sizs ds
  | [] => Nat.le_refl _
  | d :: ds => by
    have := len_sizs ds
    simp only [List.length_cons, sizs]
    omega
def WI (K : PySem.W.Frag) (H : Hp) (d : PyData) (v : V) (pw pf : Addr) (ws : List Wk) (σ : L2.St) (H' : Hp) : Prop := ∃ vs, ∃ parts : List Str, (∃ o1 o2 o3, σ = [some v, some (.ref pw), some (.ref pf), o1, o2, o3]) ∧ Same H H' ∧ H' pw = some (.lst vs.reverse) ∧ WksAt K H H' vs ws ∧
  H' pf = some (.lst (parts.map V.str)) ∧ Aim (wrd d 1) (parts.map fun s => s.cps.toList).flatten ws ∧ parts.length + mus ws ≤ siz d
theorem isTup_ex {d : PyData} (h : isTupD d = true) : ∃ ds, d = .tuple ds := by
  cases d with
  | tuple ds => exact ⟨ds, rfl⟩
  | _ => cases h
def stk (n : Nat) (ds : List PyData) (i : Nat) : List Wk := if i < ds.length then more (n + 1) (ds.drop (ds.length - i)) else items (n + 1) ds
theorem stk_zero (n : Nat) (ds : List PyData) : stk n ds 0 = [] := by
  unfold stk
  split
  · rw [Nat.sub_zero, List.drop_length]
    rfl
  · cases ds with
    | nil => rfl
    | cons d ds => simp at *
theorem stk_last (n : Nat) (ds : List PyData) : stk n ds ds.length = items (n + 1) ds := if_neg (Nat.lt_irrefl _)
theorem stk_more {n : Nat} {ds : List PyData} {i : Nat} {d : PyData} (h : i + 1 < ds.length) (hd : ds[ds.length - 1 - i]? = some d) : stk n ds (i + 1) = .lit "," :: .dat d (n + 1) :: stk n ds i := by
  unfold stk
  rw [if_pos h, if_pos (by omega)]
  have e : ds.drop (ds.length - (i + 1)) = d :: ds.drop (ds.length - i) := by
    have e1 : ds.length - (i + 1) = ds.length - 1 - i := by omega
    have e2 : ds.length - i = ds.length - 1 - i + 1 := by omega
    obtain ⟨hl, hg⟩ := List.getElem?_eq_some_iff.mp hd
    rw [e1, e2, List.drop_eq_getElem_cons hl, hg]
  rw [e]
  rfl
theorem stk_end {n : Nat} {ds : List PyData} {i : Nat} {d : PyData} (h : i + 1 = ds.length) (hd : ds[ds.length - 1 - i]? = some d) : stk n ds (i + 1) = .dat d (n + 1) :: stk n ds i := by
  unfold stk
  rw [if_neg (by omega), if_pos (by omega)]
  have e : ds = d :: ds.drop (ds.length - i) := by
    have e1 : ds.length - 1 - i = 0 := by omega
    have e2 : ds.length - i = 1 := by omega
    rw [e1] at hd
    rw [e2]
    cases ds with
    | nil => simp at hd
    | cons a ds =>
      simp at hd
      rw [hd]
      rfl
  conv => lhs; rw [e]
  rfl
theorem sizs_drop : ∀ (ds : List PyData) (k : Nat), sizs (ds.drop k) ≤ sizs ds
  | [], k => by simp
  | d :: ds, 0 => Nat.le_refl _
  | d :: ds, k + 1 => by
    have := sizs_drop ds k
    simp only [List.drop_succ_cons, sizs]
    omega
theorem mus_stk (n : Nat) (ds : List PyData) (i : Nat) : mus (stk n ds i) ≤ sizs ds := by
  unfold stk
  split
  · rw [mus_more]
    exact sizs_drop _ _
  · exact mus_items _ _
theorem ok_write_data {f : Addr} {fd : FuncData} (T : Facts w K mg CM) (F : Fun K "write_data" "write_data" s_write_data f fd) (c_atom_text : FnM true P w K mg base 3 "atom_text" (spAtom K CM)) :
    FnOk P w K mg base (CXm true P w) 4 f fd ["data"] (spWrite K CM) := by
  refine okM F sc_write_data (fun vs H Q E h => ?_) (fun cdv A outer s H vs Q E hr h => ?_)
  · obtain ⟨v, d, rfl, _⟩ := h
    rfl
  · obtain ⟨v, d, rfl, hd, hf, hz, hl, q1, q2⟩ := h
    refine ⟨_, (pss_cons (ps_par (i := 1) (j := 2) rfl sc_write_data.nd rfl rfl (by decide) rfl rfl (pa_cons (pe_lstG (pa_cons (pe_tupG (pa_cons (pv 0) (pa_cons pe_int pa_nil))) pa_nil)) (pa_cons (pe_lstG pa_nil) pa_nil)) (by rfl))
    (pss_cons (ps_while (passes_of rfl) (pt_cmpR op_gtA (pe_callB (call_lenA (K := K)) (by rfl) T.b_len (by decide +kernel) (pa_cons (pv 1) pa_nil)) pe_int (nomark _)) (pss_cons (ps_asg (pe_bm0 PySem.F.plainAttrs_list PySem.F.slot_list_pop PySem.F.type_list_pop mt_pop (pv 1)) (tup_A (K := K) (n := 2) rfl (pgs_cons (pg_name (i := 3) sc_write_data.nd rfl (by first | exact Or.inl rfl | exact Or.inr rfl)) (pgs_cons (pg_name (i := 4) sc_write_data.nd rfl (by first | exact Or.inl rfl | exact Or.inr rfl)) pgs_nil))))
    (pss_one (ps_if (pt_cmpR (op_eqA (K := K) hr.units) (pv 4) pe_int (nomark _)) (pss_one (ps_expr (pe_bm PySem.F.plainAttrs_list PySem.F.slot_list_append PySem.F.type_list_append mt_append (pv 2) (pa_cons (pv 3) pa_nil)))) (pss_one (ps_if (PW.pt (pw_and (pt_val (pe_callB (call_isiA (K := K)) (by rfl) T.b_isinstance (by decide +kernel) (pa_cons (pv 3) (pa_cons (pe_bltn (v := .ty "tuple") (by rfl) T.b_tuple (by decide +kernel) rfl) pa_nil)))) (pw_and1 (pt_cmpR op_leA (pv 4) (pe_gc (by rfl) T.c_MOST_DEPTH) (nomark _))))) (pss_cons (ps_expr (pe_bm PySem.F.plainAttrs_list PySem.F.slot_list_append PySem.F.type_list_append mt_append (pv 2) (pa_cons pe_str pa_nil)))
    (pss_cons (ps_expr (pe_bm PySem.F.plainAttrs_list PySem.F.slot_list_append PySem.F.type_list_append mt_append (pv 1) (pa_cons (pe_tupG (pa_cons pe_str (pa_cons pe_int pa_nil))) pa_nil)))
    (pss_one (ps_for (passes_of rfl) rfl (pi_range3 (by rfl) T.b_range (pa_cons (pe_op op_subA (pe_callB (call_lenA (K := K)) (by rfl) T.b_len (by decide +kernel) (pa_cons (pv 3) pa_nil)) pe_int) (pa_cons (pe_un un_neg pe_int) (pa_cons (pe_un un_neg pe_int) pa_nil)))) (pg_name (i := 5) sc_write_data.nd rfl (by first | exact Or.inl rfl | exact Or.inr rfl)) (pss_cons (ps_expr (pe_bm PySem.F.plainAttrs_list PySem.F.slot_list_append PySem.F.type_list_append mt_append (pv 1) (pa_cons (pe_tupG (pa_cons (pe_ix (ix_A (K := K)) (pv 3) (pv 5) (fun _ _ => rfl)) (pa_cons (pe_op op_addA (pv 4) pe_int) pa_nil))) pa_nil)))
    (pss_one (ps_if (pt_cmpR op_gtA (pv 5) pe_int (nomark _)) (pss_one (ps_expr (pe_bm PySem.F.plainAttrs_list PySem.F.slot_list_append PySem.F.type_list_append mt_append (pv 1) (pa_cons (pe_tupG (pa_cons pe_str (pa_cons pe_int pa_nil))) pa_nil)))) pss_nil))))))) (pss_one (ps_expr (pe_bm PySem.F.plainAttrs_list PySem.F.slot_list_append PySem.F.type_list_append mt_append (pv 2) (pa_cons (pe_fc c_atom_text hr (by first | decide | omega) (passM (c' := true) (tk_of rfl rfl rfl rfl) (.inl rfl) (fun _ _ _ _ h => h)) (pa_cons (pv 3) pa_nil)) pa_nil))))))))))
    (pss_one (ps_ret (join_A (K := K) pe_str (pv 2)))))), ?_⟩
    try dsimp only [cxOf]
    refine w_start (show _ = [some _, none, none, none, none, none] from rfl) ?_
    walk_at "go"
    intro t H1 n1 e1 h1
    walk_at "go"
    intro pw H2 n2 e2 h2
    walk_at "go"
    intro pf H3 n3 e3 h3
    walk_at "go"
    have np : H pw = none := none_same e1 n2
    have nf : H pf = none := none_same (e1.trans e2) n3
    have npf : pf ≠ pw := fun z => by
      rw [z, h2] at n3
      cases n3
    have e3' : Same H H3 := (e1.trans e2).trans e3
    refine w_while ⟨fun m σ' H' => ∃ ws, m = mus ws ∧ WI K H d v pw pf ws σ' H',
      ⟨siz d, [.dat d 1], rfl, [.ref t], [], ⟨none, none, none, rfl⟩, e3', e3 _ _ h2, .cons (.dat (n := 1) (e3 _ _ (e2 _ _ h1)) (Nat.le_refl _) hd hf) .nil, h3, ?_, ?_⟩, fun m σ' H' z => ?_⟩
    · simp [Aim, den, Wk.out]
    · simp [mus, Wk.mu]
    · obtain ⟨ws, rfl, vs, parts, ⟨o1, o2, o3, rfl⟩, e, hw, hk, hp, aim, hsz⟩ := z
      have hlw := mus_len ws
      have hlv := hk.length
      walk_at "go"
      cases hk with
      | nil =>
        walk_at "go"
        have ht : wrd d 1 = some (parts.map fun s => s.cps.toList).flatten := by
          rw [← aim]
          simp [den]
        have hle := hl _ ht
        have hsum : (parts.map (·.length)).sum + parts.length * (Str.ofString "").length ≤ 10000000 := by
          rw [← join_len]
          exact hle
        refine w_join (ys := parts) (.inl (SqL.of hp)) hsum ?_
        have ej : Txt.join (Str.ofString "") parts = ⟨(parts.map fun s => s.cps.toList).flatten.toArray⟩ := str_ext (join_flat parts)
        rw [ej]
        exact q1 _ ht _ e
      | @cons v1 k1 vs ws r1 hk =>
        have hpos : decide ((0 : Int) < (((v1 :: vs).reverse.length : Nat) : Int)) = true := decide_eq_true (by simp)
        walk_at "go"
        have hw' : H' pw = some (.lst (vs.reverse ++ [v1])) := by
          rw [hw, List.reverse_cons]
        refine ⟨fun σ2 H2 => ∃ ws2, mus ws2 < mus (k1 :: ws) ∧ WI K H d v pw pf ws2 σ2 H2, fun σ2 H2 z => ?_, ?_⟩
        · obtain ⟨ws2, hm, r⟩ := z
          exact ⟨_, hm, ws2, rfl, r⟩
        · walk_at "go"
          refine w_popG hw' fun H4 b4 t4 hw4 => ?_
          have e4 := same_but e b4 np
          have hp4 := b4 _ _ npf hp
          have hk4 := WksAt.txt t4 hk
          have finW : ∀ (s0 : Str) H5, But pf H4 H5 → Txt H4 H5 → H5 pf = some (.lst (parts.map V.str ++ [.str s0])) → k1.out = some s0.cps.toList → 1 ≤ k1.mu → ∀ a b c, ∃ ws2, mus ws2 < mus (k1 :: ws) ∧ WI K H d v pw pf ws2 [some v, some (.ref pw), some (.ref pf), a, b, c] H5 := fun s0 H5 b5 t5 hp5 ho hm a b c => by
            refine ⟨ws, ?_, vs, parts ++ [s0], ⟨_, _, _, rfl⟩, same_but e4 b5 nf, b5 _ _ (Ne.symm npf) hw4, WksAt.txt t5 hk4, ?_, ?_, ?_⟩
            · simp only [mus]
              omega
            · rw [hp5, List.map_append]
              rfl
            · rw [List.map_append, List.flatten_append]
              have := Aim.step (a := s0.cps.toList) ho aim
              simpa using this
            · simp only [mus, List.length_append, List.length_singleton] at hsz ⊢
              omega
          cases WkAt.txt t4 r1 with
          | @lit tt s0 ht =>
            walk_at "go"
            refine w_appG hp4 (by rw [List.length_map]; omega) fun H5 b5 t5 hp5 => ?_
            exact finW s0 H5 b5 t5 hp5 rfl (Nat.le_refl _) _ _ _
          | @dat tt u d2 n2 ht hn2 hd2 hf2 =>
            have hne : decide ((n2 : Int) = 0) = false := decide_eq_false (by omega)
            have hd4 := Dp.same e4 d2 u hd2
            have atom : isTupD d2 = false ∨ ¬ n2 ≤ 1000 → ∀ QQ : VK, (∀ (s0 : Str) H5, Same H4 H5 → wrd d2 n2 = some s0.cps.toList → QQ (.str s0) H5) → (wrd d2 n2 = none → Flt E CM H4) → spAtom K CM [u] H4 QQ E := fun hz QQ g1 g2 => by
              refine ⟨u, d2, rfl, hd4, fitS_short hf2, fun s0 hs H5 e5 => g1 s0 H5 e5 ?_, fun hs => g2 ?_⟩
              · cases ht : isTupD d2 with
                | false => rw [wrd_atom ht, hs] <;> rfl
                | true =>
                  obtain ⟨ds, rfl⟩ := isTup_ex ht
                  cases hs
              · cases ht : isTupD d2 with
                | false => rw [wrd_atom ht, hs] <;> rfl
                | true =>
                  rcases hz with hz | hz
                  · rw [ht] at hz
                    cases hz
                  · obtain ⟨ds, rfl⟩ := isTup_ex ht
                    exact wrd_big hz
            have atomT : ∀ (s0 : Str) H5, Same H4 H5 → wrd d2 n2 = some s0.cps.toList → rAppend (.ref pf) [.str s0] H5 fun x H1 => ∃ ws2, mus ws2 < mus (Wk.dat d2 n2 :: ws) ∧ WI K H d v pw pf ws2 [some v, some (.ref pw), some (.ref pf), some u, some (.int (n2 : Nat)), o3] H1 := fun s0 H5 e5 hs => by
              refine w_appG (e5 _ _ hp4) (by rw [List.length_map]; omega) fun H6 b6 t6 hp6 => ?_
              exact finW s0 H6 ((But.same e5).trans b6) ((Txt.same e5).trans t6) hp6 hs (siz_pos d2) _ _ _
            have atomF : wrd d2 n2 = none → Flt E CM H4 := fun hs => (q2 (Aim.stop (w := .dat d2 n2) hs aim)).go e4
            walk_at "go"
            cases hT : isTupD d2 with
            | false =>
              walk_at "go"
              exact atom (.inl hT) _ (fun s0 H5 e5 hs => by
                walk_at "go"
                exact atomT s0 H5 e5 hs) atomF
            | true =>
              cases d2 with
              | tuple ds =>
                walk_at "go"
                refine w_ite (fun hb => ?_) (fun hb => ?_)
                · have hb' : n2 ≤ 1000 := by
                    have := of_decide_eq_true hb
                    omega
                  walk_at "go"
                  refine w_appG hp4 (by rw [List.length_map]; omega) fun H5 b5 t5 hp5 => ?_
                  walk_at "go"
                  intro tb H6 n6 e6 h6
                  walk_at "go"
                  have hw6 := e6 _ _ (b5 _ _ (Ne.symm npf) hw4)
                  refine w_appG hw6 (by simp at hlv hlw ⊢; omega) fun H7 b7 t7 hw7 => ?_
                  have e7 : Same H H7 := same_but ((same_but e4 b5 nf).trans e6) b7 np
                  have hp7 := b7 _ _ npf (e6 _ _ hp5)
                  have hk7 : WksAt K H H7 (.ref tb :: vs) (.lit "]" :: ws) := .cons (.lit (t7.tup _ _ h6)) (WksAt.txt t7 (WksAt.txt (Txt.same e6) (WksAt.txt t5 hk4)))
                  cases hd2 with
                  | @tup a xs _ hs0 ha0 =>
                  have hs7 := Same.seqT e7 hs0
                  have hlx := DpAll.length ha0
                  have hms := fun i => mus_stk n2 ds i
                  have hfs : fitSs ds := by simpa only [fitS] using hf2
                  have hsz2 : parts.length + (sizs ds + 2 + mus ws) ≤ siz d := by simpa only [mus, Wk.mu, siz] using hsz
                  have hwl := mus_len ws
                  have hvw : vs.length = ws.length := hk4.length
                  have hdl : ds.length ≤ sizs ds := by
                    have h1 := hms ds.length
                    clear h1
                    exact len_sizs ds
                  walk_at "go"
                  refine r3_down (by omega) ?_
                  refine lp_rangeC (fun i σ' H' => i ≤ xs.length ∧ ∃ vs2, (∃ o, σ' = [some v, some (.ref pw), some (.ref pf), some (.ref a), some (.int (n2 : Nat)), o]) ∧ Same H H' ∧ H' pw = some (.lst vs2.reverse) ∧ WksAt K H H' vs2 (stk n2 ds i ++ .lit "]" :: ws) ∧
                    H' pf = some (.lst ((parts ++ [Str.ofString "["]).map V.str))) ⟨Nat.zero_le _, .ref tb :: vs, ⟨_, rfl⟩, e7, ?_, ?_, ?_⟩ (fun i σ' H' hi z => ?_) (fun σ' H' z => ?_)
                  · rw [hw7, List.reverse_cons]
                  · rw [stk_zero]
                    exact hk7
                  · rw [hp7, List.map_append]
                    rfl
                  · obtain ⟨_, vs2, ⟨o, rfl⟩, e8, hw8, hk8, hp8⟩ := z
                    have hs8 := Same.seqT e8 hs0
                    have hkl := hk8.length
                    have hm8 := hms i
                    have hl8 := mus_len (stk n2 ds i)
                    have hkl2 : vs2.length = (stk n2 ds i).length + (ws.length + 1) := by simpa using hkl
                    have hidx : (xs.length : Int) - 1 + (i : Nat) * -1 = ((ds.length - 1 - i : Nat) : Int) := by omega
                    rw [hidx]
                    obtain ⟨dk, hdk⟩ : ∃ dk, ds[ds.length - 1 - i]? = some dk := ⟨_, List.getElem?_eq_getElem (by omega)⟩
                    obtain ⟨vk, hvk, hdvk⟩ := DpAll.getD ha0 hdk
                    walk_at "go"
                    refine w_ix (.inr hs8) (atI_nat hvk) ?_
                    walk_at "go"
                    intro tk H9 n9 e9 h9
                    walk_at "go"
                    refine w_appG (e9 _ _ hw8) (by rw [List.length_reverse]; omega) fun HA bA tA hwA => ?_
                    have hpA := bA _ _ npf (e9 _ _ hp8)
                    have eA := same_but (e8.trans e9) bA np
                    have hkA : WksAt K H HA (.ref tk :: vs2) (.dat dk (n2 + 1) :: (stk n2 ds i ++ .lit "]" :: ws)) := .cons (.dat (tA.tup _ _ h9) (by omega) hdvk (fitSs_get hfs hdk)) (WksAt.txt tA (WksAt.txt (Txt.same e9) hk8))
                    have hwA2 : HA pw = some (.lst (V.ref tk :: vs2).reverse) := by rw [hwA, List.reverse_cons]
                    walk_at "go"
                    refine w_ite (fun hb2 => ?_) (fun hb2 => ?_)
                    · have hlt : i + 1 < ds.length := by
                        have := of_decide_eq_true hb2
                        omega
                      walk_at "go"
                      intro tc HB nB eB hB
                      walk_at "go"
                      refine w_appG (eB _ _ hwA2) (by rw [List.length_reverse, List.length_cons]; omega) fun HC bC tC hwC => ?_
                      refine ⟨by omega, .ref tc :: .ref tk :: vs2, ⟨_, rfl⟩, same_but (eA.trans eB) bC np, ?_, ?_, bC _ _ npf (eB _ _ hpA)⟩
                      · rw [hwC]
                        simp
                      · rw [stk_more hlt hdk]
                        exact .cons (.lit (tC.tup _ _ hB)) (WksAt.txt tC (WksAt.txt (Txt.same eB) hkA))
                    · have hlt : i + 1 = ds.length := by
                        have := of_decide_eq_false hb2
                        omega
                      walk_at "go"
                      refine ⟨by omega, .ref tk :: vs2, ⟨_, rfl⟩, eA, hwA2, ?_, hpA⟩
                      rw [stk_end hlt hdk]
                      exact hkA
                  · obtain ⟨_, vs2, ⟨o, rfl⟩, e8, hw8, hk8, hp8⟩ := z
                    rw [hlx, stk_last] at hk8
                    have hmi := mus_items (n2 + 1) ds
                    refine ⟨items (n2 + 1) ds ++ .lit "]" :: ws, ?_, vs2, parts ++ [Str.ofString "["], ⟨_, _, _, rfl⟩, e8, hw8, hk8, hp8, ?_, ?_⟩
                    · rw [mus_append]
                      simp only [mus, Wk.mu, siz]
                      omega
                    · rw [List.map_append, List.flatten_append]
                      exact Aim.tup hb' aim
                    · rw [mus_append, List.length_append]
                      simp only [mus, Wk.mu, List.length_singleton]
                      omega
                · have hb' : ¬ n2 ≤ 1000 := by
                    have := of_decide_eq_false hb
                    omega
                  walk_at "go"
                  exact atom (.inr hb') _ (fun s0 H5 e5 hs => by
                    walk_at "go"
                    exact atomT s0 H5 e5 hs) atomF
              | _ => cases hT
end
end K66

set_option exponentiation.threshold 256
set_option Elab.async false
set_option linter.all false
set_option maxRecDepth 100000
set_option maxHeartbeats 4000000
set_option exponentiation.threshold 10
namespace K66
open PySem PySem.Spec PyProof.Rows L2 Lay DataM PySem.NumText
local macro_rules | `(tactic| walk_at "1") => `(tactic| first
  | with_reducible refine w_seq ?_
  | ((with_reducible refine w_var (v := ?vv) ?hv ?_); (case hv => rfl))
  | with_reducible refine w_c ?_
  | with_reducible refine w_m1 ?_
  | with_reducible refine w_isstr ?_
  | with_reducible refine w_bm0 ?_
  | with_reducible refine w_bm ?_
  | with_reducible refine w_gcons ?_
  | with_reducible refine w_gnil ?_
  | ((with_reducible refine w_ty (xs := ?vv) ?hv ?_); (case hv => walk_at "hx"))
  | ((with_reducible refine w_gtup (xs := ?vv) ?hv ?hl ?_); (case hv => walk_at "hx"); (case hl => rfl))
  | with_reducible refine w_for1 ?_
  | with_reducible refine w_for2 ?_
  | with_reducible refine w_for3 ?_
  | with_reducible refine w_forA ?_
  | with_reducible refine w_forE ?_
  | ((with_reducible refine w_aug (x := ?vv) ?hv ?_); (case hv => rfl))
  | with_reducible refine w_op ?_
  | with_reducible refine w_cb ?_
  | with_reducible refine w_acons ?_
  | with_reducible refine w_anil ?_
  | with_reducible refine w_set ?_
  | with_reducible refine w_if ?_
  | with_reducible refine w_test ?_
  | with_reducible refine w_tB ?_
  | with_reducible refine w_bl ?_
  | with_reducible refine w_and ?_
  | with_reducible refine w_or ?_
  | with_reducible refine w_not ?_
  | with_reducible refine w_iteT ?_
  | with_reducible refine w_iteF ?_
  | with_reducible refine w_ret ?_
  | with_reducible refine w_next ?_
  | with_reducible refine w_drop ?_
  | with_reducible refine w_call ?_
  | with_reducible refine w_ifx ?_
  | with_reducible refine w_andV ?_
  | with_reducible refine w_orV ?_
  | with_reducible refine w_notV ?_
  | with_reducible refine w_sl ?_
  | with_reducible refine w_nopart ?_
  | with_reducible refine w_part ?_
  | with_reducible refine w_exint ?_
  | with_reducible refine w_chain ?_
  | with_reducible refine w_par ?_
  | with_reducible refine w_two ?_
  | with_reducible refine w_par3 ?_
  | with_reducible refine w_three ?_
  | with_reducible refine w_asg ?_
  | with_reducible refine w_gset ?_
  | with_reducible refine w_retN ?_
  | with_reducible refine w_brk ?_
  | with_reducible refine w_cont ?_
  | with_reducible refine w_un ?_
  | with_reducible refine w_neg ?_
  | with_reducible refine w_callS ?_
  | with_reducible refine w_tup0 ?_
  | with_reducible refine w_lst0 ?_
  | with_reducible refine w_fld0 ?_
  | with_reducible refine w_sfld ?_
  | with_reducible refine w_gsub ?_
  | with_reducible refine w_iAny ?_
  | with_reducible refine w_iR1 ?_
  | with_reducible refine w_make ?_
  | with_reducible refine w_meth ?_
  | with_reducible refine w_mk1 ?_)
local macro_rules | `(tactic| walk_at "2") => `(tactic| first
  | with_reducible refine w_add_int ?_
  | with_reducible refine w_sub ?_
  | ((with_reducible refine w_add_str ?hl ?_); (case hl => walk_at "len"))
  | ((with_reducible refine w_mod ?hl ?_); (case hl => first | decide | omega))
  | ((with_reducible refine w_fdiv ?h1 ?h2 ?_); (case h1 => first | decide | omega); (case h2 => first | decide | omega))
  | ((with_reducible refine w_mulR ?h1 ?h2 ?_); (case h1 => first | decide | omega); (case h2 => first | decide | omega))
  | ((with_reducible refine w_mulL ?h1 ?h2 ?_); (case h1 => first | decide | omega); (case h2 => first | decide | omega))
  | with_reducible refine w_iadd_int ?_
  | ((with_reducible refine w_iadd_str ?hl ?_); (case hl => walk_at "len"))
  | ((with_reducible refine w_mk ?hl ?_); (case hl => walk_at "len"))
  | with_reducible refine w_lt_int ?_
  | with_reducible refine w_lt_str ?_
  | with_reducible refine w_le_int ?_
  | with_reducible refine w_le_str ?_
  | with_reducible refine w_gt ?_
  | with_reducible refine w_ge ?_
  | with_reducible refine w_eq_int ?_
  | with_reducible refine w_eq_str ?_
  | with_reducible refine w_ne_int ?_
  | with_reducible refine w_ne_str ?_
  | ((with_reducible refine w_isInt (d := ?vd) ?hd ?_); (case hd => walk_at "dp"))
  | ((with_reducible refine w_isBool (d := ?vd) ?hd ?_); (case hd => walk_at "dp"))
  | ((with_reducible refine w_isStr (d := ?vd) ?hd ?_); (case hd => walk_at "dp"))
  | ((with_reducible refine w_isTup (d := ?vd) ?hd ?_); (case hd => walk_at "dp"))
  | ((with_reducible refine w_isLst (d := ?vd) ?hd ?_); (case hd => walk_at "dp"))
  | refine w_in_str ?_
  | refine w_nin_str ?_
  | ((with_reducible refine w_ixL (xs := ?vv) (y := ?vr) ?h ?ha ?_); (case h => walk_at "hx"); (case ha => rfl))
  | with_reducible refine w_is ?_
  | with_reducible refine w_isnot ?_
  | ((with_reducible refine w_len_str ?hl ?_); (case hl => walk_at "len"))
  | ((with_reducible refine w_len (xs := ?vv) ?hl ?_); (case hl => walk_at "hx"))
  | with_reducible refine w_int_int ?_
  | with_reducible refine w_str_str ?_
  | with_reducible refine w_abs ?_
  | ((with_reducible refine w_sl_str ?hl ?_); (case hl => walk_at "len"))
  | ((with_reducible refine w_fldAt (C := ?vC) (dx := ?vdx) (fs := ?vfs) (v := ?vv) ?h1 ?h2 ?h3 ?h4 ?_); (case h1 => walk_at "hx"); (case h2 => assumption); (case h3 => assumption); (case h4 => rfl))
  | ((with_reducible refine w_methAt (dx := ?vdx) (fs := ?vfs) ?h1 ?h2 ?_); (case h1 => walk_at "hx"); (case h2 => rfl))
  | ((with_reducible refine w_iteP ?h1 ?_); (case h1 => walk_at "yes"))
  | ((with_reducible refine w_iteN ?h1 ?_); (case h1 => walk_at "no")))
local macro_rules | `(tactic| walk_at "yes") => `(tactic| first | assumption | ((with_reducible refine bnotT ?_); walk_at "no") | (refine decide_eq_true ?_; first | assumption | omega) | exact rfl)
local macro_rules | `(tactic| walk_at "no") => `(tactic| first | assumption | ((with_reducible refine bnotF ?_); walk_at "yes") | (refine decide_eq_false ?_; first | assumption | omega) | exact rfl)
local macro_rules | `(tactic| walk_at "len") => `(tactic| first | assumption | exact Nat.le_of_ble_eq_true rfl | omega | decide | (simp only [List.length_append, List.length_cons, List.length_nil, List.length_map]; omega))
local macro_rules | `(tactic| walk_at "ne") => `(tactic| first | assumption | (refine Ne.symm ?_; assumption))
local macro_rules | `(tactic| walk_at "hx") => `(tactic| first
  | assumption
  | exact upd_same
  | ((with_reducible refine sqa_l ?_); walk_at "hx")
  | ((with_reducible refine sqa_t ?_); walk_at "hx")
  | ((with_reducible refine SqL.of ?_); walk_at "hx")
  | ((with_reducible refine SqT.of ?_); walk_at "hx")
  | ((with_reducible refine at_same (by assumption) ?_); walk_at "hx")
  | ((with_reducible refine at_but (by assumption) ?hne ?_); (case hne => walk_at "ne"); walk_at "hx")
  | ((with_reducible refine Txt.tup (by assumption) _ _ ?_); walk_at "hx")
  | ((with_reducible refine Same.seq (by assumption) ?_); walk_at "hx")
  | ((with_reducible refine Same.seqT (by assumption) ?_); walk_at "hx")
  | ((with_reducible refine Dp.same (by assumption) _ _ ?_); walk_at "hx")
  | ((with_reducible refine DpAll.same (by assumption) _ _ ?_); walk_at "hx"))
local macro_rules | `(tactic| walk_at "go") => `(tactic| repeat (first | walk_at "1" | walk_at "2"))
local macro_rules | `(tactic| walk_at "dp") => `(tactic| first | exact .int _ | exact .str _ | exact .bl _ | exact .non | walk_at "hx")

section
variable {P : Program} {w : World} {K : PySem.W.Frag} {mg : Str → Option Value} {base : Heap} {CM : Addr}
theorem numT_ok {s : Str} (h : numOk s.cps.toList = true) : NumT s (numV s.cps.toList) := by
  unfold numOk at h
  simp only [Bool.and_eq_true, decide_eq_true_eq] at h
  obtain ⟨⟨⟨h1, h2⟩, h3⟩, h4⟩ := h
  unfold numV
  have hl := len_l s
  cases he : decide (s.cps.toList.take 1 = [45]) with
  | true =>
    have he' := of_decide_eq_true he
    rw [if_pos he']
    cases hs : s.cps.toList with
    | nil =>
      rw [hs] at he'
      cases he'
    | cons c r =>
      have hc : c = 45 := by
        rw [hs] at he'
        simpa using he'
      subst hc
      rw [hs, body_neg] at h1 h2 h3
      rw [body_neg]
      refine numT_neg hs (allDig_of h3) (fun z => ?_) ?_
      · rw [z] at h1
        cases h1
      · rw [← hl, hs, List.length_cons]
        omega
  | false =>
    have he' := of_decide_eq_false he
    rw [if_neg he']
    rw [body_pos he'] at h1 h2 h3
    rw [body_pos he']
    refine numT_digits (allDig_of h3) (fun z => ?_) ?_
    · rw [z] at h1
      cases h1
    · rw [← hl]
      omega
def spReadW (K : PySem.W.Frag) (CM : Addr) : Sp := fun vs H Q E => ∃ s : Str, vs = [.str s] ∧ s.length ≤ 1000000 ∧ (numOk s.cps.toList = true → ∀ H', Same H H' → Q (.int (numV s.cps.toList)) H') ∧
  (numOk s.cps.toList = false → ∀ H', Same H H' → E (.ref CM) none H')
theorem ok_read_whole {f : Addr} {fd : FuncData} (T : Facts w K mg CM) (F : Fun K "read_whole" "read_whole" s_read_whole f fd) :
    FnOk P w K mg base (CXm true P w) 1 f fd ["text"] (spReadW K CM) := by
  refine okM F sc_read_whole (fun vs H Q E h => ?_) (fun cdv A outer s H vs Q E hr h => ?_)
  · obtain ⟨z, rfl, _⟩ := h
    rfl
  · obtain ⟨z, rfl, hz, q1, q2⟩ := h
    refine ⟨_, (pss_mid (ps_set (i := 1) sc_read_whole.nd rfl (by first | exact Or.inl rfl | exact Or.inr rfl) (pe_ifExp (pt_cmpR (op_eqA (K := K) hr.units) (pe_slice (sl_A (K := K)) (pv 0) po_none (po_some pe_int)) pe_str (nomark _)) (pe_slice (sl_A (K := K)) (pv 0) (po_some pe_int) po_none) (pv 0)))
    (pss_cons (ps_if (PW.pt (pw_or (pt_not (pt_chain op_leA op_leA pe_int (pe_callB (call_lenA (K := K)) (by rfl) T.b_len (by decide +kernel) (pa_cons (pv 1) pa_nil)) (pe_gc (by rfl) T.c_MOST_DIGITS))) (pw_or1 (pt_not (pt_val (pe_callB (all_A (K := K) rfl) (by rfl) T.b_all (by decide +kernel) (pa_cons (pe_lc (own := [("sign", 2)]) (g := gName 2) (tt := tYes) rfl sc_read_whole.nd (pi_A (K := K) (pv 1)) (blkOk_by (N := N_read_whole) (sc := defScope s_read_whole) (by decide +kernel)) (fun _ _ _ _ _ => pg_name (i := 2) sc_read_whole.nd rfl (Or.inl rfl)) (fun _ _ _ _ _ => pts_nil) (fun _ _ _ _ _ => (pe_cmpR (op_inA (K := K)) (pv 2) (pe_gc (by rfl) T.c_DIGITS) (by rfl)))) pa_nil))))))) (pss_one (ps_raiseM rfl (tk_of rfl rfl rfl rfl) (mk_cst PySem.F.excBase_ValueError T.x_Malformed T.g_Malformed T.k_Malformed (raises_own T.s_Malformed T.t_Malformed) (by rfl)))) pss_nil)
    (pss_cons (ps_if (PW.pt (pw_and (pt_cmpR (op_eqA (K := K) hr.units) (pe_ix (ix_A (K := K)) (pv 1) pe_int (fun _ _ => rfl)) pe_str (nomark _)) (pw_and1 (pt_cmpR (op_neA (K := K) hr.units) (pv 0) pe_str (nomark _))))) (pss_one (ps_raiseM rfl (tk_of rfl rfl rfl rfl) (mk_cst PySem.F.excBase_ValueError T.x_Malformed T.g_Malformed T.k_Malformed (raises_own T.s_Malformed T.t_Malformed) (by rfl)))) pss_nil)
    (pss_one (ps_ret (pe_callTy (call_intG T.digits) (by rfl) T.b_int (by decide +kernel) (pa_cons (pv 0) pa_nil))))))), ?_⟩
    try dsimp only [cxOf]
    refine w_start (show _ = [some _, none, none] from rfl) ?_
    refine w_mid (fun σ' H' => ∃ b : Str, b.cps.toList = bodyT z.cps.toList ∧ H = H' ∧ σ' = [some (.str z), some (.str b), none]) ?_ ?_
    · walk_at "go"
      have e1 : (cutS z none (some 1)).cps.toList = z.cps.toList.take 1 := cut_hi z 1
      have e2 : (cutS z (some 1) none).cps.toList = z.cps.toList.drop 1 := cut_lo z 1
      refine w_ite (fun h => ?_) (fun h => ?_)
      · walk_at "go"
        refine ⟨_, ?_, rfl, rfl⟩
        have h' : z.cps.toList.take 1 = [45] := by
          rw [← e1, of_decide_eq_true h]
          rfl
        rw [e2]
        unfold bodyT
        rw [if_pos h']
      · walk_at "go"
        refine ⟨z, ?_, rfl, rfl⟩
        have h' : ¬ z.cps.toList.take 1 = [45] := fun c => of_decide_eq_false h (str_ext (by rw [e1, c]; rfl))
        exact (body_pos h').symm
    · rintro σ' H' ⟨b, hb, rfl, rfl⟩
      have hlb := len_l b
      have hlz := len_l z
      have hle : b.length ≤ z.length := by
        rw [← hlb, ← hlz, hb]
        unfold bodyT
        split
        · rw [List.length_drop]
          omega
        · exact Nat.le_refl _
      have hno : numOk z.cps.toList = (decide (1 ≤ b.length) && decide (b.length ≤ 4000) && b.cps.toList.all isDig && !(decide (b.cps.toList.headD 0 = 48) && !decide (z.cps.toList = [48]))) := by
        unfold numOk
        rw [← hb, hlb]
      walk_at "go"
      by_cases h1 : 1 ≤ b.length
      · walk_at "go"
        by_cases h2 : b.length ≤ 4000
        · walk_at "go"
          refine w_lcS (x := b) (fun c => .bl (isDig c)) rfl (by omega) (fun v => rfl) (fun c H1 hc1 e2 R hR => ?_) (fun D H2 n2 e2 hD => ?_)
          · show tOp _ _ _ [some (V.str z), some (V.str b), some (.str ⟨#[c]⟩)] H1 R
            walk_at "go"
            rw [dig_mem]
            exact hR H1 (Same.refl H1)
          · walk_at "go"
            refine w_all (bs := b.cps.toList.map isDig) (by rw [List.map_map]; exact SqL.of hD) ?_
            rw [List.all_map]
            show ∃ k, V.bl (b.cps.toList.all isDig) = V.bl k ∧ _
            cases h3 : b.cps.toList.all isDig with
            | false =>
              walk_at "go"
              refine q2 ?_ H2 e2
              rw [hno, h3]
              simp
            | true =>
              walk_at "go"
              cases hl : b.cps.toList with
              | nil =>
                rw [hl] at hlb
                simp at hlb
                omega
              | cons c r =>
                refine w_ix_str (z := b) (n := 0) (c := c) (by omega) (by rw [hl]; exact atI_nat (j := 0) rfl) ?_
                walk_at "go"
                have hz1 : decide (z = Str.ofString "0") = decide (z.cps.toList = [48]) := by
                  rw [decide_eq_decide]
                  exact ⟨fun h => by rw [h]; rfl, fun h => str_ext (by rw [h]; rfl)⟩
                have hc1 : decide ((⟨#[c]⟩ : Str) = Str.ofString "0") = decide (c = 48) := by
                  rw [decide_eq_decide]
                  exact ⟨fun h => List.head_eq_of_cons_eq (show [c] = [48] from congrArg (fun s : Str => s.cps.toList) h), fun h => by rw [h]; rfl⟩
                have hh : b.cps.toList.headD 0 = c := by rw [hl]; rfl
                rw [hh, decide_eq_true h1, decide_eq_true h2, h3] at hno
                rw [hc1]
                have fin : numOk z.cps.toList = true → rIntG [.str z] H2 Q := fun h => ⟨_, numT_ok h, q1 h H2 e2⟩
                cases h4 : decide (c = 48) with
                | false =>
                  walk_at "go"
                  exact fin (by rw [hno, h4]; rfl)
                | true =>
                  walk_at "go"
                  rw [hz1]
                  cases h5 : decide (z.cps.toList = [48]) with
                  | true =>
                    walk_at "go"
                    exact fin (by rw [hno, h4, h5]; rfl)
                  | false =>
                    walk_at "go"
                    exact q2 (by rw [hno, h4, h5]; rfl) H2 e2
        · walk_at "go"
          refine q2 ?_ H (Same.refl H)
          rw [hno, decide_eq_false h2]
          simp
      · walk_at "go"
        refine q2 ?_ H (Same.refl H)
        rw [hno, decide_eq_false h1]
        rfl
end
end K66

set_option exponentiation.threshold 256
set_option Elab.async false
set_option linter.all false
set_option maxRecDepth 100000
set_option maxHeartbeats 4000000
set_option exponentiation.threshold 10
namespace K66
open PySem PySem.Spec PyProof.Rows L2 Lay DataM PySem.NumText
local macro_rules | `(tactic| walk_at "1") => `(tactic| first
  | with_reducible refine w_seq ?_
  | ((with_reducible refine w_var (v := ?vv) ?hv ?_); (case hv => rfl))
  | with_reducible refine w_c ?_
  | with_reducible refine w_m1 ?_
  | with_reducible refine w_isstr ?_
  | with_reducible refine w_bm0 ?_
  | with_reducible refine w_bm ?_
  | with_reducible refine w_gcons ?_
  | with_reducible refine w_gnil ?_
  | ((with_reducible refine w_ty (xs := ?vv) ?hv ?_); (case hv => walk_at "hx"))
  | ((with_reducible refine w_gtup (xs := ?vv) ?hv ?hl ?_); (case hv => walk_at "hx"); (case hl => rfl))
  | with_reducible refine w_for1 ?_
  | with_reducible refine w_for2 ?_
  | with_reducible refine w_for3 ?_
  | with_reducible refine w_forA ?_
  | with_reducible refine w_forE ?_
  | ((with_reducible refine w_aug (x := ?vv) ?hv ?_); (case hv => rfl))
  | with_reducible refine w_op ?_
  | with_reducible refine w_cb ?_
  | with_reducible refine w_acons ?_
  | with_reducible refine w_anil ?_
  | with_reducible refine w_set ?_
  | with_reducible refine w_if ?_
  | with_reducible refine w_test ?_
  | with_reducible refine w_tB ?_
  | with_reducible refine w_bl ?_
  | with_reducible refine w_and ?_
  | with_reducible refine w_or ?_
  | with_reducible refine w_not ?_
  | with_reducible refine w_iteT ?_
  | with_reducible refine w_iteF ?_
  | with_reducible refine w_ret ?_
  | with_reducible refine w_next ?_
  | with_reducible refine w_drop ?_
  | with_reducible refine w_call ?_
  | with_reducible refine w_ifx ?_
  | with_reducible refine w_andV ?_
  | with_reducible refine w_orV ?_
  | with_reducible refine w_notV ?_
  | with_reducible refine w_sl ?_
  | with_reducible refine w_nopart ?_
  | with_reducible refine w_part ?_
  | with_reducible refine w_exint ?_
  | with_reducible refine w_chain ?_
  | with_reducible refine w_par ?_
  | with_reducible refine w_two ?_
  | with_reducible refine w_par3 ?_
  | with_reducible refine w_three ?_
  | with_reducible refine w_asg ?_
  | with_reducible refine w_gset ?_
  | with_reducible refine w_retN ?_
  | with_reducible refine w_brk ?_
  | with_reducible refine w_cont ?_
  | with_reducible refine w_un ?_
  | with_reducible refine w_neg ?_
  | with_reducible refine w_callS ?_
  | with_reducible refine w_tup0 ?_
  | with_reducible refine w_lst0 ?_
  | with_reducible refine w_fld0 ?_
  | with_reducible refine w_sfld ?_
  | with_reducible refine w_gsub ?_
  | with_reducible refine w_iAny ?_
  | with_reducible refine w_iR1 ?_
  | with_reducible refine w_make ?_
  | with_reducible refine w_meth ?_
  | with_reducible refine w_mk1 ?_)
local macro_rules | `(tactic| walk_at "2") => `(tactic| first
  | with_reducible refine w_add_int ?_
  | with_reducible refine w_sub ?_
  | ((with_reducible refine w_add_str ?hl ?_); (case hl => walk_at "len"))
  | ((with_reducible refine w_mod ?hl ?_); (case hl => first | decide | omega))
  | ((with_reducible refine w_fdiv ?h1 ?h2 ?_); (case h1 => first | decide | omega); (case h2 => first | decide | omega))
  | ((with_reducible refine w_mulR ?h1 ?h2 ?_); (case h1 => first | decide | omega); (case h2 => first | decide | omega))
  | ((with_reducible refine w_mulL ?h1 ?h2 ?_); (case h1 => first | decide | omega); (case h2 => first | decide | omega))
  | with_reducible refine w_iadd_int ?_
  | ((with_reducible refine w_iadd_str ?hl ?_); (case hl => walk_at "len"))
  | ((with_reducible refine w_mk ?hl ?_); (case hl => walk_at "len"))
  | with_reducible refine w_lt_int ?_
  | with_reducible refine w_lt_str ?_
  | with_reducible refine w_le_int ?_
  | with_reducible refine w_le_str ?_
  | with_reducible refine w_gt ?_
  | with_reducible refine w_ge ?_
  | with_reducible refine w_eq_int ?_
  | with_reducible refine w_eq_str ?_
  | with_reducible refine w_ne_int ?_
  | with_reducible refine w_ne_str ?_
  | ((with_reducible refine w_isInt (d := ?vd) ?hd ?_); (case hd => walk_at "dp"))
  | ((with_reducible refine w_isBool (d := ?vd) ?hd ?_); (case hd => walk_at "dp"))
  | ((with_reducible refine w_isStr (d := ?vd) ?hd ?_); (case hd => walk_at "dp"))
  | ((with_reducible refine w_isTup (d := ?vd) ?hd ?_); (case hd => walk_at "dp"))
  | ((with_reducible refine w_isLst (d := ?vd) ?hd ?_); (case hd => walk_at "dp"))
  | refine w_in_str ?_
  | refine w_nin_str ?_
  | ((with_reducible refine w_ixL (xs := ?vv) (y := ?vr) ?h ?ha ?_); (case h => walk_at "hx"); (case ha => rfl))
  | with_reducible refine w_is ?_
  | with_reducible refine w_isnot ?_
  | ((with_reducible refine w_len_str ?hl ?_); (case hl => walk_at "len"))
  | ((with_reducible refine w_len (xs := ?vv) ?hl ?_); (case hl => walk_at "hx"))
  | with_reducible refine w_int_int ?_
  | with_reducible refine w_str_str ?_
  | with_reducible refine w_abs ?_
  | ((with_reducible refine w_sl_str ?hl ?_); (case hl => walk_at "len"))
  | ((with_reducible refine w_fldAt (C := ?vC) (dx := ?vdx) (fs := ?vfs) (v := ?vv) ?h1 ?h2 ?h3 ?h4 ?_); (case h1 => walk_at "hx"); (case h2 => assumption); (case h3 => assumption); (case h4 => rfl))
  | ((with_reducible refine w_methAt (dx := ?vdx) (fs := ?vfs) ?h1 ?h2 ?_); (case h1 => walk_at "hx"); (case h2 => rfl))
  | ((with_reducible refine w_iteP ?h1 ?_); (case h1 => walk_at "yes"))
  | ((with_reducible refine w_iteN ?h1 ?_); (case h1 => walk_at "no")))
local macro_rules | `(tactic| walk_at "yes") => `(tactic| first | assumption | ((with_reducible refine bnotT ?_); walk_at "no") | (refine decide_eq_true ?_; first | assumption | omega) | exact rfl)
local macro_rules | `(tactic| walk_at "no") => `(tactic| first | assumption | ((with_reducible refine bnotF ?_); walk_at "yes") | (refine decide_eq_false ?_; first | assumption | omega) | exact rfl)
local macro_rules | `(tactic| walk_at "len") => `(tactic| first | assumption | exact Nat.le_of_ble_eq_true rfl | omega | decide | (simp only [List.length_append, List.length_cons, List.length_nil, List.length_map]; omega))
local macro_rules | `(tactic| walk_at "ne") => `(tactic| first | assumption | (refine Ne.symm ?_; assumption))
local macro_rules | `(tactic| walk_at "hx") => `(tactic| first
  | assumption
  | exact upd_same
  | ((with_reducible refine sqa_l ?_); walk_at "hx")
  | ((with_reducible refine sqa_t ?_); walk_at "hx")
  | ((with_reducible refine SqL.of ?_); walk_at "hx")
  | ((with_reducible refine SqT.of ?_); walk_at "hx")
  | ((with_reducible refine at_same (by assumption) ?_); walk_at "hx")
  | ((with_reducible refine at_but (by assumption) ?hne ?_); (case hne => walk_at "ne"); walk_at "hx")
  | ((with_reducible refine Txt.tup (by assumption) _ _ ?_); walk_at "hx")
  | ((with_reducible refine Same.seq (by assumption) ?_); walk_at "hx")
  | ((with_reducible refine Same.seqT (by assumption) ?_); walk_at "hx")
  | ((with_reducible refine Dp.same (by assumption) _ _ ?_); walk_at "hx")
  | ((with_reducible refine DpAll.same (by assumption) _ _ ?_); walk_at "hx"))
local macro_rules | `(tactic| walk_at "go") => `(tactic| repeat (first | walk_at "1" | walk_at "2"))
local macro_rules | `(tactic| walk_at "dp") => `(tactic| first | exact .int _ | exact .str _ | exact .bl _ | exact .non | walk_at "hx")

section
variable {P : Program} {w : World} {K : PySem.W.Frag} {mg : Str → Option Value} {base : Heap} {CM : Addr}
def signV (z : Str) : Option V := if z.cps.toList = [43] then some (.bl true) else if z.cps.toList = [45] then some (.bl false) else if z.cps.toList = [46] then some (.str "") else none
structure Signs (w : World) (K : PySem.W.Frag) (mg : Str → Option Value) (CS : Addr) (es : Array DictEntry) (n : Nat) : Prop where
  kd : KDict K w CS es n
  at_ : ∃ u, mg "SIGNS" = some u ∧ RelV (.ref CS) u
  get : ∀ z, ∃ r, PySem.W.nsIn K CS z = some r ∧ (match signV z with | some v => ∃ u, r = some u ∧ RelV v u | none => r = none)
def atV : PyData → V
  | .bool b => .bl b
  | .str s => .str s
  | .int i => .int i
  | _ => .non
def spReadA (K : PySem.W.Frag) (CM : Addr) : Sp := fun vs H Q E => ∃ s : Str, vs = [.str s] ∧ s.length ≤ 1000000 ∧ (∀ d, atomT s.cps.toList = some d → ∀ H', Same H H' → Q (atV d) H') ∧
  (atomT s.cps.toList = none → ∀ H', Same H H' → E (.ref CM) none H')
theorem ok_read_atom {f CS : Addr} {fd : FuncData} {es : Array DictEntry} {n : Nat} (T : Facts w K mg CM) (SG : Signs w K mg CS es n) (F : Fun K "read_atom" "read_atom" s_read_atom f fd)
    (c_is_word : Fn0 P w K mg base 1 "is_word" (spWord K)) (c_read_whole : FnM true P w K mg base 1 "read_whole" (spReadW K CM)) :
    FnOk P w K mg base (CXm true P w) 2 f fd ["piece"] (spReadA K CM) := by
  refine okM F sc_read_atom (fun vs H Q E h => ?_) (fun cdv A outer s H vs Q E hr h => ?_)
  · obtain ⟨z, rfl, _⟩ := h
    rfl
  · obtain ⟨z, rfl, hz, q1, q2⟩ := h
    refine ⟨_, (pss_cons (ps_if (pt_cmpR (op_in_kd SG.kd) (pv 0) (pe_gc (by rfl) SG.at_) (by rfl)) (pss_one (ps_ret (pe_ix ix_kdict (pe_gc (by rfl) SG.at_) (pv 0) (fun _ _ => rfl)))) pss_nil)
    (pss_one (ps_ret (pe_ifExp (pt_val (pe_f0 c_is_word hr (by first | decide | omega) (pa_cons (pv 0) pa_nil))) (pv 0) (pe_fc c_read_whole hr (by first | decide | omega) (passM (c' := true) (tk_of rfl rfl rfl rfl) (.inl rfl) (fun _ _ _ _ h => h)) (pa_cons (pv 0) pa_nil)))))), ?_⟩
    try dsimp only [cxOf]
    refine w_start (show _ = [some _] from rfl) ?_
    obtain ⟨r, hr1, hr2⟩ := SG.get z
    walk_at "go"
    refine ⟨z, r, rfl, rfl, hr1, ?_⟩
    walk_at "go"
    have hat : atomT z.cps.toList = match signV z with
        | some (.bl b) => some (.bool b)
        | some _ => some (.str ⟨#[]⟩)
        | none => if isWordT z.cps.toList then some (.str z) else if numOk z.cps.toList then some (.int (numV z.cps.toList)) else none := by
      unfold atomT signV
      rw [str_back]
      split
      · rfl
      · split
        · rfl
        · split <;> rfl
    cases hs : signV z with
    | some v =>
      rw [hs] at hr2 hat
      obtain ⟨u, rfl, ru⟩ := hr2
      refine w_iteP rfl ?_
      walk_at "go"
      refine ⟨CS, z, v, rfl, rfl, ⟨es, n, u, SG.kd.at_, SG.kd.lit, hr1, ru⟩, ?_⟩
      unfold signV at hs
      split at hs
      · cases hs
        exact q1 _ hat H (Same.refl H)
      · split at hs
        · cases hs
          exact q1 _ hat H (Same.refl H)
        · split at hs
          · cases hs
            exact q1 _ hat H (Same.refl H)
          · cases hs
    | none =>
      rw [hs] at hr2 hat
      subst hr2
      refine w_iteN rfl ?_
      walk_at "go"
      refine ⟨.str z, .str z, rfl, .str z, hz, fun H1 e1 => ?_⟩
      walk_at "go"
      show if isWordT z.cps.toList = true then _ else _
      cases hw : isWordT z.cps.toList with
      | true =>
        simp only [hw, if_true] at hat
        walk_at "go"
        exact q1 _ hat H1 e1
      | false =>
        simp only [hw, Bool.false_eq_true, if_false] at hat
        walk_at "go"
        refine ⟨z, rfl, hz, fun hn H2 e2 => ?_, fun hn H2 e2 => ?_⟩
        · simp only [hn, if_true] at hat
          exact q1 _ hat H2 (e1.trans e2)
        · simp only [hn, Bool.false_eq_true, if_false] at hat
          exact q2 hat H2 (e1.trans e2)
theorem sep_mem (c : Nat) : decide (c ∈ (Str.ofString "[],").cps.toList) = sep c := by
  show decide (c ∈ [91, 93, 44]) = _
  unfold sep
  by_cases h1 : c = 91
  · subst h1; rfl
  · by_cases h2 : c = 93
    · subst h2; rfl
    · by_cases h3 : c = 44
      · subst h3; rfl
      · simp [h1, h2, h3]
def txs (ps : List Tx) : List V := ps.map fun p => V.str ⟨p.toArray⟩
theorem pcs_cons (tok : Tx) (c : Nat) (r : Tx) : pcs tok (c :: r) = if sep c then (if tok = [] then [] else [tok]) ++ [c] :: pcs [] r else pcs (tok ++ [c]) r := by
  rw [pcs]
theorem pcs_nil (tok : Tx) : pcs tok [] = if tok = [] then [] else [tok] := by
  rw [pcs]
theorem txs_app (a b : List Tx) : txs (a ++ b) = txs a ++ txs b := List.map_append
theorem txs_one (s : Str) : [V.str s] = txs [s.cps.toList] := by
  show _ = [V.str ⟨s.cps.toList.toArray⟩]
  rw [str_back]
theorem txs_len (a : List Tx) : (txs a).length = a.length := List.length_map ..
def spPieces (K : PySem.W.Frag) : Sp := fun vs H Q _ => ∃ s : Str, vs = [.str s] ∧ s.length ≤ 400000 ∧ ∀ D H', H D = none → Same H H' → H' D = some (.lst (txs (pcs [] s.cps.toList))) → Q (.ref D) H'
theorem ok_pieces_of {f : Addr} {fd : FuncData} (T : Facts w K mg CM) (F : Fun K "pieces_of" "pieces_of" s_pieces_of f fd) : FnOk P w K mg base CX0 1 f fd ["text"] (spPieces K) := by
  refine F.ok sc_pieces_of (fun vs H Q E h => ?_) (fun cdv A outer s H vs Q E hr h => ?_)
  · obtain ⟨z, rfl, _⟩ := h
    rfl
  · obtain ⟨z, rfl, hz, q⟩ := h
    refine ⟨_, (pss_cons (ps_par (i := 1) (j := 2) rfl sc_pieces_of.nd rfl rfl (by decide) rfl rfl (pa_cons (pe_lstG pa_nil) (pa_cons pe_int pa_nil)) (by rfl))
    (pss_cons (ps_for PassesOwn.never rfl (pi_enumA (by rfl) T.b_enumerate rfl (pv 0)) (tup_A (K := K) (n := 2) rfl (pgs_cons (pg_name (i := 3) sc_pieces_of.nd rfl (by first | exact Or.inl rfl | exact Or.inr rfl)) (pgs_cons (pg_name (i := 4) sc_pieces_of.nd rfl (by first | exact Or.inl rfl | exact Or.inr rfl)) pgs_nil))) (pss_one (ps_if (pt_cmpR (op_inA (K := K)) (pv 4) pe_str (by rfl)) (pss_cons (ps_if (pt_cmpR op_ltA (pv 2) (pv 3) (nomark _)) (pss_one (ps_expr (pe_bm PySem.F.plainAttrs_list PySem.F.slot_list_append PySem.F.type_list_append mt_append (pv 1) (pa_cons (pe_slice (sl_A (K := K)) (pv 0) (po_some (pv 2)) (po_some (pv 3))) pa_nil)))) pss_nil)
    (pss_cons (ps_expr (pe_bm PySem.F.plainAttrs_list PySem.F.slot_list_append PySem.F.type_list_append mt_append (pv 1) (pa_cons (pv 4) pa_nil)))
    (pss_one (ps_set (i := 2) sc_pieces_of.nd rfl (by first | exact Or.inl rfl | exact Or.inr rfl) (pe_op op_addA (pv 3) pe_int))))) pss_nil)))
    (pss_one (ps_ret (pe_op op_addA (pv 1) (pe_ifExp (pt_cmpR op_ltA (pv 2) (pe_callB (call_lenA (K := K)) (by rfl) T.b_len (by decide +kernel) (pa_cons (pv 0) pa_nil)) (nomark _)) (pe_lstG (pa_cons (pe_slice (sl_A (K := K)) (pv 0) (po_some (pv 2)) po_none) pa_nil)) (pe_lstG pa_nil))))))), ?_⟩
    try dsimp only [cxOf]
    refine w_start (show _ = [some _, none, none, none, none] from rfl) ?_
    have hlz := len_l z
    walk_at "go"
    intro pf H1 n1 e1 h1
    walk_at "go"
    refine ⟨z, rfl, ?_⟩
    refine lp_enum (fun k σ' H' => ∃ found : List Tx, ∃ st : Nat, (∃ o1 o2, σ' = [some (.str z), some (.ref pf), some (.int (st : Nat)), o1, o2]) ∧ st ≤ k ∧ k ≤ z.cps.toList.length ∧ Same H H' ∧ H' pf = some (.lst (txs found)) ∧ found.length ≤ 2 * k ∧
      found ++ pcs ((z.cps.toList.take k).drop st) (z.cps.toList.drop k) = pcs [] z.cps.toList) ⟨[], 0, ⟨none, none, rfl⟩, Nat.le_refl _, Nat.zero_le _, e1, h1, Nat.le_refl _, rfl⟩ (fun k c σ' H' H2 hc p e2 => ?_) (fun σ' H' p => ?_)
    · obtain ⟨found, st, ⟨o1, o2, rfl⟩, hst, hk, e, hf, hfl, hp⟩ := p
      have hkl : k < z.cps.toList.length := (List.getElem?_eq_some_iff.mp hc).1
      have hdr : z.cps.toList.drop k = c :: z.cps.toList.drop (k + 1) := by
        rw [List.drop_eq_getElem_cons hkl, (List.getElem?_eq_some_iff.mp hc).2]
      have htk : (z.cps.toList.take (k + 1)).drop st = (z.cps.toList.take k).drop st ++ [c] := by
        rw [List.take_add_one, hc, List.drop_append_of_le_length (by rw [List.length_take]; omega)]
        rfl
      have htl : ((z.cps.toList.take k).drop st).length = k - st := by
        rw [List.length_drop, List.length_take]
        omega
      rw [hdr, pcs_cons] at hp
      have hf2 := e2 _ _ hf
      have ee := e.trans e2
      have hwb : ∀ (z1 : Str) H3, But pf H2 H3 → H3 pf = some (.lst (txs found ++ [.str z1])) → H3 pf = some (.lst (txs (found ++ [z1.cps.toList]))) := fun z1 H3 b3 h3 => by
        rw [h3, txs_app, ← txs_one]
      walk_at "go"
      rw [sep_mem]
      cases hs : sep c with
      | false =>
        simp only [hs, Bool.false_eq_true, if_false] at hp
        walk_at "go"
        exact ⟨found, st, ⟨_, _, rfl⟩, by omega, hkl, ee, hf2, by omega, by rw [htk]; exact hp⟩
      | true =>
        simp only [hs, if_true] at hp
        walk_at "go"
        have fin : ∀ (fd2 : List Tx) H3, Same H H3 → H3 pf = some (.lst (txs fd2)) → fd2.length ≤ 2 * k + 1 → fd2 ++ [c] :: pcs [] (z.cps.toList.drop (k + 1)) = pcs [] z.cps.toList →
            ∀ R : VK, (∀ H1, (∃ found : List Tx, ∃ st : Nat, (∃ o1 o2, [some (V.str z), some (.ref pf), some (.int ((k : Int) + 1)), some (.int (k : Nat)), some (.str ⟨#[c]⟩)] = [some (.str z), some (.ref pf), some (.int (st : Nat)), o1, o2]) ∧ st ≤ k + 1 ∧ k + 1 ≤ z.cps.toList.length ∧ Same H H1 ∧ H1 pf = some (.lst (txs found)) ∧ found.length ≤ 2 * (k + 1) ∧
              found ++ pcs ((z.cps.toList.take (k + 1)).drop st) (z.cps.toList.drop (k + 1)) = pcs [] z.cps.toList) → R .non H1) → rAppend (.ref pf) [.str ⟨#[c]⟩] H3 R := fun fd2 H3 e3 h3 hl3 hp3 R hR => by
          refine w_appG h3 (by rw [txs_len]; omega) fun H4 b4 t4 h4 => hR H4 ?_
          refine ⟨fd2 ++ [[c]], k + 1, ⟨_, _, rfl⟩, Nat.le_refl _, hkl, same_but e3 b4 (none_same (Same.refl H) n1), ?_, ?_, ?_⟩
          · rw [h4, txs_app]
            rfl
          · rw [List.length_append, List.length_singleton]
            omega
          · have hnil : (z.cps.toList.take (k + 1)).drop (k + 1) = [] := List.drop_eq_nil_of_le (by rw [List.length_take]; omega)
            rw [hnil, ← hp3]
            simp
        by_cases hlt : st < k
        · refine w_iteP (decide_eq_true (by omega)) ?_
          walk_at "go"
          refine w_appG hf2 (by rw [txs_len]; omega) fun H3 b3 t3 h3 => ?_
          have hcut : (cutS z (some (st : Int)) (some (k : Int))).cps.toList = (z.cps.toList.take k).drop st := cut_lh z st k (by omega)
          rw [if_neg (by intro z; rw [z] at htl; simp at htl; omega)] at hp
          walk_at "go"
          exact fin (found ++ [(z.cps.toList.take k).drop st]) H3 (same_but ee b3 n1) (by rw [h3, txs_app, ← hcut, ← txs_one]) (by rw [List.length_append, List.length_singleton]; omega) (by rw [← hp]; simp) _ fun H4 p => by
            walk_at "go"
            exact p
        · refine w_iteN (decide_eq_false (by omega)) ?_
          walk_at "go"
          rw [if_pos (List.length_eq_zero_iff.mp (by rw [htl]; omega))] at hp
          exact fin found H2 ee hf2 (by omega) (by rw [← hp]; simp) _ fun H4 p => by
            walk_at "go"
            exact p
    · obtain ⟨found, st, ⟨o1, o2, rfl⟩, hst, hk, e, hf, hfl, hp⟩ := p
      have hlen : z.cps.toList.drop z.cps.toList.length = [] := List.drop_length
      rw [hlen, List.take_length, pcs_nil] at hp
      have hcut : (cutS z (some (st : Int)) none).cps.toList = z.cps.toList.drop st := cut_lo z st
      walk_at "go"
      by_cases hlt : st < z.length
      · refine w_iteP (decide_eq_true (by omega)) ?_
        walk_at "go"
        intro pg H4 n4 e4 h4
        have hf4 := e4 _ _ hf
        rw [if_neg (by intro c; have := congrArg List.length c; rw [List.length_drop, List.length_nil] at this; omega)] at hp
        refine w_add_lst hf4 h4 (by rw [txs_len]; simp; omega) fun D H5 n5 e5 h5 => ?_
        refine q D H5 (none_same (e.trans e4) n5) ((e.trans e4).trans e5) ?_
        rw [h5, ← hp, txs_app, ← hcut, ← txs_one]
      · refine w_iteN (decide_eq_false (by omega)) ?_
        walk_at "go"
        intro pg H4 n4 e4 h4
        have hf4 := e4 _ _ hf
        rw [if_pos (List.drop_eq_nil_of_le (by omega))] at hp
        refine w_add_lst hf4 h4 (by rw [txs_len]; simp; omega) fun D H5 n5 e5 h5 => ?_
        refine q D H5 (none_same (e.trans e4) n5) ((e.trans e4).trans e5) ?_
        rw [h5, ← hp, txs_app]
        rfl
end
end K66

set_option exponentiation.threshold 256
set_option Elab.async false
set_option linter.all false
set_option maxRecDepth 100000
set_option maxHeartbeats 4000000
set_option exponentiation.threshold 10
namespace K66
open PySem PySem.Spec PyProof.Rows L2 Lay DataM PySem.NumText
local macro_rules | `(tactic| walk_at "1") => `(tactic| first
  | with_reducible refine w_seq ?_
  | ((with_reducible refine w_var (v := ?vv) ?hv ?_); (case hv => rfl))
  | with_reducible refine w_c ?_
  | with_reducible refine w_m1 ?_
  | with_reducible refine w_isstr ?_
  | with_reducible refine w_bm0 ?_
  | with_reducible refine w_bm ?_
  | with_reducible refine w_gcons ?_
  | with_reducible refine w_gnil ?_
  | ((with_reducible refine w_ty (xs := ?vv) ?hv ?_); (case hv => walk_at "hx"))
  | ((with_reducible refine w_gtup (xs := ?vv) ?hv ?hl ?_); (case hv => walk_at "hx"); (case hl => rfl))
  | with_reducible refine w_for1 ?_
  | with_reducible refine w_for2 ?_
  | with_reducible refine w_for3 ?_
  | with_reducible refine w_forA ?_
  | with_reducible refine w_forE ?_
  | ((with_reducible refine w_aug (x := ?vv) ?hv ?_); (case hv => rfl))
  | with_reducible refine w_op ?_
  | with_reducible refine w_cb ?_
  | with_reducible refine w_acons ?_
  | with_reducible refine w_anil ?_
  | with_reducible refine w_set ?_
  | with_reducible refine w_if ?_
  | with_reducible refine w_test ?_
  | with_reducible refine w_tB ?_
  | with_reducible refine w_bl ?_
  | with_reducible refine w_and ?_
  | with_reducible refine w_or ?_
  | with_reducible refine w_not ?_
  | with_reducible refine w_iteT ?_
  | with_reducible refine w_iteF ?_
  | with_reducible refine w_ret ?_
  | with_reducible refine w_next ?_
  | with_reducible refine w_drop ?_
  | with_reducible refine w_call ?_
  | with_reducible refine w_ifx ?_
  | with_reducible refine w_andV ?_
  | with_reducible refine w_orV ?_
  | with_reducible refine w_notV ?_
  | with_reducible refine w_sl ?_
  | with_reducible refine w_nopart ?_
  | with_reducible refine w_part ?_
  | with_reducible refine w_exint ?_
  | with_reducible refine w_chain ?_
  | with_reducible refine w_par ?_
  | with_reducible refine w_two ?_
  | with_reducible refine w_par3 ?_
  | with_reducible refine w_three ?_
  | with_reducible refine w_asg ?_
  | with_reducible refine w_gset ?_
  | with_reducible refine w_retN ?_
  | with_reducible refine w_brk ?_
  | with_reducible refine w_cont ?_
  | with_reducible refine w_un ?_
  | with_reducible refine w_neg ?_
  | with_reducible refine w_callS ?_
  | with_reducible refine w_tup0 ?_
  | with_reducible refine w_lst0 ?_
  | with_reducible refine w_fld0 ?_
  | with_reducible refine w_sfld ?_
  | with_reducible refine w_gsub ?_
  | with_reducible refine w_iAny ?_
  | with_reducible refine w_iR1 ?_
  | with_reducible refine w_make ?_
  | with_reducible refine w_meth ?_
  | with_reducible refine w_mk1 ?_)
local macro_rules | `(tactic| walk_at "2") => `(tactic| first
  | with_reducible refine w_add_int ?_
  | with_reducible refine w_sub ?_
  | ((with_reducible refine w_add_str ?hl ?_); (case hl => walk_at "len"))
  | ((with_reducible refine w_mod ?hl ?_); (case hl => first | decide | omega))
  | ((with_reducible refine w_fdiv ?h1 ?h2 ?_); (case h1 => first | decide | omega); (case h2 => first | decide | omega))
  | ((with_reducible refine w_mulR ?h1 ?h2 ?_); (case h1 => first | decide | omega); (case h2 => first | decide | omega))
  | ((with_reducible refine w_mulL ?h1 ?h2 ?_); (case h1 => first | decide | omega); (case h2 => first | decide | omega))
  | with_reducible refine w_iadd_int ?_
  | ((with_reducible refine w_iadd_str ?hl ?_); (case hl => walk_at "len"))
  | ((with_reducible refine w_mk ?hl ?_); (case hl => walk_at "len"))
  | with_reducible refine w_lt_int ?_
  | with_reducible refine w_lt_str ?_
  | with_reducible refine w_le_int ?_
  | with_reducible refine w_le_str ?_
  | with_reducible refine w_gt ?_
  | with_reducible refine w_ge ?_
  | with_reducible refine w_eq_int ?_
  | with_reducible refine w_eq_str ?_
  | with_reducible refine w_ne_int ?_
  | with_reducible refine w_ne_str ?_
  | ((with_reducible refine w_isInt (d := ?vd) ?hd ?_); (case hd => walk_at "dp"))
  | ((with_reducible refine w_isBool (d := ?vd) ?hd ?_); (case hd => walk_at "dp"))
  | ((with_reducible refine w_isStr (d := ?vd) ?hd ?_); (case hd => walk_at "dp"))
  | ((with_reducible refine w_isTup (d := ?vd) ?hd ?_); (case hd => walk_at "dp"))
  | ((with_reducible refine w_isLst (d := ?vd) ?hd ?_); (case hd => walk_at "dp"))
  | refine w_in_str ?_
  | refine w_nin_str ?_
  | ((with_reducible refine w_ixL (xs := ?vv) (y := ?vr) ?h ?ha ?_); (case h => walk_at "hx"); (case ha => rfl))
  | with_reducible refine w_is ?_
  | with_reducible refine w_isnot ?_
  | ((with_reducible refine w_len_str ?hl ?_); (case hl => walk_at "len"))
  | ((with_reducible refine w_len (xs := ?vv) ?hl ?_); (case hl => walk_at "hx"))
  | with_reducible refine w_int_int ?_
  | with_reducible refine w_str_str ?_
  | with_reducible refine w_abs ?_
  | ((with_reducible refine w_sl_str ?hl ?_); (case hl => walk_at "len"))
  | ((with_reducible refine w_fldAt (C := ?vC) (dx := ?vdx) (fs := ?vfs) (v := ?vv) ?h1 ?h2 ?h3 ?h4 ?_); (case h1 => walk_at "hx"); (case h2 => assumption); (case h3 => assumption); (case h4 => rfl))
  | ((with_reducible refine w_methAt (dx := ?vdx) (fs := ?vfs) ?h1 ?h2 ?_); (case h1 => walk_at "hx"); (case h2 => rfl))
  | ((with_reducible refine w_iteP ?h1 ?_); (case h1 => walk_at "yes"))
  | ((with_reducible refine w_iteN ?h1 ?_); (case h1 => walk_at "no")))
local macro_rules | `(tactic| walk_at "yes") => `(tactic| first | assumption | ((with_reducible refine bnotT ?_); walk_at "no") | (refine decide_eq_true ?_; first | assumption | omega) | exact rfl)
local macro_rules | `(tactic| walk_at "no") => `(tactic| first | assumption | ((with_reducible refine bnotF ?_); walk_at "yes") | (refine decide_eq_false ?_; first | assumption | omega) | exact rfl)
local macro_rules | `(tactic| walk_at "len") => `(tactic| first | assumption | exact Nat.le_of_ble_eq_true rfl | omega | decide | (simp only [List.length_append, List.length_cons, List.length_nil, List.length_map]; omega))
local macro_rules | `(tactic| walk_at "ne") => `(tactic| first | assumption | (refine Ne.symm ?_; assumption))
local macro_rules | `(tactic| walk_at "hx") => `(tactic| first
  | assumption
  | exact upd_same
  | ((with_reducible refine sqa_l ?_); walk_at "hx")
  | ((with_reducible refine sqa_t ?_); walk_at "hx")
  | ((with_reducible refine SqL.of ?_); walk_at "hx")
  | ((with_reducible refine SqT.of ?_); walk_at "hx")
  | ((with_reducible refine at_same (by assumption) ?_); walk_at "hx")
  | ((with_reducible refine at_but (by assumption) ?hne ?_); (case hne => walk_at "ne"); walk_at "hx")
  | ((with_reducible refine Txt.tup (by assumption) _ _ ?_); walk_at "hx")
  | ((with_reducible refine Same.seq (by assumption) ?_); walk_at "hx")
  | ((with_reducible refine Same.seqT (by assumption) ?_); walk_at "hx")
  | ((with_reducible refine Dp.same (by assumption) _ _ ?_); walk_at "hx")
  | ((with_reducible refine DpAll.same (by assumption) _ _ ?_); walk_at "hx"))
local macro_rules | `(tactic| walk_at "go") => `(tactic| repeat (first | walk_at "1" | walk_at "2"))
local macro_rules | `(tactic| walk_at "dp") => `(tactic| first | exact .int _ | exact .str _ | exact .bl _ | exact .non | walk_at "hx")

section
variable {P : Program} {w : World} {K : PySem.W.Frag} {mg : Str → Option Value} {base : Heap} {CM CR : Addr}
structure RdF (K : PySem.W.Frag) (CR : Addr) : Prop where
  cls : Cls K CR
  f1 : NoAttr K CR "tuples"
  f2 : NoAttr K CR "ready"
  f3 : NoAttr K CR "told"
abbrev flds (pt pd : Addr) (b : Bool) : List (Str × V) := [("tuples", .ref pt), ("ready", .bl b), ("told", .ref pd)]
structure RowAt (K : PySem.W.Frag) (H0 H : Hp) (a pt pd : Addr) (n : Nat) (q : Addr) (ds : List PyData) : Prop where
  na : q ≠ a
  nt : q ≠ pt
  nd : q ≠ pd
  fr : H0 q = none
  len : ds.length ≤ n
  fz : fzAll ds = true
  at_ : ∃ vs, H q = some (.lst vs) ∧ DpAll K H vs ds
structure RdAt (K : PySem.W.Frag) (CR : Addr) (H0 H : Hp) (a : Addr) (n : Nat) (r : R) (dx pt pd : Addr) (rows : List Addr) (tv : List V) : Prop where
  obj : H a = some (.ins CR dx (flds pt pd r.rd))
  tup : H pt = some (.lst (rows.reverse.map .ref))
  row : Paired (RowAt K H0 H a pt pd n) rows r.st
  nod : rows.Nodup
  told : H pd = some (.lst tv)
  tdp : DpAll K H tv r.td
  tfz : fzAll r.td = true
  tlen : r.td.length ≤ n
  ne1 : pt ≠ pd
  ne2 : pt ≠ a
  ne3 : pd ≠ a
  na : H0 a = none
  nt : H0 pt = none
  nd : H0 pd = none
  same : Same H0 H
  len : r.st.length ≤ 1000
def Rd (K : PySem.W.Frag) (CR : Addr) (H0 H : Hp) (a : Addr) (n : Nat) (r : R) : Prop := ∃ dx pt pd rows tv, RdAt K CR H0 H a n r dx pt pd rows tv
variable {H0 H H' : Hp} {a dx pt pd : Addr} {n : Nat} {r : R} {rows : List Addr} {tv : List V}
theorem RowAt.txt {q : Addr} {ds : List PyData} (z : RowAt K H0 H a pt pd n q ds) (t : Txt H H') (h : ∀ vs, H q = some (.lst vs) → H' q = some (.lst vs)) : RowAt K H0 H' a pt pd n q ds := by
  obtain ⟨vs, h1, h2⟩ := z.at_
  exact ⟨z.na, z.nt, z.nd, z.fr, z.len, z.fz, vs, h vs h1, DpAll.txt t ds vs z.fz h2⟩
theorem RowAt.mono {q : Addr} {ds : List PyData} {m : Nat} (z : RowAt K H0 H a pt pd n q ds) (h : n ≤ m) : RowAt K H0 H a pt pd m q ds := ⟨z.na, z.nt, z.nd, z.fr, Nat.le_trans z.len h, z.fz, z.at_⟩
theorem paired_mem {α β : Type} {F G : α → β → Prop} : ∀ {xs : List α} {ys : List β}, Paired F xs ys → (∀ x y, x ∈ xs → F x y → G x y) → Paired G xs ys
  | _, _, .nil, _ => .nil
  | _, _, .cons h t, f => .cons (f _ _ List.mem_cons_self h) (paired_mem t fun x y hx => f x y (List.mem_cons_of_mem _ hx))
theorem paired_get {α β : Type} {F : α → β → Prop} : ∀ {xs : List α} {ys : List β}, Paired F xs ys → ∀ x ∈ xs, ∃ y, F x y
  | _, _, .cons h t, x, hx => by
    rcases List.mem_cons.mp hx with rfl | hx
    · exact ⟨_, h⟩
    · exact paired_get t x hx
theorem RdAt.mono {m : Nat} (z : RdAt K CR H0 H a n r dx pt pd rows tv) (h : n ≤ m) : RdAt K CR H0 H a m r dx pt pd rows tv :=
  ⟨z.obj, z.tup, Paired.mapP z.row fun _ _ q => q.mono h, z.nod, z.told, z.tdp, z.tfz, Nat.le_trans z.tlen h, z.ne1, z.ne2, z.ne3, z.na, z.nt, z.nd, z.same, z.len⟩
theorem RdAt.go (z : RdAt K CR H0 H a n r dx pt pd rows tv) (e : Same H H') : RdAt K CR H0 H' a n r dx pt pd rows tv :=
  ⟨e _ _ z.obj, e _ _ z.tup, Paired.mapP z.row fun _ _ q => q.txt (Txt.same e) fun vs h => e _ _ h, z.nod, e _ _ z.told, DpAll.same e _ _ z.tdp, z.tfz, z.tlen, z.ne1, z.ne2, z.ne3, z.na, z.nt, z.nd, z.same.trans e, z.len⟩
theorem RdAt.ready {b : Bool} (z : RdAt K CR H0 H a n r dx pt pd rows tv) (bt : But a H H') (t : Txt H H') (h : H' a = some (.ins CR dx (flds pt pd b))) : RdAt K CR H0 H' a n ⟨r.st, b, r.td⟩ dx pt pd rows tv :=
  ⟨h, bt _ _ z.ne2 z.tup, Paired.mapP z.row fun _ _ q => q.txt t fun vs h => bt _ _ q.na h, z.nod, bt _ _ z.ne3 z.told, DpAll.txt t _ _ z.tfz z.tdp, z.tfz, z.tlen, z.ne1, z.ne2, z.ne3, z.na, z.nt, z.nd, same_but z.same bt z.na, z.len⟩
theorem fzAll_app : ∀ {xs ys : List PyData}, fzAll xs = true → fzAll ys = true → fzAll (xs ++ ys) = true
  | [], _, _, h => h
  | x :: xs, ys, h, k => by
    simp only [fzAll, Bool.and_eq_true, List.cons_append] at h ⊢
    exact ⟨h.1, fzAll_app h.2 k⟩
theorem fzAll_one {d : PyData} (h : Lay.fz d = true) : fzAll [d] = true := by
  simp [fzAll, h]
theorem RdAt.told_app {v : V} {d : PyData} (z : RdAt K CR H0 H a n r dx pt pd rows tv) (hd : Dp K H v d) (hf : Lay.fz d = true) (bt : But pd H H') (t : Txt H H') (h : H' pd = some (.lst (tv ++ [v]))) :
    RdAt K CR H0 H' a (n + 1) ⟨r.st, r.rd, r.td ++ [d]⟩ dx pt pd rows (tv ++ [v]) :=
  ⟨bt _ _ (Ne.symm z.ne3) z.obj, bt _ _ z.ne1 z.tup, Paired.mapP z.row fun _ _ q => (q.txt t fun vs h => bt _ _ q.nd h).mono (Nat.le_succ n), z.nod, h, DpAll.append (DpAll.txt t _ _ z.tfz z.tdp) (.cons (Dp.txt t d v hf hd) .nil),
    fzAll_app z.tfz (fzAll_one hf), by rw [List.length_append]; exact Nat.succ_le_succ z.tlen, z.ne1, z.ne2, z.ne3, z.na, z.nt, z.nd, same_but z.same bt z.nd, z.len⟩
theorem RdAt.row_app {v : V} {d : PyData} {q : Addr} {rest : List Addr} {row : List PyData} {s : List (List PyData)} {rd : Bool} {td : List PyData} {vs : List V} (z : RdAt K CR H0 H a n ⟨row :: s, rd, td⟩ dx pt pd (q :: rest) tv) (hq : H q = some (.lst vs)) (hv : DpAll K H vs row)
    (hd : Dp K H v d) (hf : Lay.fz d = true) (bt : But q H H') (t : Txt H H') (h : H' q = some (.lst (vs ++ [v]))) : RdAt K CR H0 H' a (n + 1) ⟨(row ++ [d]) :: s, rd, td⟩ dx pt pd (q :: rest) tv := by
  have hr := z.row
  cases hr with
  | cons h1 h2 =>
    have hnd := List.nodup_cons.mp z.nod
    refine ⟨bt _ _ (Ne.symm h1.na) z.obj, bt _ _ (Ne.symm h1.nt) z.tup, .cons ?_ ?_, z.nod, bt _ _ (Ne.symm h1.nd) z.told, DpAll.txt t _ _ z.tfz z.tdp, z.tfz, Nat.le_succ_of_le z.tlen, z.ne1, z.ne2, z.ne3, z.na, z.nt, z.nd, same_but z.same bt h1.fr, z.len⟩
    · exact ⟨h1.na, h1.nt, h1.nd, h1.fr, by rw [List.length_append]; exact Nat.succ_le_succ h1.len, fzAll_app h1.fz (fzAll_one hf), _, h, DpAll.append (DpAll.txt t _ _ h1.fz hv) (.cons (Dp.txt t d v hf hd) .nil)⟩
    · exact paired_mem h2 fun x y hx q2 => (q2.txt t fun vs h => bt _ _ (fun e => hnd.1 (e ▸ hx)) h).mono (Nat.le_succ n)
theorem RdAt.push {q : Addr} (z : RdAt K CR H0 H a n r dx pt pd rows tv) (hl : r.st.length < 1000) (hq : H q = some (.lst [])) (n0 : H0 q = none) (n1 : q ∉ rows) (n2 : q ≠ a) (n3 : q ≠ pt) (n4 : q ≠ pd) (bt : But pt H H') (t : Txt H H') (h : H' pt = some (.lst (rows.reverse.map .ref ++ [.ref q]))) :
    RdAt K CR H0 H' a n ⟨[] :: r.st, r.rd, r.td⟩ dx pt pd (q :: rows) tv := by
  refine ⟨bt _ _ (Ne.symm z.ne2) z.obj, ?_, .cons ⟨n2, n3, n4, n0, Nat.zero_le _, rfl, [], bt _ _ n3 hq, .nil⟩ (Paired.mapP z.row fun _ _ q => q.txt t fun vs h => bt _ _ q.nt h), List.nodup_cons.mpr ⟨n1, z.nod⟩, bt _ _ (Ne.symm z.ne1) z.told, DpAll.txt t _ _ z.tfz z.tdp, z.tfz, z.tlen, z.ne1, z.ne2, z.ne3, z.na, z.nt, z.nd, same_but z.same bt z.nt, hl⟩
  rw [h]
  simp
theorem RdAt.pop {q : Addr} {rest : List Addr} {row : List PyData} {s : List (List PyData)} {rd : Bool} {td : List PyData} (z : RdAt K CR H0 H a n ⟨row :: s, rd, td⟩ dx pt pd (q :: rest) tv) (bt : But pt H H') (t : Txt H H') (h : H' pt = some (.lst (rest.reverse.map .ref))) :
    RdAt K CR H0 H' a n ⟨s, rd, td⟩ dx pt pd rest tv := by
  have hr := z.row
  cases hr with
  | cons h1 h2 =>
    exact ⟨bt _ _ (Ne.symm z.ne2) z.obj, h, Paired.mapP h2 fun _ _ q => q.txt t fun vs h => bt _ _ q.nt h, (List.nodup_cons.mp z.nod).2, bt _ _ (Ne.symm z.ne1) z.told, DpAll.txt t _ _ z.tfz z.tdp, z.tfz, z.tlen, z.ne1, z.ne2, z.ne3, z.na, z.nt, z.nd, same_but z.same bt z.nt, Nat.le_of_succ_le z.len⟩
def spItem (K : PySem.W.Frag) (CM CR : Addr) : Sp := fun vs H Q E => ∃ H0 n r a v d, vs = [.ref a, v] ∧ Rd K CR H0 H a n r ∧ n ≤ 1000000 ∧ Dp K H v d ∧ Lay.fz d = true ∧
  (∀ r', r.item d = some r' → ∀ H', Rd K CR H0 H' a (n + 1) r' → Q .non H') ∧ (r.item d = none → ∀ H', Same H0 H' → E (.ref CM) none H')
theorem ok_item {f : Addr} {fd : FuncData} (T : Facts w K mg CM) (RF : RdF K CR) (F : Fun K "item" "DataReader.item" s_DataReader_item f fd) : FnOk P w K mg base (CXm true P w) 1 f fd ["self", "value"] (spItem K CM CR) := by
  refine okM F sc_DataReader_item (fun vs H Q E h => ?_) (fun cdv A outer s H vs Q E hr h => ?_)
  · obtain ⟨H0, n, r, a, v, d, rfl, _⟩ := h
    rfl
  · obtain ⟨H0, n, r, a, v, d, rfl, ⟨dx, pt, pd, rows, tv, Z⟩, hn, hd, hf, q1, q2⟩ := h
    refine ⟨_, (pss_cons (ps_if (pt_not (pt_val (fld_A (K := K) (pv 0) rfl))) (pss_one (ps_raiseM rfl (tk_of rfl rfl rfl rfl) (mk_cst PySem.F.excBase_ValueError T.x_Malformed T.g_Malformed T.k_Malformed (raises_own T.s_Malformed T.t_Malformed) (by rfl)))) pss_nil)
    (pss_cons (ps_if (pt_cmpR op_gtA (pe_callB (call_lenA (K := K)) (by rfl) T.b_len (by decide +kernel) (pa_cons (fld_A (K := K) (pv 0) rfl) pa_nil)) pe_int (nomark _)) (pss_one (ps_expr (pe_bm PySem.F.plainAttrs_list PySem.F.slot_list_append PySem.F.type_list_append mt_append (pe_ix (ix_A (K := K)) (fld_A (K := K) (pv 0) rfl) (pe_un un_neg pe_int) (fun _ _ => rfl)) (pa_cons (pv 1) pa_nil)))) (pss_one (ps_expr (pe_bm PySem.F.plainAttrs_list PySem.F.slot_list_append PySem.F.type_list_append mt_append (fld_A (K := K) (pv 0) rfl) (pa_cons (pv 1) pa_nil)))))
    (pss_one (ps_fld (pv 0) pe_bl rfl)))), ?_⟩
    try dsimp only [cxOf]
    refine w_start (show _ = [some _, some _] from rfl) ?_
    have hc := RF.cls
    have hf1 := RF.f1
    have hf2 := RF.f2
    have hf3 := RF.f3
    obtain ⟨st, rd, td⟩ := r
    have ho : H a = some (.ins CR dx (flds pt pd rd)) := Z.obj
    have ht := Z.tup
    have hto := Z.told
    walk_at "go"
    cases rd with
    | false =>
      walk_at "go"
      exact q2 rfl H Z.same
    | true =>
      have fin : ∀ (r' : R) H2, (R.mk st true td).item d = some r' → ∀ rows tv, RdAt K CR H0 H2 a (n + 1) ⟨r'.st, true, r'.td⟩ dx pt pd rows tv → r'.rd = false → ∀ σ2 : L2.St, σ2[0]? = some (some (.ref a)) →
          sFld K (tVar 0) (tC (V.bl false)) "ready" ⟨fun x H' => Q .non H', Q, fun _ _ => False, fun _ _ => False⟩ σ2 H2 := fun r' H2 hi rows tv Z2 hrd σ2 hσ => by
        have ho2 := Z2.obj
        walk_at "go"
        refine ⟨_, hσ, ?_⟩
        refine w_sfldAt ho2 hc hf2 (Nat.le_of_ble_eq_true rfl) fun H3 b3 t3 h3 => ?_
        refine q1 r' hi H3 ⟨dx, pt, pd, rows, tv, ?_⟩
        obtain ⟨st', rd', td'⟩ := r'
        cases hrd
        exact Z2.ready b3 t3 h3
      walk_at "go"
      cases st with
      | nil =>
        have hrow := Z.row
        cases hrow
        walk_at "go"
        have hl := DpAll.length Z.tdp
        have hl2 : td.length ≤ n := Z.tlen
        refine w_appG hto (by rw [hl]; exact Nat.le_trans hl2 (by omega)) fun H2 b2 t2 h2 => ?_
        exact fin _ H2 rfl _ _ (Z.told_app hd hf b2 t2 h2) rfl _ rfl
      | cons row st =>
        have hrow := Z.row
        cases hrow with
        | @cons q _ rest _ h1 h2 =>
          have hpos : decide ((0 : Int) < (((List.map V.ref (q :: rest).reverse).length : Nat) : Int)) = true := decide_eq_true (by simp)
          walk_at "go"
          refine w_ix (.inl (SqL.of ht)) (by rw [List.reverse_cons, List.map_append]; exact atI_last _ _) ?_
          obtain ⟨vs, h3, h4⟩ := h1.at_
          walk_at "go"
          have hl := DpAll.length h4
          have hl2 := h1.len
          refine w_appG h3 (by omega) fun H2 b2 t2 h2 => ?_
          exact fin _ H2 rfl _ _ (Z.row_app h3 h4 hd hf b2 t2 h2) rfl _ rfl
end
end K66

set_option exponentiation.threshold 256
set_option Elab.async false
set_option linter.all false
set_option maxRecDepth 100000
set_option maxHeartbeats 4000000
set_option exponentiation.threshold 10
namespace K66
open PySem PySem.Spec PyProof.Rows L2 Lay DataM PySem.NumText
local macro_rules | `(tactic| walk_at "1") => `(tactic| first
  | with_reducible refine w_seq ?_
  | ((with_reducible refine w_var (v := ?vv) ?hv ?_); (case hv => rfl))
  | with_reducible refine w_c ?_
  | with_reducible refine w_m1 ?_
  | with_reducible refine w_isstr ?_
  | with_reducible refine w_bm0 ?_
  | with_reducible refine w_bm ?_
  | with_reducible refine w_gcons ?_
  | with_reducible refine w_gnil ?_
  | ((with_reducible refine w_ty (xs := ?vv) ?hv ?_); (case hv => walk_at "hx"))
  | ((with_reducible refine w_gtup (xs := ?vv) ?hv ?hl ?_); (case hv => walk_at "hx"); (case hl => rfl))
  | with_reducible refine w_for1 ?_
  | with_reducible refine w_for2 ?_
  | with_reducible refine w_for3 ?_
  | with_reducible refine w_forA ?_
  | with_reducible refine w_forE ?_
  | ((with_reducible refine w_aug (x := ?vv) ?hv ?_); (case hv => rfl))
  | with_reducible refine w_op ?_
  | with_reducible refine w_cb ?_
  | with_reducible refine w_acons ?_
  | with_reducible refine w_anil ?_
  | with_reducible refine w_set ?_
  | with_reducible refine w_if ?_
  | with_reducible refine w_test ?_
  | with_reducible refine w_tB ?_
  | with_reducible refine w_bl ?_
  | with_reducible refine w_and ?_
  | with_reducible refine w_or ?_
  | with_reducible refine w_not ?_
  | with_reducible refine w_iteT ?_
  | with_reducible refine w_iteF ?_
  | with_reducible refine w_ret ?_
  | with_reducible refine w_next ?_
  | with_reducible refine w_drop ?_
  | with_reducible refine w_call ?_
  | with_reducible refine w_ifx ?_
  | with_reducible refine w_andV ?_
  | with_reducible refine w_orV ?_
  | with_reducible refine w_notV ?_
  | with_reducible refine w_sl ?_
  | with_reducible refine w_nopart ?_
  | with_reducible refine w_part ?_
  | with_reducible refine w_exint ?_
  | with_reducible refine w_chain ?_
  | with_reducible refine w_par ?_
  | with_reducible refine w_two ?_
  | with_reducible refine w_par3 ?_
  | with_reducible refine w_three ?_
  | with_reducible refine w_asg ?_
  | with_reducible refine w_gset ?_
  | with_reducible refine w_retN ?_
  | with_reducible refine w_brk ?_
  | with_reducible refine w_cont ?_
  | with_reducible refine w_un ?_
  | with_reducible refine w_neg ?_
  | with_reducible refine w_callS ?_
  | with_reducible refine w_tup0 ?_
  | with_reducible refine w_lst0 ?_
  | with_reducible refine w_fld0 ?_
  | with_reducible refine w_sfld ?_
  | with_reducible refine w_gsub ?_
  | with_reducible refine w_iAny ?_
  | with_reducible refine w_iR1 ?_
  | with_reducible refine w_make ?_
  | with_reducible refine w_meth ?_
  | with_reducible refine w_mk1 ?_)
local macro_rules | `(tactic| walk_at "2") => `(tactic| first
  | with_reducible refine w_add_int ?_
  | with_reducible refine w_sub ?_
  | ((with_reducible refine w_add_str ?hl ?_); (case hl => walk_at "len"))
  | ((with_reducible refine w_mod ?hl ?_); (case hl => first | decide | omega))
  | ((with_reducible refine w_fdiv ?h1 ?h2 ?_); (case h1 => first | decide | omega); (case h2 => first | decide | omega))
  | ((with_reducible refine w_mulR ?h1 ?h2 ?_); (case h1 => first | decide | omega); (case h2 => first | decide | omega))
  | ((with_reducible refine w_mulL ?h1 ?h2 ?_); (case h1 => first | decide | omega); (case h2 => first | decide | omega))
  | with_reducible refine w_iadd_int ?_
  | ((with_reducible refine w_iadd_str ?hl ?_); (case hl => walk_at "len"))
  | ((with_reducible refine w_mk ?hl ?_); (case hl => walk_at "len"))
  | with_reducible refine w_lt_int ?_
  | with_reducible refine w_lt_str ?_
  | with_reducible refine w_le_int ?_
  | with_reducible refine w_le_str ?_
  | with_reducible refine w_gt ?_
  | with_reducible refine w_ge ?_
  | with_reducible refine w_eq_int ?_
  | with_reducible refine w_eq_str ?_
  | with_reducible refine w_ne_int ?_
  | with_reducible refine w_ne_str ?_
  | ((with_reducible refine w_isInt (d := ?vd) ?hd ?_); (case hd => walk_at "dp"))
  | ((with_reducible refine w_isBool (d := ?vd) ?hd ?_); (case hd => walk_at "dp"))
  | ((with_reducible refine w_isStr (d := ?vd) ?hd ?_); (case hd => walk_at "dp"))
  | ((with_reducible refine w_isTup (d := ?vd) ?hd ?_); (case hd => walk_at "dp"))
  | ((with_reducible refine w_isLst (d := ?vd) ?hd ?_); (case hd => walk_at "dp"))
  | refine w_in_str ?_
  | refine w_nin_str ?_
  | ((with_reducible refine w_ixL (xs := ?vv) (y := ?vr) ?h ?ha ?_); (case h => walk_at "hx"); (case ha => rfl))
  | with_reducible refine w_is ?_
  | with_reducible refine w_isnot ?_
  | ((with_reducible refine w_len_str ?hl ?_); (case hl => walk_at "len"))
  | ((with_reducible refine w_len (xs := ?vv) ?hl ?_); (case hl => walk_at "hx"))
  | with_reducible refine w_int_int ?_
  | with_reducible refine w_str_str ?_
  | with_reducible refine w_abs ?_
  | ((with_reducible refine w_sl_str ?hl ?_); (case hl => walk_at "len"))
  | ((with_reducible refine w_fldAt (C := ?vC) (dx := ?vdx) (fs := ?vfs) (v := ?vv) ?h1 ?h2 ?h3 ?h4 ?_); (case h1 => walk_at "hx"); (case h2 => assumption); (case h3 => assumption); (case h4 => rfl))
  | ((with_reducible refine w_methAt (dx := ?vdx) (fs := ?vfs) ?h1 ?h2 ?_); (case h1 => walk_at "hx"); (case h2 => rfl))
  | ((with_reducible refine w_iteP ?h1 ?_); (case h1 => walk_at "yes"))
  | ((with_reducible refine w_iteN ?h1 ?_); (case h1 => walk_at "no")))
local macro_rules | `(tactic| walk_at "yes") => `(tactic| first | assumption | ((with_reducible refine bnotT ?_); walk_at "no") | (refine decide_eq_true ?_; first | assumption | omega) | exact rfl)
local macro_rules | `(tactic| walk_at "no") => `(tactic| first | assumption | ((with_reducible refine bnotF ?_); walk_at "yes") | (refine decide_eq_false ?_; first | assumption | omega) | exact rfl)
local macro_rules | `(tactic| walk_at "len") => `(tactic| first | assumption | exact Nat.le_of_ble_eq_true rfl | omega | decide | (simp only [List.length_append, List.length_cons, List.length_nil, List.length_map]; omega))
local macro_rules | `(tactic| walk_at "ne") => `(tactic| first | assumption | (refine Ne.symm ?_; assumption))
local macro_rules | `(tactic| walk_at "hx") => `(tactic| first
  | assumption
  | exact upd_same
  | ((with_reducible refine sqa_l ?_); walk_at "hx")
  | ((with_reducible refine sqa_t ?_); walk_at "hx")
  | ((with_reducible refine SqL.of ?_); walk_at "hx")
  | ((with_reducible refine SqT.of ?_); walk_at "hx")
  | ((with_reducible refine at_same (by assumption) ?_); walk_at "hx")
  | ((with_reducible refine at_but (by assumption) ?hne ?_); (case hne => walk_at "ne"); walk_at "hx")
  | ((with_reducible refine Txt.tup (by assumption) _ _ ?_); walk_at "hx")
  | ((with_reducible refine Same.seq (by assumption) ?_); walk_at "hx")
  | ((with_reducible refine Same.seqT (by assumption) ?_); walk_at "hx")
  | ((with_reducible refine Dp.same (by assumption) _ _ ?_); walk_at "hx")
  | ((with_reducible refine DpAll.same (by assumption) _ _ ?_); walk_at "hx"))
local macro_rules | `(tactic| walk_at "go") => `(tactic| repeat (first | walk_at "1" | walk_at "2"))
local macro_rules | `(tactic| walk_at "dp") => `(tactic| first | exact .int _ | exact .str _ | exact .bl _ | exact .non | walk_at "hx")

section
variable {P : Program} {w : World} {K : PySem.W.Frag} {mg : Str → Option Value} {base : Heap} {CM CR : Addr}
def spStep (K : PySem.W.Frag) (CM CR : Addr) (g : R → Option R) : Sp := fun vs H Q E => ∃ H0 n r a, vs = [.ref a] ∧ Rd K CR H0 H a n r ∧ n ≤ 1000000 ∧
  (∀ r', g r = some r' → ∀ H', Rd K CR H0 H' a (n + 1) r' → Q .non H') ∧ (g r = none → ∀ H', Same H0 H' → E (.ref CM) none H')
theorem ok_open {f : Addr} {fd : FuncData} (T : Facts w K mg CM) (RF : RdF K CR) (F : Fun K "open_one" "DataReader.open_one" s_DataReader_open_one f fd) : FnOk P w K mg base (CXm true P w) 1 f fd ["self"] (spStep K CM CR R.opn) := by
  refine okM F sc_DataReader_open_one (fun vs H Q E h => ?_) (fun cdv A outer s H vs Q E hr h => ?_)
  · obtain ⟨H0, n, r, a, rfl, _⟩ := h
    rfl
  · obtain ⟨H0, n, r, a, rfl, ⟨dx, pt, pd, rows, tv, Z⟩, hn, q1, q2⟩ := h
    refine ⟨_, (pss_cons (ps_if (PW.pt (pw_or (pt_not (pt_val (fld_A (K := K) (pv 0) rfl))) (pw_or1 (pt_cmpR op_geA (pe_callB (call_lenA (K := K)) (by rfl) T.b_len (by decide +kernel) (pa_cons (fld_A (K := K) (pv 0) rfl) pa_nil)) (pe_gc (by rfl) T.c_MOST_DEPTH) (nomark _))))) (pss_one (ps_raiseM rfl (tk_of rfl rfl rfl rfl) (mk_cst PySem.F.excBase_ValueError T.x_Malformed T.g_Malformed T.k_Malformed (raises_own T.s_Malformed T.t_Malformed) (by rfl)))) pss_nil)
    (pss_one (ps_expr (pe_bm PySem.F.plainAttrs_list PySem.F.slot_list_append PySem.F.type_list_append mt_append (fld_A (K := K) (pv 0) rfl) (pa_cons (pe_lstG pa_nil) pa_nil))))), ?_⟩
    try dsimp only [cxOf]
    refine w_start (show _ = [some _] from rfl) ?_
    have hc := RF.cls
    have hf1 := RF.f1
    have hf2 := RF.f2
    have hf3 := RF.f3
    obtain ⟨st, rd, td⟩ := r
    have ho : H a = some (.ins CR dx (flds pt pd rd)) := Z.obj
    have ht := Z.tup
    have hlen : rows.length = st.length := Z.row.length
    walk_at "go"
    cases rd with
    | false =>
      walk_at "go"
      refine q2 ?_ H Z.same
      simp [R.opn]
    | true =>
      walk_at "go"
      rw [List.length_map, List.length_reverse, hlen]
      refine w_ite (fun h => ?_) (fun h => ?_)
      · have h' : ¬ st.length < 1000 := by
          have := of_decide_eq_true h
          omega
        walk_at "go"
        refine q2 ?_ H Z.same
        simp [R.opn, h']
      · have h' : st.length < 1000 := by
          have := of_decide_eq_false h
          omega
        walk_at "go"
        intro q H2 n2 e2 h2
        walk_at "go"
        have Z2 := Z.go e2
        have ht2 := e2 _ _ ht
        refine w_appG ht2 (by rw [List.length_map, List.length_reverse]; omega) fun H3 b3 t3 h3 => ?_
        refine q1 ⟨[] :: st, true, td⟩ (by simp [R.opn, h']) H3 ⟨dx, pt, pd, q :: rows, tv, ?_⟩
        refine (Z2.push (q := q) h' h2 (none_same Z.same n2) (fun hq => ?_) (fun e => ?_) (fun e => ?_) (fun e => ?_) b3 t3 h3).mono (Nat.le_succ n)
        · obtain ⟨ds, z⟩ := paired_get Z.row q hq
          obtain ⟨vs, z1, _⟩ := z.at_
          rw [n2] at z1
          cases z1
        · rw [e, ho] at n2
          cases n2
        · rw [e, ht] at n2
          cases n2
        · rw [e, Z.told] at n2
          cases n2
theorem ok_comma {f : Addr} {fd : FuncData} (T : Facts w K mg CM) (RF : RdF K CR) (F : Fun K "comma" "DataReader.comma" s_DataReader_comma f fd) : FnOk P w K mg base (CXm true P w) 1 f fd ["self"] (spStep K CM CR R.com) := by
  refine okM F sc_DataReader_comma (fun vs H Q E h => ?_) (fun cdv A outer s H vs Q E hr h => ?_)
  · obtain ⟨H0, n, r, a, rfl, _⟩ := h
    rfl
  · obtain ⟨H0, n, r, a, rfl, ⟨dx, pt, pd, rows, tv, Z⟩, hn, q1, q2⟩ := h
    refine ⟨_, (pss_cons (ps_if (PW.pt (pw_or (pt_val (fld_A (K := K) (pv 0) rfl)) (pw_or1 (pt_cmpR (op_eqA (K := K) hr.units) (pe_callB (call_lenA (K := K)) (by rfl) T.b_len (by decide +kernel) (pa_cons (fld_A (K := K) (pv 0) rfl) pa_nil)) pe_int (nomark _))))) (pss_one (ps_raiseM rfl (tk_of rfl rfl rfl rfl) (mk_cst PySem.F.excBase_ValueError T.x_Malformed T.g_Malformed T.k_Malformed (raises_own T.s_Malformed T.t_Malformed) (by rfl)))) pss_nil)
    (pss_one (ps_fld (pv 0) pe_bl rfl))), ?_⟩
    try dsimp only [cxOf]
    refine w_start (show _ = [some _] from rfl) ?_
    have hc := RF.cls
    have hf1 := RF.f1
    have hf2 := RF.f2
    have hf3 := RF.f3
    obtain ⟨st, rd, td⟩ := r
    have ho : H a = some (.ins CR dx (flds pt pd rd)) := Z.obj
    have ht := Z.tup
    have hlen : rows.length = st.length := Z.row.length
    walk_at "go"
    cases rd with
    | true =>
      walk_at "go"
      refine q2 ?_ H Z.same
      simp [R.com]
    | false =>
      walk_at "go"
      rw [List.length_map, List.length_reverse, hlen]
      cases st with
      | nil =>
        walk_at "go"
        exact q2 (by simp [R.com]) H Z.same
      | cons row st =>
        refine w_iteN (decide_eq_false (by simp; omega)) ?_
        walk_at "go"
        refine w_sfldAt ho hc hf2 (Nat.le_of_ble_eq_true rfl) fun H3 b3 t3 h3 => ?_
        exact q1 ⟨row :: st, true, td⟩ (by simp [R.com]) H3 ⟨dx, pt, pd, rows, tv, (Z.ready b3 t3 h3).mono (Nat.le_succ n)⟩
theorem ok_close {f : Addr} {fd : FuncData} (T : Facts w K mg CM) (RF : RdF K CR) (F : Fun K "close_one" "DataReader.close_one" s_DataReader_close_one f fd) (c_DataReader_item : MeC (CXm true P w) P w K mg base 1 CR "item" (spItem K CM CR)) :
    FnOk P w K mg base (CXm true P w) 2 f fd ["self"] (spStep K CM CR R.cls) := by
  refine okM F sc_DataReader_close_one (fun vs H Q E h => ?_) (fun cdv A outer s H vs Q E hr h => ?_)
  · obtain ⟨H0, n, r, a, rfl, _⟩ := h
    rfl
  · obtain ⟨H0, n, r, a, rfl, ⟨dx, pt, pd, rows, tv, Z⟩, hn, q1, q2⟩ := h
    refine ⟨_, (pss_cons (ps_if (PW.pt (pw_or (pt_cmpR (op_eqA (K := K) hr.units) (pe_callB (call_lenA (K := K)) (by rfl) T.b_len (by decide +kernel) (pa_cons (fld_A (K := K) (pv 0) rfl) pa_nil)) pe_int (nomark _)) (pw_or1 (PW.pt (pw_and (pt_val (fld_A (K := K) (pv 0) rfl)) (pw_and1 (pt_cmpR op_gtA (pe_callB (call_lenA (K := K)) (by rfl) T.b_len (by decide +kernel) (pa_cons (pe_ix (ix_A (K := K)) (fld_A (K := K) (pv 0) rfl) (pe_un un_neg pe_int) (fun _ _ => rfl)) pa_nil)) pe_int (nomark _)))))))) (pss_one (ps_raiseM rfl (tk_of rfl rfl rfl rfl) (mk_cst PySem.F.excBase_ValueError T.x_Malformed T.g_Malformed T.k_Malformed (raises_own T.s_Malformed T.t_Malformed) (by rfl)))) pss_nil)
    (pss_cons (ps_set (i := 1) sc_DataReader_close_one.nd rfl (by first | exact Or.inl rfl | exact Or.inr rfl) (pe_callTy (call_tupA (K := K)) (by rfl) T.b_tuple (by decide +kernel) (pa_cons (pe_bm0 PySem.F.plainAttrs_list PySem.F.slot_list_pop PySem.F.type_list_pop mt_pop (fld_A (K := K) (pv 0) rfl)) pa_nil)))
    (pss_cons (ps_fld (pv 0) pe_bl rfl)
    (pss_one (ps_expr (pe_me c_DataReader_item hr (by first | decide | omega) (passM (c' := true) (tk_of rfl rfl rfl rfl) (.inl rfl) (fun _ _ _ _ h => h)) (pv 0) (pa_cons (pv 1) pa_nil))))))), ?_⟩
    try dsimp only [cxOf]
    refine w_start (show _ = [some _, none] from rfl) ?_
    have hc := RF.cls
    have hf1 := RF.f1
    have hf2 := RF.f2
    have hf3 := RF.f3
    obtain ⟨st, rd, td⟩ := r
    have ho : H a = some (.ins CR dx (flds pt pd rd)) := Z.obj
    have ht := Z.tup
    have hlen : rows.length = st.length := Z.row.length
    walk_at "go"
    rw [List.length_map, List.length_reverse, hlen]
    cases st with
    | nil =>
      walk_at "go"
      exact q2 rfl H Z.same
    | cons row st =>
      refine w_iteN (decide_eq_false (by simp; omega)) ?_
      have hrow := Z.row
      cases hrow with
      | @cons q _ rest _ h1 hrest =>
        obtain ⟨vs, h3, h4⟩ := h1.at_
        have hl := DpAll.length h4
        have hl2 := h1.len
        walk_at "go"
        have rest_ok : ¬ (rd = true ∧ row ≠ []) → rPop (.ref pt) [] H fun x H1 => tNil [some (.ref a), none] H1 fun xs H2 => rTupA K (x :: xs) H2 fun x H1 => gName 1 x [some (.ref a), none] H1 (tSeq (sFld K (tVar 0) (tC (V.bl true)) "ready") (tDrop (tMeth CR "item" (spItem K CM CR) [] E (tVar 0) (tCons (tVar 1) tNil))) ⟨fun x H' => Q .non H', Q, fun _ _ => False, fun _ _ => False⟩) := fun hno => by
          have ht' : H pt = some (.lst (rest.reverse.map V.ref ++ [.ref q])) := by
            rw [ht]
            simp
          refine w_popG ht' fun H2 b2 t2 h2 => ?_
          have Z2 := Z.pop b2 t2 h2
          have h32 := b2 _ _ h1.nt h3
          walk_at "go"
          refine w_tupL (SqL.of h32) ?_
          intro p H3 n3 e3 h3'
          have Z3 := Z2.go e3
          have ho3 : H3 a = some (.ins CR dx (flds pt pd rd)) := Z3.obj
          have hv3 := DpAll.same e3 _ _ (DpAll.txt t2 _ _ h1.fz h4)
          walk_at "go"
          refine w_sfldAt ho3 hc hf2 (Nat.le_of_ble_eq_true rfl) fun H4 b4 t4 h4' => ?_
          have Z4 := Z3.ready b4 t4 h4'
          have hp4 := t4.tup _ _ h3'
          have ho4 : H4 a = some (.ins CR dx (flds pt pd true)) := h4'
          walk_at "go"
          have e5 : (R.mk (row :: st) rd td).cls = R.item ⟨st, true, td⟩ (.tuple row) := by
            show (if rd = true ∧ row ≠ [] then none else _) = _
            rw [if_neg hno]
          refine ⟨H0, n, ⟨st, true, td⟩, a, .ref p, .tuple row, rfl, ⟨dx, pt, pd, rest, tv, Z4⟩, hn, .tup (SqT.of hp4) (DpAll.txt t4 _ _ h1.fz hv3), h1.fz, fun r' hi => q1 r' (e5.trans hi), fun hi => q2 (e5.trans hi)⟩
        cases rd with
        | false =>
          walk_at "go"
          exact rest_ok (fun h => by cases h.1)
        | true =>
          walk_at "go"
          refine w_ix (.inl (SqL.of ht)) (by rw [List.reverse_cons, List.map_append]; exact atI_last _ _) ?_
          walk_at "go"
          cases row with
          | nil =>
            rw [hl]
            walk_at "go"
            exact rest_ok (fun h => h.2 rfl)
          | cons d row =>
            refine w_iteP (decide_eq_true (by rw [hl]; simp)) ?_
            walk_at "go"
            refine q2 ?_ H Z.same
            show (if (true = true ∧ d :: row ≠ []) then none else R.item ⟨st, true, td⟩ (.tuple (d :: row))) = none
            exact if_pos ⟨rfl, by simp⟩
def spTake (K : PySem.W.Frag) (CM CR : Addr) : Sp := fun vs H Q E => ∃ H0 n r a, ∃ s : Str, vs = [.ref a, .str s] ∧ s.length ≤ 1000000 ∧ Rd K CR H0 H a n r ∧ n ≤ 1000000 ∧
  (∀ r', r.take s.cps.toList = some r' → ∀ H', Rd K CR H0 H' a (n + 1) r' → Q .non H') ∧ (r.take s.cps.toList = none → ∀ H', Same H0 H' → E (.ref CM) none H')
theorem one_eq (s : Str) (c : Nat) (t : Str) (ht : t.cps.toList = [c]) : decide (s = t) = decide (s.cps.toList = [c]) := by
  rw [decide_eq_decide]
  exact ⟨fun h => by rw [h, ht], fun h => str_ext (by rw [h, ht])⟩
theorem atom_fz {p : Tx} {d : PyData} (h : atomT p = some d) : Lay.fz d = true := by
  unfold atomT at h
  repeat' split at h
  all_goals first
    | (cases h; rfl)
    | cases h
theorem atom_dp {p : Tx} {d : PyData} {H : Hp} (h : atomT p = some d) : Dp K H (atV d) d := by
  unfold atomT at h
  repeat' split at h
  all_goals first
    | (cases h; exact .bl _)
    | (cases h; exact .str _)
    | (cases h; exact .int _)
    | cases h
theorem Rd.go {H0 H H' : Hp} {a : Addr} {n : Nat} {r : R} (z : Rd K CR H0 H a n r) (e : Same H H') : Rd K CR H0 H' a n r := by
  obtain ⟨dx, pt, pd, rows, tv, Z⟩ := z
  exact ⟨dx, pt, pd, rows, tv, Z.go e⟩
theorem ok_take {f : Addr} {fd : FuncData} (T : Facts w K mg CM) (RF : RdF K CR) (F : Fun K "take" "DataReader.take" s_DataReader_take f fd) (c_read_atom : FnM true P w K mg base 2 "read_atom" (spReadA K CM)) (c_DataReader_item : MeC (CXm true P w) P w K mg base 1 CR "item" (spItem K CM CR))
    (c_DataReader_open_one : MeC (CXm true P w) P w K mg base 1 CR "open_one" (spStep K CM CR R.opn)) (c_DataReader_comma : MeC (CXm true P w) P w K mg base 1 CR "comma" (spStep K CM CR R.com)) (c_DataReader_close_one : MeC (CXm true P w) P w K mg base 2 CR "close_one" (spStep K CM CR R.cls)) :
    FnOk P w K mg base (CXm true P w) 3 f fd ["self", "piece"] (spTake K CM CR) := by
  refine okM F sc_DataReader_take (fun vs H Q E h => ?_) (fun cdv A outer s H vs Q E hr h => ?_)
  · obtain ⟨H0, n, r, a, s, rfl, _⟩ := h
    rfl
  · obtain ⟨H0, n, r, a, z, rfl, hz, Z, hn, q1, q2⟩ := h
    refine ⟨_, (pss_one (ps_if (pt_cmpR (op_eqA (K := K) hr.units) (pv 1) pe_str (nomark _)) (pss_one (ps_expr (pe_me0 c_DataReader_open_one hr (by first | decide | omega) (passM (c' := true) (tk_of rfl rfl rfl rfl) (.inl rfl) (fun _ _ _ _ h => h)) (pv 0)))) (pss_one (ps_if (pt_cmpR (op_eqA (K := K) hr.units) (pv 1) pe_str (nomark _)) (pss_one (ps_expr (pe_me0 c_DataReader_close_one hr (by first | decide | omega) (passM (c' := true) (tk_of rfl rfl rfl rfl) (.inl rfl) (fun _ _ _ _ h => h)) (pv 0)))) (pss_one (ps_if (pt_cmpR (op_eqA (K := K) hr.units) (pv 1) pe_str (nomark _)) (pss_one (ps_expr (pe_me0 c_DataReader_comma hr (by first | decide | omega) (passM (c' := true) (tk_of rfl rfl rfl rfl) (.inl rfl) (fun _ _ _ _ h => h)) (pv 0)))) (pss_one (ps_expr (pe_me c_DataReader_item hr (by first | decide | omega) (passM (c' := true) (tk_of rfl rfl rfl rfl) (.inl rfl) (fun _ _ _ _ h => h)) (pv 0) (pa_cons (pe_fc c_read_atom hr (by first | decide | omega) (passM (c' := true) (tk_of rfl rfl rfl rfl) (.inl rfl) (fun _ _ _ _ h => h)) (pa_cons (pv 1) pa_nil)) pa_nil)))))))))), ?_⟩
    try dsimp only [cxOf]
    refine w_start (show _ = [some _, some _] from rfl) ?_
    obtain ⟨dx, pt, pd, rows, tv, ZZ⟩ := id Z
    have ho := ZZ.obj
    unfold R.take at q1 q2
    walk_at "go"
    rw [one_eq z 91 "[" rfl]
    refine w_ite (fun h1 => ?_) (fun h1 => ?_)
    · have h1' := of_decide_eq_true h1
      simp only [h1', if_true] at q1 q2
      walk_at "go"
      exact ⟨H0, n, r, a, rfl, Z, hn, q1, q2⟩
    · have h1' := of_decide_eq_false h1
      simp only [h1', if_false] at q1 q2
      walk_at "go"
      rw [one_eq z 93 "]" rfl]
      refine w_ite (fun h2 => ?_) (fun h2 => ?_)
      · have h2' := of_decide_eq_true h2
        simp only [h2', if_true] at q1 q2
        walk_at "go"
        exact ⟨H0, n, r, a, rfl, Z, hn, q1, q2⟩
      · have h2' := of_decide_eq_false h2
        simp only [h2', if_false] at q1 q2
        walk_at "go"
        rw [one_eq z 44 "," rfl]
        refine w_ite (fun h3 => ?_) (fun h3 => ?_)
        · have h3' := of_decide_eq_true h3
          simp only [h3', if_true] at q1 q2
          walk_at "go"
          exact ⟨H0, n, r, a, rfl, Z, hn, q1, q2⟩
        · have h3' := of_decide_eq_false h3
          simp only [h3', if_false] at q1 q2
          walk_at "go"
          refine ⟨z, rfl, hz, fun d hd H2 e2 => ?_, fun hd H2 e2 => ?_⟩
          · walk_at "go"
            rw [hd] at q1 q2
            exact ⟨H0, n, r, a, atV d, d, rfl, Z.go e2, hn, atom_dp hd, atom_fz hd, q1, q2⟩
          · exact q2 (by rw [hd]; rfl) H2 (ZZ.same.trans e2)
def spInit (K : PySem.W.Frag) (CR : Addr) : Sp := fun vs H Q E => ∃ H0 a dx, vs = [.ref a] ∧ H a = some (.ins CR dx []) ∧ Same H0 H ∧ H0 a = none ∧ ∀ H', Rd K CR H0 H' a 0 R.zero → Q .non H'
theorem ok_init {f : Addr} {fd : FuncData} (T : Facts w K mg CM) (RF : RdF K CR) (F : Fun K "__init__" "DataReader.__init__" s_DataReader___init__ f fd) : FnOk P w K mg base CX0 1 f fd ["self"] (spInit K CR) := by
  refine F.ok sc_DataReader___init__ (fun vs H Q E h => ?_) (fun cdv A outer s H vs Q E hr h => ?_)
  · obtain ⟨H0, a, dx, rfl, _⟩ := h
    rfl
  · obtain ⟨H0, a, dx, rfl, ho, hs, na, q⟩ := h
    refine ⟨_, (pss_cons (ps_fld (pv 0) (pe_lstG pa_nil) rfl)
    (pss_cons (ps_fld (pv 0) pe_bl rfl)
    (pss_one (ps_fld (pv 0) (pe_lstG pa_nil) rfl)))), ?_⟩
    try dsimp only [cxOf]
    refine w_start (show _ = [some _] from rfl) ?_
    have hc := RF.cls
    have hf1 := RF.f1
    have hf2 := RF.f2
    have hf3 := RF.f3
    walk_at "go"
    intro pt H1 n1 e1 h1
    have ho1 := e1 _ _ ho
    walk_at "go"
    refine w_sfldAt ho1 hc hf1 (Nat.le_of_ble_eq_true rfl) fun H2 b2 t2 h2 => ?_
    walk_at "go"
    refine w_sfldAt h2 hc hf2 (Nat.le_of_ble_eq_true rfl) fun H3 b3 t3 h3 => ?_
    walk_at "go"
    intro pd H4 n4 e4 h4
    have ho4 := e4 _ _ h3
    walk_at "go"
    refine w_sfldAt ho4 hc hf3 (Nat.le_of_ble_eq_true rfl) fun H5 b5 t5 h5 => ?_
    have ne2 : pt ≠ a := fun e => by
      rw [e, ho] at n1
      cases n1
    have hp3 := b3 _ _ ne2 (b2 _ _ ne2 h1)
    have ne1 : pt ≠ pd := fun e => by
      rw [← e, hp3] at n4
      cases n4
    have ne3 : pd ≠ a := fun e => by
      rw [e, h3] at n4
      cases n4
    have s1 := hs.trans e1
    have s3 := same_but (same_but s1 b2 na) b3 na
    exact q H5 ⟨dx, pt, pd, [], [], h5, b5 _ _ ne2 (e4 _ _ hp3), .nil, List.nodup_nil, b5 _ _ ne3 h4, .nil, rfl, Nat.le_refl _, ne1, ne2, ne3, na, none_same hs n1, none_same s3 n4, same_but (s3.trans e4) b5 na, Nat.zero_le _⟩
end
end K66

set_option exponentiation.threshold 256
set_option Elab.async false
set_option linter.all false
set_option maxRecDepth 100000
set_option maxHeartbeats 4000000
set_option exponentiation.threshold 10
namespace K66
open PySem PySem.Spec PyProof.Rows L2 Lay DataM PySem.NumText
local macro_rules | `(tactic| walk_at "1") => `(tactic| first
  | with_reducible refine w_seq ?_
  | ((with_reducible refine w_var (v := ?vv) ?hv ?_); (case hv => rfl))
  | with_reducible refine w_c ?_
  | with_reducible refine w_m1 ?_
  | with_reducible refine w_isstr ?_
  | with_reducible refine w_bm0 ?_
  | with_reducible refine w_bm ?_
  | with_reducible refine w_gcons ?_
  | with_reducible refine w_gnil ?_
  | ((with_reducible refine w_ty (xs := ?vv) ?hv ?_); (case hv => walk_at "hx"))
  | ((with_reducible refine w_gtup (xs := ?vv) ?hv ?hl ?_); (case hv => walk_at "hx"); (case hl => rfl))
  | with_reducible refine w_for1 ?_
  | with_reducible refine w_for2 ?_
  | with_reducible refine w_for3 ?_
  | with_reducible refine w_forA ?_
  | with_reducible refine w_forE ?_
  | ((with_reducible refine w_aug (x := ?vv) ?hv ?_); (case hv => rfl))
  | with_reducible refine w_op ?_
  | with_reducible refine w_cb ?_
  | with_reducible refine w_acons ?_
  | with_reducible refine w_anil ?_
  | with_reducible refine w_set ?_
  | with_reducible refine w_if ?_
  | with_reducible refine w_test ?_
  | with_reducible refine w_tB ?_
  | with_reducible refine w_bl ?_
  | with_reducible refine w_and ?_
  | with_reducible refine w_or ?_
  | with_reducible refine w_not ?_
  | with_reducible refine w_iteT ?_
  | with_reducible refine w_iteF ?_
  | with_reducible refine w_ret ?_
  | with_reducible refine w_next ?_
  | with_reducible refine w_drop ?_
  | with_reducible refine w_call ?_
  | with_reducible refine w_ifx ?_
  | with_reducible refine w_andV ?_
  | with_reducible refine w_orV ?_
  | with_reducible refine w_notV ?_
  | with_reducible refine w_sl ?_
  | with_reducible refine w_nopart ?_
  | with_reducible refine w_part ?_
  | with_reducible refine w_exint ?_
  | with_reducible refine w_chain ?_
  | with_reducible refine w_par ?_
  | with_reducible refine w_two ?_
  | with_reducible refine w_par3 ?_
  | with_reducible refine w_three ?_
  | with_reducible refine w_asg ?_
  | with_reducible refine w_gset ?_
  | with_reducible refine w_retN ?_
  | with_reducible refine w_brk ?_
  | with_reducible refine w_cont ?_
  | with_reducible refine w_un ?_
  | with_reducible refine w_neg ?_
  | with_reducible refine w_callS ?_
  | with_reducible refine w_tup0 ?_
  | with_reducible refine w_lst0 ?_
  | with_reducible refine w_fld0 ?_
  | with_reducible refine w_sfld ?_
  | with_reducible refine w_gsub ?_
  | with_reducible refine w_iAny ?_
  | with_reducible refine w_iR1 ?_
  | with_reducible refine w_make ?_
  | with_reducible refine w_meth ?_
  | with_reducible refine w_mk1 ?_)
local macro_rules | `(tactic| walk_at "2") => `(tactic| first
  | with_reducible refine w_add_int ?_
  | with_reducible refine w_sub ?_
  | ((with_reducible refine w_add_str ?hl ?_); (case hl => walk_at "len"))
  | ((with_reducible refine w_mod ?hl ?_); (case hl => first | decide | omega))
  | ((with_reducible refine w_fdiv ?h1 ?h2 ?_); (case h1 => first | decide | omega); (case h2 => first | decide | omega))
  | ((with_reducible refine w_mulR ?h1 ?h2 ?_); (case h1 => first | decide | omega); (case h2 => first | decide | omega))
  | ((with_reducible refine w_mulL ?h1 ?h2 ?_); (case h1 => first | decide | omega); (case h2 => first | decide | omega))
  | with_reducible refine w_iadd_int ?_
  | ((with_reducible refine w_iadd_str ?hl ?_); (case hl => walk_at "len"))
  | ((with_reducible refine w_mk ?hl ?_); (case hl => walk_at "len"))
  | with_reducible refine w_lt_int ?_
  | with_reducible refine w_lt_str ?_
  | with_reducible refine w_le_int ?_
  | with_reducible refine w_le_str ?_
  | with_reducible refine w_gt ?_
  | with_reducible refine w_ge ?_
  | with_reducible refine w_eq_int ?_
  | with_reducible refine w_eq_str ?_
  | with_reducible refine w_ne_int ?_
  | with_reducible refine w_ne_str ?_
  | ((with_reducible refine w_isInt (d := ?vd) ?hd ?_); (case hd => walk_at "dp"))
  | ((with_reducible refine w_isBool (d := ?vd) ?hd ?_); (case hd => walk_at "dp"))
  | ((with_reducible refine w_isStr (d := ?vd) ?hd ?_); (case hd => walk_at "dp"))
  | ((with_reducible refine w_isTup (d := ?vd) ?hd ?_); (case hd => walk_at "dp"))
  | ((with_reducible refine w_isLst (d := ?vd) ?hd ?_); (case hd => walk_at "dp"))
  | refine w_in_str ?_
  | refine w_nin_str ?_
  | ((with_reducible refine w_ixL (xs := ?vv) (y := ?vr) ?h ?ha ?_); (case h => walk_at "hx"); (case ha => rfl))
  | with_reducible refine w_is ?_
  | with_reducible refine w_isnot ?_
  | ((with_reducible refine w_len_str ?hl ?_); (case hl => walk_at "len"))
  | ((with_reducible refine w_len (xs := ?vv) ?hl ?_); (case hl => walk_at "hx"))
  | with_reducible refine w_int_int ?_
  | with_reducible refine w_str_str ?_
  | with_reducible refine w_abs ?_
  | ((with_reducible refine w_sl_str ?hl ?_); (case hl => walk_at "len"))
  | ((with_reducible refine w_fldAt (C := ?vC) (dx := ?vdx) (fs := ?vfs) (v := ?vv) ?h1 ?h2 ?h3 ?h4 ?_); (case h1 => walk_at "hx"); (case h2 => assumption); (case h3 => assumption); (case h4 => rfl))
  | ((with_reducible refine w_methAt (dx := ?vdx) (fs := ?vfs) ?h1 ?h2 ?_); (case h1 => walk_at "hx"); (case h2 => rfl))
  | ((with_reducible refine w_iteP ?h1 ?_); (case h1 => walk_at "yes"))
  | ((with_reducible refine w_iteN ?h1 ?_); (case h1 => walk_at "no")))
local macro_rules | `(tactic| walk_at "yes") => `(tactic| first | assumption | ((with_reducible refine bnotT ?_); walk_at "no") | (refine decide_eq_true ?_; first | assumption | omega) | exact rfl)
local macro_rules | `(tactic| walk_at "no") => `(tactic| first | assumption | ((with_reducible refine bnotF ?_); walk_at "yes") | (refine decide_eq_false ?_; first | assumption | omega) | exact rfl)
local macro_rules | `(tactic| walk_at "len") => `(tactic| first | assumption | exact Nat.le_of_ble_eq_true rfl | omega | decide | (simp only [List.length_append, List.length_cons, List.length_nil, List.length_map]; omega))
local macro_rules | `(tactic| walk_at "ne") => `(tactic| first | assumption | (refine Ne.symm ?_; assumption))
local macro_rules | `(tactic| walk_at "hx") => `(tactic| first
  | assumption
  | exact upd_same
  | ((with_reducible refine sqa_l ?_); walk_at "hx")
  | ((with_reducible refine sqa_t ?_); walk_at "hx")
  | ((with_reducible refine SqL.of ?_); walk_at "hx")
  | ((with_reducible refine SqT.of ?_); walk_at "hx")
  | ((with_reducible refine at_same (by assumption) ?_); walk_at "hx")
  | ((with_reducible refine at_but (by assumption) ?hne ?_); (case hne => walk_at "ne"); walk_at "hx")
  | ((with_reducible refine Txt.tup (by assumption) _ _ ?_); walk_at "hx")
  | ((with_reducible refine Same.seq (by assumption) ?_); walk_at "hx")
  | ((with_reducible refine Same.seqT (by assumption) ?_); walk_at "hx")
  | ((with_reducible refine Dp.same (by assumption) _ _ ?_); walk_at "hx")
  | ((with_reducible refine DpAll.same (by assumption) _ _ ?_); walk_at "hx"))
local macro_rules | `(tactic| walk_at "go") => `(tactic| repeat (first | walk_at "1" | walk_at "2"))
local macro_rules | `(tactic| walk_at "dp") => `(tactic| first | exact .int _ | exact .str _ | exact .bl _ | exact .non | walk_at "hx")

section
variable {P : Program} {w : World} {K : PySem.W.Frag} {mg : Str → Option Value} {base : Heap} {CM CR : Addr}
theorem pcs_len : ∀ (l tok : Tx), (pcs tok l).length ≤ 2 * l.length + 1
  | [], tok => by
    rw [pcs_nil]
    split <;> simp
  | c :: l, tok => by
    rw [pcs_cons]
    have h1 := pcs_len l []
    have h2 := pcs_len l (tok ++ [c])
    split
    · split
      · simp only [List.length_append, List.length_cons, List.length_nil]
        omega
      · simp only [List.length_append, List.length_cons, List.length_nil]
        omega
    · simp only [List.length_cons]
      omega
theorem mem_flat_len {ps : List Tx} {p : Tx} (h : p ∈ ps) : p.length ≤ ps.flatten.length := by
  induction ps with
  | nil => cases h
  | cons q ps ih =>
    rw [List.flatten_cons, List.length_append]
    rcases List.mem_cons.mp h with rfl | h
    · omega
    · have := ih h
      omega
theorem RdAt.virt {H0 H H2 : Hp} {a : Addr} {n : Nat} {r : R} {dx pt pd D : Addr} {rows : List Addr} {tv : List V} {o : HO} (z : RdAt K CR H0 H a n r dx pt pd rows tv) (hD : H D = none) (e : Same H H2) (h : H2 D = some o) :
    RdAt K CR (upd H0 D o) H2 a n r dx pt pd rows tv := by
  have ne : ∀ b x, H b = some x → b ≠ D := fun b x hb => ne_of_none hb hD
  have z2 := z.go e
  have fr : ∀ b x, H b = some x → H0 b = none → upd H0 D o b = none := fun b x hb h0 => by
    rw [upd_ne (ne b x hb)]
    exact h0
  refine ⟨z2.obj, z2.tup, ?_, z2.nod, z2.told, z2.tdp, z2.tfz, z2.tlen, z2.ne1, z2.ne2, z2.ne3, fr _ _ z.obj z.na, fr _ _ z.tup z.nt, fr _ _ z.told z.nd, fun b x hb => ?_, z2.len⟩
  · have key : ∀ {rows : List Addr} {st : List (List PyData)}, Paired (RowAt K H0 H a pt pd n) rows st → Paired (RowAt K (upd H0 D o) H2 a pt pd n) rows st := by
      intro rows st hp
      exact Paired.mapP hp fun q ds k => by
        obtain ⟨vs, k1, k2⟩ := k.at_
        exact ⟨k.na, k.nt, k.nd, fr q _ k1 k.fr, k.len, k.fz, vs, e _ _ k1, DpAll.same e _ _ k2⟩
    exact key z.row
  · by_cases hb2 : b = D
    · subst hb2
      rw [upd_same] at hb
      rw [h]
      exact hb
    · rw [upd_ne hb2] at hb
      exact e _ _ (z.same b x hb)
theorem Rd.virt {H0 H H2 : Hp} {a : Addr} {n : Nat} {r : R} {D : Addr} {o : HO} (z : Rd K CR H0 H a n r) (hD : H D = none) (e : Same H H2) (h : H2 D = some o) : Rd K CR (upd H0 D o) H2 a n r := by
  obtain ⟨dx, pt, pd, rows, tv, Z⟩ := z
  exact ⟨dx, pt, pd, rows, tv, Z.virt hD e h⟩
theorem same_virt {H0 H : Hp} {D : Addr} {o : HO} (n : H0 D = none) (e : Same (upd H0 D o) H) : Same H0 H := fun b x hb => e b x (by rw [upd_ne (ne_of_none hb n)]; exact hb)
theorem Rd.same {H0 H : Hp} {a : Addr} {n : Nat} {r : R} (z : Rd K CR H0 H a n r) : Same H0 H := by
  obtain ⟨dx, pt, pd, rows, tv, Z⟩ := z
  exact Z.same
def readD : PyData → Option PyData
  | .str s => readT s.cps.toList
  | _ => none
def shortR : PyData → Prop
  | .str s => s.length ≤ 400000
  | _ => True
def spRead (K : PySem.W.Frag) (CM : Addr) : Sp := fun vs H Q E => ∃ v d, vs = [v] ∧ Dp K H v d ∧ shortR d ∧ (∀ d', readD d = some d' → ∀ v' H', Same H H' → Dp K H' v' d' → Lay.fz d' = true → Q v' H') ∧
  (readD d = none → ∀ H', Same H H' → E (.ref CM) none H')
theorem ok_read_data {f : Addr} {fd : FuncData} (T : Facts w K mg CM) (RF : RdF K CR) (F : Fun K "read_data" "read_data" s_read_data f fd) (c_pieces_of : Fn0 P w K mg base 1 "pieces_of" (spPieces K))
    (c_DataReader___init__ : MkC P w K mg base 1 "DataReader" CR (spInit K CR)) (c_DataReader_take : MeC (CXm true P w) P w K mg base 3 CR "take" (spTake K CM CR)) : FnOk P w K mg base (CXm true P w) 4 f fd ["text"] (spRead K CM) := by
  refine okM F sc_read_data (fun vs H Q E h => ?_) (fun cdv A outer s H vs Q E hr h => ?_)
  · obtain ⟨v, d, rfl, _⟩ := h
    rfl
  · obtain ⟨v, d, rfl, hd, hz, q1, q2⟩ := h
    refine ⟨_, (pss_cons (ps_if (pt_not (pt_val (pe_callB (call_isiA (K := K)) (by rfl) T.b_isinstance (by decide +kernel) (pa_cons (pv 0) (pa_cons (pe_bltn (v := .ty "str") (by rfl) T.b_str (by decide +kernel) rfl) pa_nil))))) (pss_one (ps_raiseM rfl (tk_of rfl rfl rfl rfl) (mk_cst PySem.F.excBase_ValueError T.x_Malformed T.g_Malformed T.k_Malformed (raises_own T.s_Malformed T.t_Malformed) (by rfl)))) pss_nil)
    (pss_cons (ps_set (i := 1) sc_read_data.nd rfl (by first | exact Or.inl rfl | exact Or.inr rfl) (pe_newG0 c_DataReader___init__ hr (by first | decide | omega)))
    (pss_cons (ps_for (passes_of rfl) rfl (pi_A (K := K) (pe_f0 c_pieces_of hr (by first | decide | omega) (pa_cons (pv 0) pa_nil))) (pg_name (i := 2) sc_read_data.nd rfl (by first | exact Or.inl rfl | exact Or.inr rfl)) (pss_one (ps_expr (pe_me c_DataReader_take hr (by first | decide | omega) (passM (c' := true) (tk_of rfl rfl rfl rfl) (.inl rfl) (fun _ _ _ _ h => h)) (pv 1) (pa_cons (pv 2) pa_nil)))))
    (pss_cons (ps_if (PW.pt (pw_or (pt_cmpR op_gtA (pe_callB (call_lenA (K := K)) (by rfl) T.b_len (by decide +kernel) (pa_cons (fld_A (K := K) (pv 1) rfl) pa_nil)) pe_int (nomark _)) (pw_or1 (pt_cmpR (op_neA (K := K) hr.units) (pe_callB (call_lenA (K := K)) (by rfl) T.b_len (by decide +kernel) (pa_cons (fld_A (K := K) (pv 1) rfl) pa_nil)) pe_int (nomark _))))) (pss_one (ps_raiseM rfl (tk_of rfl rfl rfl rfl) (mk_cst PySem.F.excBase_ValueError T.x_Malformed T.g_Malformed T.k_Malformed (raises_own T.s_Malformed T.t_Malformed) (by rfl)))) pss_nil)
    (pss_one (ps_ret (pe_ix (ix_A (K := K)) (fld_A (K := K) (pv 1) rfl) pe_int (fun _ _ => rfl)))))))), ?_⟩
    try dsimp only [cxOf]
    refine w_start (show _ = [some _, none, none] from rfl) ?_
    have hc := RF.cls
    have hf1 := RF.f1
    have hf2 := RF.f2
    have hf3 := RF.f3
    walk_at "go"
    have no : isStrD d = false → readD d = none := by
      intro h
      cases d <;> first | rfl | cases h
    cases hi : isStrD d with
    | false =>
      walk_at "go"
      exact q2 (no hi) H (Same.refl H)
    | true =>
      cases d with
      | str s =>
        cases hd
        have hz' : s.length ≤ 400000 := hz
        walk_at "go"
        intro a dx H1 n1 h1 e1
        refine ⟨H, a, dx, rfl, h1, e1, n1, fun H2 Z2 => ⟨rfl, ?_⟩⟩
        walk_at "go"
        refine ⟨s, rfl, hz', fun D H3 nD e3 hD => ?_⟩
        have Z3 := Z2.virt nD e3 hD
        have nD0 : H D = none := none_same Z2.same nD
        have hlp := pcs_len s.cps.toList []
        rw [len_l] at hlp
        refine lp_list (SqL.of hD) (fun i σ' H' => i ≤ (pcs [] s.cps.toList).length ∧ (∃ o, σ' = [some (.str s), some (.ref a), o]) ∧ ∃ r, ((pcs [] s.cps.toList).take i).foldlM R.take R.zero = some r ∧ Rd K CR (upd H D (.lst (txs (pcs [] s.cps.toList)))) H' a i r)
          ⟨Nat.zero_le _, ⟨_, rfl⟩, R.zero, rfl, Z3⟩ (fun i σ' H' hi p => ?_) (fun i y σ' H' hy p => ?_) (fun σ' H' p => ?_)
        · obtain ⟨_, _, r, _, Z⟩ := p
          exact SqL.of (Z.same D _ upd_same)
        · obtain ⟨hil, ⟨o, rfl⟩, r, hfold, Z⟩ := p
          obtain ⟨p, hp, rfl⟩ : ∃ p, (pcs [] s.cps.toList)[i]? = some p ∧ y = V.str ⟨p.toArray⟩ := by
            unfold txs at hy
            rw [List.getElem?_map] at hy
            cases hp : (pcs [] s.cps.toList)[i]? with
            | none =>
              rw [hp] at hy
              cases hy
            | some p =>
              rw [hp] at hy
              exact ⟨p, rfl, (Option.some.inj hy).symm⟩
          have hlt : i < (pcs [] s.cps.toList).length := (List.getElem?_eq_some_iff.mp hp).1
          have hpl : p.length ≤ s.length := by
            have := mem_flat_len (List.mem_of_getElem? hp)
            rw [pcs_flat, List.nil_append, len_l] at this
            exact this
          have hstep : ((pcs [] s.cps.toList).take (i + 1)).foldlM R.take R.zero = r.take p := by
            rw [List.take_add_one, hp, List.foldlM_append, hfold]
            show (some r).bind (fun s' => List.foldlM R.take s' [p]) = _
            show List.foldlM R.take r [p] = _
            simp
          obtain ⟨dx2, pt, pd, rows, tv, ZZ⟩ := id Z
          have ho := ZZ.obj
          walk_at "go"
          refine ⟨_, i, r, a, ⟨p.toArray⟩, rfl, ?_, Z, by omega, fun r' hr' H4 Z4 => ?_, fun hr' H4 e4 => ?_⟩
          · show p.toArray.size ≤ _
            rw [List.size_toArray]
            omega
          · exact ⟨hlt, ⟨_, rfl⟩, r', hstep.trans hr', Z4⟩
          · refine q2 ?_ H4 (same_virt nD0 e4)
            show readT s.cps.toList = none
            unfold readT
            have hall : (pcs [] s.cps.toList).foldlM R.take R.zero = none := by
              rw [← List.take_append_drop (i + 1) (pcs [] s.cps.toList), List.foldlM_append, hstep, hr']
              rfl
            rw [hall]
            rfl
        · obtain ⟨_, ⟨o, rfl⟩, r, hfold, Z⟩ := p
          rw [txs_len, List.take_length] at hfold
          have hfin : readD (.str s) = r.fin := by
            show readT s.cps.toList = _
            unfold readT
            rw [hfold]
            rfl
          obtain ⟨dx2, pt, pd, rows, tv, ZZ⟩ := id Z
          obtain ⟨st, rd, td⟩ := r
          have ho : H' a = some (.ins CR dx2 (flds pt pd rd)) := ZZ.obj
          have ht := ZZ.tup
          have hto := ZZ.told
          have eH := same_virt nD0 ZZ.same
          have hlen : rows.length = st.length := ZZ.row.length
          have htl := DpAll.length ZZ.tdp
          walk_at "go"
          rw [List.length_map, List.length_reverse, hlen]
          cases st with
          | cons row st =>
            refine w_iteP (decide_eq_true (by simp)) ?_
            walk_at "go"
            exact q2 (hfin.trans rfl) H' eH
          | nil =>
            walk_at "go"
            rw [htl]
            have h1 := ZZ.tdp
            have h2 := ZZ.tfz
            cases td with
            | nil =>
              walk_at "go"
              exact q2 (hfin.trans rfl) H' eH
            | cons d1 td =>
              cases td with
              | cons d2 td =>
                refine w_iteP (bnotT (decide_eq_false (by simp; omega))) ?_
                walk_at "go"
                exact q2 (hfin.trans rfl) H' eH
              | nil =>
                cases h1 with
                | @cons v1 _ vs1 _ h3 h4 =>
                  cases h4
                  walk_at "go"
                  refine q1 d1 (hfin.trans rfl) v1 H' eH h3 ?_
                  simpa [fzAll] using h2
      | _ => cases hi
end
end K66

set_option exponentiation.threshold 256
set_option Elab.async false
set_option linter.all false
set_option maxRecDepth 100000
set_option maxHeartbeats 4000000
set_option exponentiation.threshold 10
namespace K66
open PySem PySem.Spec PyProof.Rows L2 Lay DataM PySem.NumText
local macro_rules | `(tactic| walk_at "1") => `(tactic| first
  | with_reducible refine w_seq ?_
  | ((with_reducible refine w_var (v := ?vv) ?hv ?_); (case hv => rfl))
  | with_reducible refine w_c ?_
  | with_reducible refine w_m1 ?_
  | with_reducible refine w_isstr ?_
  | with_reducible refine w_bm0 ?_
  | with_reducible refine w_bm ?_
  | with_reducible refine w_gcons ?_
  | with_reducible refine w_gnil ?_
  | ((with_reducible refine w_ty (xs := ?vv) ?hv ?_); (case hv => walk_at "hx"))
  | ((with_reducible refine w_gtup (xs := ?vv) ?hv ?hl ?_); (case hv => walk_at "hx"); (case hl => rfl))
  | with_reducible refine w_for1 ?_
  | with_reducible refine w_for2 ?_
  | with_reducible refine w_for3 ?_
  | with_reducible refine w_forA ?_
  | with_reducible refine w_forE ?_
  | ((with_reducible refine w_aug (x := ?vv) ?hv ?_); (case hv => rfl))
  | with_reducible refine w_op ?_
  | with_reducible refine w_cb ?_
  | with_reducible refine w_acons ?_
  | with_reducible refine w_anil ?_
  | with_reducible refine w_set ?_
  | with_reducible refine w_if ?_
  | with_reducible refine w_test ?_
  | with_reducible refine w_tB ?_
  | with_reducible refine w_bl ?_
  | with_reducible refine w_and ?_
  | with_reducible refine w_or ?_
  | with_reducible refine w_not ?_
  | with_reducible refine w_iteT ?_
  | with_reducible refine w_iteF ?_
  | with_reducible refine w_ret ?_
  | with_reducible refine w_next ?_
  | with_reducible refine w_drop ?_
  | with_reducible refine w_call ?_
  | with_reducible refine w_ifx ?_
  | with_reducible refine w_andV ?_
  | with_reducible refine w_orV ?_
  | with_reducible refine w_notV ?_
  | with_reducible refine w_sl ?_
  | with_reducible refine w_nopart ?_
  | with_reducible refine w_part ?_
  | with_reducible refine w_exint ?_
  | with_reducible refine w_chain ?_
  | with_reducible refine w_par ?_
  | with_reducible refine w_two ?_
  | with_reducible refine w_par3 ?_
  | with_reducible refine w_three ?_
  | with_reducible refine w_asg ?_
  | with_reducible refine w_gset ?_
  | with_reducible refine w_retN ?_
  | with_reducible refine w_brk ?_
  | with_reducible refine w_cont ?_
  | with_reducible refine w_un ?_
  | with_reducible refine w_neg ?_
  | with_reducible refine w_callS ?_
  | with_reducible refine w_tup0 ?_
  | with_reducible refine w_lst0 ?_
  | with_reducible refine w_fld0 ?_
  | with_reducible refine w_sfld ?_
  | with_reducible refine w_gsub ?_
  | with_reducible refine w_iAny ?_
  | with_reducible refine w_iR1 ?_
  | with_reducible refine w_make ?_
  | with_reducible refine w_meth ?_
  | with_reducible refine w_mk1 ?_)
local macro_rules | `(tactic| walk_at "2") => `(tactic| first
  | with_reducible refine w_add_int ?_
  | with_reducible refine w_sub ?_
  | ((with_reducible refine w_add_str ?hl ?_); (case hl => walk_at "len"))
  | ((with_reducible refine w_mod ?hl ?_); (case hl => first | decide | omega))
  | ((with_reducible refine w_fdiv ?h1 ?h2 ?_); (case h1 => first | decide | omega); (case h2 => first | decide | omega))
  | ((with_reducible refine w_mulR ?h1 ?h2 ?_); (case h1 => first | decide | omega); (case h2 => first | decide | omega))
  | ((with_reducible refine w_mulL ?h1 ?h2 ?_); (case h1 => first | decide | omega); (case h2 => first | decide | omega))
  | with_reducible refine w_iadd_int ?_
  | ((with_reducible refine w_iadd_str ?hl ?_); (case hl => walk_at "len"))
  | ((with_reducible refine w_mk ?hl ?_); (case hl => walk_at "len"))
  | with_reducible refine w_lt_int ?_
  | with_reducible refine w_lt_str ?_
  | with_reducible refine w_le_int ?_
  | with_reducible refine w_le_str ?_
  | with_reducible refine w_gt ?_
  | with_reducible refine w_ge ?_
  | with_reducible refine w_eq_int ?_
  | with_reducible refine w_eq_str ?_
  | with_reducible refine w_ne_int ?_
  | with_reducible refine w_ne_str ?_
  | ((with_reducible refine w_isInt (d := ?vd) ?hd ?_); (case hd => walk_at "dp"))
  | ((with_reducible refine w_isBool (d := ?vd) ?hd ?_); (case hd => walk_at "dp"))
  | ((with_reducible refine w_isStr (d := ?vd) ?hd ?_); (case hd => walk_at "dp"))
  | ((with_reducible refine w_isTup (d := ?vd) ?hd ?_); (case hd => walk_at "dp"))
  | ((with_reducible refine w_isLst (d := ?vd) ?hd ?_); (case hd => walk_at "dp"))
  | refine w_in_str ?_
  | refine w_nin_str ?_
  | ((with_reducible refine w_ixL (xs := ?vv) (y := ?vr) ?h ?ha ?_); (case h => walk_at "hx"); (case ha => rfl))
  | with_reducible refine w_is ?_
  | with_reducible refine w_isnot ?_
  | ((with_reducible refine w_len_str ?hl ?_); (case hl => walk_at "len"))
  | ((with_reducible refine w_len (xs := ?vv) ?hl ?_); (case hl => walk_at "hx"))
  | with_reducible refine w_int_int ?_
  | with_reducible refine w_str_str ?_
  | with_reducible refine w_abs ?_
  | ((with_reducible refine w_sl_str ?hl ?_); (case hl => walk_at "len"))
  | ((with_reducible refine w_fldAt (C := ?vC) (dx := ?vdx) (fs := ?vfs) (v := ?vv) ?h1 ?h2 ?h3 ?h4 ?_); (case h1 => walk_at "hx"); (case h2 => assumption); (case h3 => assumption); (case h4 => rfl))
  | ((with_reducible refine w_methAt (dx := ?vdx) (fs := ?vfs) ?h1 ?h2 ?_); (case h1 => walk_at "hx"); (case h2 => rfl))
  | ((with_reducible refine w_iteP ?h1 ?_); (case h1 => walk_at "yes"))
  | ((with_reducible refine w_iteN ?h1 ?_); (case h1 => walk_at "no")))
local macro_rules | `(tactic| walk_at "yes") => `(tactic| first | assumption | ((with_reducible refine bnotT ?_); walk_at "no") | (refine decide_eq_true ?_; first | assumption | omega) | exact rfl)
local macro_rules | `(tactic| walk_at "no") => `(tactic| first | assumption | ((with_reducible refine bnotF ?_); walk_at "yes") | (refine decide_eq_false ?_; first | assumption | omega) | exact rfl)
local macro_rules | `(tactic| walk_at "len") => `(tactic| first | assumption | exact Nat.le_of_ble_eq_true rfl | omega | decide | (simp only [List.length_append, List.length_cons, List.length_nil, List.length_map]; omega))
local macro_rules | `(tactic| walk_at "ne") => `(tactic| first | assumption | (refine Ne.symm ?_; assumption))
local macro_rules | `(tactic| walk_at "hx") => `(tactic| first
  | assumption
  | exact upd_same
  | ((with_reducible refine sqa_l ?_); walk_at "hx")
  | ((with_reducible refine sqa_t ?_); walk_at "hx")
  | ((with_reducible refine SqL.of ?_); walk_at "hx")
  | ((with_reducible refine SqT.of ?_); walk_at "hx")
  | ((with_reducible refine at_same (by assumption) ?_); walk_at "hx")
  | ((with_reducible refine at_but (by assumption) ?hne ?_); (case hne => walk_at "ne"); walk_at "hx")
  | ((with_reducible refine Txt.tup (by assumption) _ _ ?_); walk_at "hx")
  | ((with_reducible refine Same.seq (by assumption) ?_); walk_at "hx")
  | ((with_reducible refine Same.seqT (by assumption) ?_); walk_at "hx")
  | ((with_reducible refine Dp.same (by assumption) _ _ ?_); walk_at "hx")
  | ((with_reducible refine DpAll.same (by assumption) _ _ ?_); walk_at "hx"))
local macro_rules | `(tactic| walk_at "go") => `(tactic| repeat (first | walk_at "1" | walk_at "2"))
local macro_rules | `(tactic| walk_at "dp") => `(tactic| first | exact .int _ | exact .str _ | exact .bl _ | exact .non | walk_at "hx")

section
variable {P : Program} {w : World} {K : PySem.W.Frag} {mg : Str → Option Value} {base : Heap} {CM CR : Addr}
theorem ok_law_draw {f : Addr} {fd : FuncData} (T : Facts w K mg CM) (F : Fun K "_law_draw" "_law_draw" s__law_draw f fd) : FnOk P w K mg base CX0 1 f fd ["script"] (spDraw K) := by
  refine F.ok sc__law_draw (fun vs H Q E h => ?_) (fun cdv A outer s H vs Q E hr h => ?_)
  · obtain ⟨a, ns, rfl, _⟩ := h
    rfl
  · obtain ⟨a, ns, rfl, hs, hn, q⟩ := h
    refine ⟨_, (pss_cons (ps_set (i := 1) sc__law_draw.nd rfl (by first | exact Or.inl rfl | exact Or.inr rfl) pe_int)
    (pss_cons (ps_for PassesOwn.never rfl (pi_A (K := K) (pe_slice (sl_A (K := K)) (pv 0) po_none (po_some pe_int))) (pg_name (i := 2) sc__law_draw.nd rfl (by first | exact Or.inl rfl | exact Or.inr rfl)) (pss_one (ps_set (i := 1) sc__law_draw.nd rfl (by first | exact Or.inl rfl | exact Or.inr rfl) (pe_op op_addA (pe_op op_modA (pe_callTy call_intA (by rfl) T.b_int (by decide +kernel) (pa_cons (pe_op op_addA (pe_op op_mulA (pv 1) pe_int) (pv 2)) pa_nil)) pe_int) pe_int))))
    (pss_one (ps_ret (pe_lstG (pa_cons (pe_lc (own := [("cell", 2)]) (g := gName 2) (tt := tYes) rfl sc__law_draw.nd (pi_A (K := K) (pe_slice (sl_A (K := K)) (pv 0) po_none (po_some pe_int))) (blkOk_by (N := N__law_draw) (sc := defScope s__law_draw) (by decide +kernel)) (fun _ _ _ _ _ => pg_name (i := 2) sc__law_draw.nd rfl (Or.inl rfl)) (fun _ _ _ _ _ => pts_nil) (fun _ _ _ _ _ => (pe_callB call_absA (by rfl) T.b_abs (by decide +kernel) (pa_cons (pe_callTy call_intA (by rfl) T.b_int (by decide +kernel) (pa_cons (pv 2) pa_nil)) pa_nil)))) (pa_cons pe_int (pa_cons pe_int (pa_cons pe_int (pa_cons (pv 1) (pa_cons pe_int pa_nil))))))))))), ?_⟩
    try dsimp only [cxOf]
    refine w_start (show _ = [some _, none, none] from rfl) ?_
    walk_at "go"
    have hcut : cutV (ns.map V.int) none (some 63) = (ns.take 63).map V.int := by
      rw [show (63 : Int) = ((63 : Nat) : Int) from rfl, cutV_hi, List.map_take]
    refine w_sl_lst hs fun p1 H1 n1 e1 h1 => ?_
    rw [hcut] at h1
    refine lp_list (SqL.of h1) (fun i σ' H' => H1 = H' ∧ ∃ x o, σ' = [some (.ref a), some (.int x), o]) ⟨rfl, 7, none, rfl⟩ (fun i σ' H' hi p => ?_) (fun i y σ' H' hy p => ?_) (fun σ' H' p => ?_)
    · obtain ⟨rfl, _⟩ := p
      exact SqL.of h1
    · obtain ⟨rfl, x, o, rfl⟩ := p
      rw [List.getElem?_map] at hy
      obtain ⟨c, hc, rfl⟩ := Option.map_eq_some_iff.mp hy
      walk_at "go"
      exact ⟨rfl, _, _, rfl⟩
    · obtain ⟨rfl, x, o, rfl⟩ := p
      walk_at "go"
      refine w_lcI ?_
      walk_at "go"
      refine w_sl_lst (Same.seq e1 hs) fun p2 H2 n2 e2 h2 => ?_
      rw [hcut] at h2
      refine lcL (fun v => rfl) (SqL.of h2) (LcS.map (ys := (ns.take 63).map V.int) (fun v => match v with | .int i => .int (if i < 0 then -i else i) | v => v) rfl (by rw [List.length_map, List.length_take]; omega) (fun i y h => h) (fun H' e => SqL.of (e _ _ h2)) (fun y H3 hy e3 R hR => ?_) (fun D H3 n3 e3 h3 => ?_))
      · obtain ⟨c, hc, rfl⟩ := List.mem_map.mp hy
        show tCB _ _ [some (V.ref a), some (V.int x), some (V.int c)] H3 R
        walk_at "go"
        exact hR H3 (Same.refl H3)
      · walk_at "go"
        intro pd H4 n4 e4 h4
        refine q pd D H4 (none_same ((e1.trans e2).trans e3) n4) (none_same (e1.trans e2) n3) (((e1.trans e2).trans e3).trans e4) ⟨0, (ns.take 63).map (fun i => if i < 0 then -i else i), 0, 0, 0, x, Nat.le_refl _, h4, ?_, fun e => ?_, Nat.zero_le _⟩
        · rw [e4 _ _ h3, List.map_map, List.map_map]
          rfl
        · rw [e] at h3
          rw [h3] at n4
          cases n4
theorem ok_law_take {f : Addr} {fd : FuncData} (T : Facts w K mg CM) (F : Fun K "_law_take" "_law_take" s__law_take f fd) : FnOk P w K mg base CX0 1 f fd ["draw", "many"] (spTakeN K) := by
  refine F.ok sc__law_take (fun vs H Q E h => ?_) (fun cdv A outer s H vs Q E hr h => ?_)
  · obtain ⟨pd, pc, c, many, rfl, _⟩ := h
    rfl
  · obtain ⟨pd, pc, cB, many, rfl, hm1, hm2, D, hc, q⟩ := h
    refine ⟨_, (pss_mid (ps_if (PW.pt (pw_and (pt_cmpR (op_eqA (K := K) hr.units) (pe_ix (ix_A (K := K)) (pv 0) pe_int (fun _ _ => rfl)) pe_int (nomark _)) (pw_and1 (pt_cmpR op_ltA (pe_ix (ix_A (K := K)) (pv 0) pe_int (fun _ _ => rfl)) (pe_callB (call_lenA (K := K)) (by rfl) T.b_len (by decide +kernel) (pa_cons (pe_ix (ix_A (K := K)) (pv 0) pe_int (fun _ _ => rfl)) pa_nil)) (nomark _))))) (pss_one (ps_asg (pe_tupG (pa_cons (pe_ix (ix_A (K := K)) (pe_ix (ix_A (K := K)) (pv 0) pe_int (fun _ _ => rfl)) (pe_ix (ix_A (K := K)) (pv 0) pe_int (fun _ _ => rfl)) (fun _ _ => rfl)) (pa_cons pe_int (pa_cons (pe_op op_addA (pe_ix (ix_A (K := K)) (pv 0) pe_int (fun _ _ => rfl)) pe_int) pa_nil)))) (tup_A (K := K) (n := 3) rfl (pgs_cons (pg_sub (pv 0) pe_int set_list) (pgs_cons (pg_sub (pv 0) pe_int set_list) (pgs_cons (pg_sub (pv 0) pe_int set_list) pgs_nil)))))) pss_nil)
    (pss_cons (ps_if (pt_cmpR op_gtA (pe_ix (ix_A (K := K)) (pv 0) pe_int (fun _ _ => rfl)) pe_int (nomark _)) (pss_cons (ps_set (i := 2) sc__law_take.nd rfl (by first | exact Or.inl rfl | exact Or.inr rfl) (pe_op op_modA (pe_callTy call_intA (by rfl) T.b_int (by decide +kernel) (pa_cons (pe_ix (ix_A (K := K)) (pv 0) pe_int (fun _ _ => rfl)) pa_nil)) (pv 1)))
    (pss_cons (ps_asg (pe_op op_fdivA (pe_ix (ix_A (K := K)) (pv 0) pe_int (fun _ _ => rfl)) (pv 1)) (pg_sub (pv 0) pe_int set_list))
    (pss_cons (ps_asg (pe_ifExp (pt_cmpR op_gtA (pe_ix (ix_A (K := K)) (pv 0) pe_int (fun _ _ => rfl)) pe_int (nomark _)) (pe_op op_subA (pe_ix (ix_A (K := K)) (pv 0) pe_int (fun _ _ => rfl)) pe_int) pe_int) (pg_sub (pv 0) pe_int set_list))
    (pss_one (ps_ret (pv 2)))))) pss_nil)
    (pss_cons (ps_asg (pe_op op_addA (pe_ix (ix_A (K := K)) (pv 0) pe_int (fun _ _ => rfl)) pe_int) (pg_sub (pv 0) pe_int set_list))
    (pss_cons (ps_asg (pe_op op_modA (pe_callTy call_intA (by rfl) T.b_int (by decide +kernel) (pa_cons (pe_op op_addA (pe_op op_addA (pe_op op_mulA (pe_ix (ix_A (K := K)) (pv 0) pe_int (fun _ _ => rfl)) pe_int) (pe_op op_mulA (pe_op op_mulA (pe_ix (ix_A (K := K)) (pv 0) pe_int (fun _ _ => rfl)) (pe_ix (ix_A (K := K)) (pv 0) pe_int (fun _ _ => rfl))) pe_int)) pe_int) pa_nil)) pe_int) (pg_sub (pv 0) pe_int set_list))
    (pss_one (ps_ret (pe_op op_modA (pe_callTy call_intA (by rfl) T.b_int (by decide +kernel) (pa_cons (pe_op op_fdivA (pe_ix (ix_A (K := K)) (pv 0) pe_int (fun _ _ => rfl)) pe_int) pa_nil)) (pv 1)))))))), ?_⟩
    try dsimp only [cxOf]
    refine w_start (show _ = [some _, some _, none] from rfl) ?_
    obtain ⟨c, cells, i, x, k, s, hcB, D⟩ := D
    have ho := D.obj
    have hce := D.cel
    have hne := D.ne
    refine w_mid (fun σ' H' => σ' = [some (.ref pd), some (.int many), none] ∧ But pd H H' ∧ Txt H H' ∧ ∃ cells i x k s, DrAt H' pd c pc cells i x k s) ?_ ?_
    · walk_at "go"
      have done : But pd H H ∧ Txt H H ∧ ∃ cells i x k s, DrAt H pd c pc cells i x k s := ⟨But.refl H, Txt.refl H, cells, i, x, k, s, D⟩
      refine w_ite (fun h1 => ?_) (fun h1 => ?_)
      · walk_at "go"
        rw [List.length_map]
        refine w_ite (fun h2 => ?_) (fun h2 => ?_)
        · have h2' : i < cells.length := by
            have := of_decide_eq_true h2
            omega
          walk_at "go"
          refine w_ix (v := .int cells[i]) (.inl (SqL.of hce)) (atI_nat (by rw [List.getElem?_map, List.getElem?_eq_getElem h2']; rfl)) ?_
          walk_at "go"
          intro pt H2 n2 e2 h3
          walk_at "go"
          have ho2 := e2 _ _ ho
          refine w_setl (i := 2) ho2 rfl (Nat.le_of_ble_eq_true rfl) fun H3 b3 t3 h3 => ?_
          walk_at "go"
          refine w_setl (i := 3) h3 rfl (Nat.le_of_ble_eq_true rfl) fun H4 b4 t4 h4 => ?_
          walk_at "go"
          refine w_setl (i := 1) h4 rfl (Nat.le_of_ble_eq_true rfl) fun H5 b5 t5 h5 => ?_
          walk_at "go"
          exact ⟨rfl, (((But.same e2).trans b3).trans b4).trans b5, (((Txt.same e2).trans t3).trans t4).trans t5, cells, i + 1, cells[i], 60, s, h5, b5 _ _ hne (b4 _ _ hne (b3 _ _ hne (e2 _ _ hce))), hne, h2'⟩
        · walk_at "go"
          exact ⟨rfl, done⟩
      · walk_at "go"
        exact ⟨rfl, done⟩
    · rintro σ' H1 ⟨rfl, b1, t1, cells, i, x, k, s, D1⟩
      clear D ho hce hne
      have ho := D1.obj
      have hce := D1.cel
      have hne := D1.ne
      have fin : ∀ (y : Int) H2, 0 ≤ y → y < many → But pd H1 H2 → Txt H1 H2 → Dr H2 pd pc (cB + 1) → Q (.int y) H2 := fun y H2 h0 h1 b2 t2 d2 => by
        have e : y = (y.toNat : Int) := by omega
        rw [e]
        exact q y.toNat H2 (by omega) (b1.trans b2) (t1.trans t2) d2
      walk_at "go"
      refine w_ite (fun h1 => ?_) (fun h1 => ?_)
      · have h1' : 0 < k := by
          have := of_decide_eq_true h1
          omega
        have e1 := Int.emod_nonneg x (show many ≠ 0 by omega)
        have e2 := Int.emod_lt_of_pos x hm1
        walk_at "go"
        refine w_setl (i := 2) ho rfl (Nat.le_of_ble_eq_true rfl) fun H2 b2 t2 h2 => ?_
        replace h2 : H2 pd = some (.lst [.ref pc, .int (i : Nat), .int (x / many), .int (k : Nat), .int s, .int (c : Nat)]) := h2
        have hc2 := b2 _ _ hne hce
        have fin2 : ∀ (k' : Nat) H3, But pd H2 H3 → Txt H2 H3 → H3 pd = some (.lst [.ref pc, .int (i : Nat), .int (x / many), .int (k' : Nat), .int s, .int (c : Nat)]) → Q (.int (x % many)) H3 := fun k' H3 b3 t3 h3 => by
          exact fin _ H3 e1 e2 (b2.trans b3) (t2.trans t3) ⟨c, cells, i, _, k', s, by omega, h3, b3 _ _ hne hc2, hne, D1.le⟩
        walk_at "go"
        refine w_ite (fun h3 => ?_) (fun h3 => ?_)
        · walk_at "go"
          refine w_setl (i := 3) h2 rfl (Nat.le_of_ble_eq_true rfl) fun H3 b3 t3 h3 => ?_
          walk_at "go"
          refine fin2 (k - 1) H3 b3 t3 ?_
          have e : ((k - 1 : Nat) : Int) = (k : Int) - 1 := by omega
          rw [e]
          exact h3
        · walk_at "go"
          refine w_setl (i := 3) h2 rfl (Nat.le_of_ble_eq_true rfl) fun H3 b3 t3 h3 => ?_
          walk_at "go"
          exact fin2 0 H3 b3 t3 h3
      · walk_at "go"
        refine w_setl (i := 5) ho rfl (Nat.le_of_ble_eq_true rfl) fun H2 b2 t2 h2 => ?_
        replace h2 : H2 pd = some (.lst [.ref pc, .int (i : Nat), .int x, .int (k : Nat), .int s, .int ((c : Int) + 1)]) := h2
        walk_at "go"
        have hc2 := b2 _ _ hne hce
        refine w_setl (i := 4) h2 rfl (Nat.le_of_ble_eq_true rfl) fun H3 b3 t3 h3 => ?_
        generalize (s * 48271 + ((c : Int) + 1) * ((c : Int) + 1) * 69621 + 11) % 2147483647 = s2 at h3
        replace h3 : H3 pd = some (.lst [.ref pc, .int (i : Nat), .int x, .int (k : Nat), .int s2, .int ((c : Int) + 1)]) := h3
        walk_at "go"
        exact fin _ H3 (Int.emod_nonneg _ (show many ≠ 0 by omega)) (Int.emod_lt_of_pos _ hm1) (b2.trans b3) (t2.trans t3) ⟨c + 1, cells, i, x, k, s2, by omega, h3, b3 _ _ hne hc2, hne, D1.le⟩
end
end K66

set_option exponentiation.threshold 256
set_option Elab.async false
set_option linter.all false
set_option maxRecDepth 100000
set_option maxHeartbeats 4000000
set_option exponentiation.threshold 10
namespace K66
open PySem PySem.Spec PyProof.Rows L2 Lay DataM
local macro_rules | `(tactic| walk_at "1") => `(tactic| first
  | with_reducible refine w_seq ?_
  | ((with_reducible refine w_var (v := ?vv) ?hv ?_); (case hv => rfl))
  | with_reducible refine w_c ?_
  | with_reducible refine w_m1 ?_
  | with_reducible refine w_isstr ?_
  | with_reducible refine w_bm0 ?_
  | with_reducible refine w_bm ?_
  | with_reducible refine w_gcons ?_
  | with_reducible refine w_gnil ?_
  | ((with_reducible refine w_ty (xs := ?vv) ?hv ?_); (case hv => walk_at "hx"))
  | ((with_reducible refine w_gtup (xs := ?vv) ?hv ?hl ?_); (case hv => walk_at "hx"); (case hl => rfl))
  | with_reducible refine w_for1 ?_
  | with_reducible refine w_for2 ?_
  | with_reducible refine w_for3 ?_
  | with_reducible refine w_forA ?_
  | with_reducible refine w_forE ?_
  | ((with_reducible refine w_aug (x := ?vv) ?hv ?_); (case hv => rfl))
  | with_reducible refine w_op ?_
  | with_reducible refine w_cb ?_
  | with_reducible refine w_acons ?_
  | with_reducible refine w_anil ?_
  | with_reducible refine w_set ?_
  | with_reducible refine w_if ?_
  | with_reducible refine w_test ?_
  | with_reducible refine w_tB ?_
  | with_reducible refine w_bl ?_
  | with_reducible refine w_and ?_
  | with_reducible refine w_or ?_
  | with_reducible refine w_not ?_
  | with_reducible refine w_iteT ?_
  | with_reducible refine w_iteF ?_
  | with_reducible refine w_ret ?_
  | with_reducible refine w_next ?_
  | with_reducible refine w_drop ?_
  | with_reducible refine w_call ?_
  | with_reducible refine w_ifx ?_
  | with_reducible refine w_andV ?_
  | with_reducible refine w_orV ?_
  | with_reducible refine w_notV ?_
  | with_reducible refine w_sl ?_
  | with_reducible refine w_nopart ?_
  | with_reducible refine w_part ?_
  | with_reducible refine w_exint ?_
  | with_reducible refine w_chain ?_
  | with_reducible refine w_par ?_
  | with_reducible refine w_two ?_
  | with_reducible refine w_par3 ?_
  | with_reducible refine w_three ?_
  | with_reducible refine w_asg ?_
  | with_reducible refine w_gset ?_
  | with_reducible refine w_retN ?_
  | with_reducible refine w_brk ?_
  | with_reducible refine w_cont ?_
  | with_reducible refine w_un ?_
  | with_reducible refine w_neg ?_
  | with_reducible refine w_callS ?_
  | with_reducible refine w_tup0 ?_
  | with_reducible refine w_lst0 ?_
  | with_reducible refine w_fld0 ?_
  | with_reducible refine w_sfld ?_
  | with_reducible refine w_gsub ?_
  | with_reducible refine w_iAny ?_
  | with_reducible refine w_iR1 ?_
  | with_reducible refine w_make ?_
  | with_reducible refine w_meth ?_
  | with_reducible refine w_mk1 ?_
  | with_reducible refine w_LZ ?_)
local macro_rules | `(tactic| walk_at "2") => `(tactic| first
  | with_reducible refine w_add_int ?_
  | with_reducible refine w_sub ?_
  | ((with_reducible refine w_add_str ?hl ?_); (case hl => walk_at "len"))
  | ((with_reducible refine w_mod ?hl ?_); (case hl => first | decide | omega))
  | ((with_reducible refine w_fdiv ?h1 ?h2 ?_); (case h1 => first | decide | omega); (case h2 => first | decide | omega))
  | ((with_reducible refine w_mulR ?h1 ?h2 ?_); (case h1 => first | decide | omega); (case h2 => first | decide | omega))
  | ((with_reducible refine w_mulL ?h1 ?h2 ?_); (case h1 => first | decide | omega); (case h2 => first | decide | omega))
  | with_reducible refine w_iadd_int ?_
  | ((with_reducible refine w_iadd_str ?hl ?_); (case hl => walk_at "len"))
  | ((with_reducible refine w_mk ?hl ?_); (case hl => walk_at "len"))
  | with_reducible refine w_lt_int ?_
  | with_reducible refine w_lt_str ?_
  | with_reducible refine w_le_int ?_
  | with_reducible refine w_le_str ?_
  | with_reducible refine w_gt ?_
  | with_reducible refine w_ge ?_
  | with_reducible refine w_eq_int ?_
  | with_reducible refine w_eq_str ?_
  | with_reducible refine w_ne_int ?_
  | with_reducible refine w_ne_str ?_
  | ((with_reducible refine w_isInt (d := ?vd) ?hd ?_); (case hd => walk_at "dp"))
  | ((with_reducible refine w_isBool (d := ?vd) ?hd ?_); (case hd => walk_at "dp"))
  | ((with_reducible refine w_isStr (d := ?vd) ?hd ?_); (case hd => walk_at "dp"))
  | ((with_reducible refine w_isTup (d := ?vd) ?hd ?_); (case hd => walk_at "dp"))
  | ((with_reducible refine w_isLst (d := ?vd) ?hd ?_); (case hd => walk_at "dp"))
  | refine w_in_str ?_
  | refine w_nin_str ?_
  | ((with_reducible refine w_ixL (xs := ?vv) (y := ?vr) ?h ?ha ?_); (case h => walk_at "hx"); (case ha => rfl))
  | with_reducible refine w_is ?_
  | with_reducible refine w_isnot ?_
  | ((with_reducible refine w_len_str ?hl ?_); (case hl => walk_at "len"))
  | ((with_reducible refine w_len (xs := ?vv) ?hl ?_); (case hl => walk_at "hx"))
  | with_reducible refine w_int_int ?_
  | with_reducible refine w_str_str ?_
  | with_reducible refine w_abs ?_
  | ((with_reducible refine w_sl_str ?hl ?_); (case hl => walk_at "len"))
  | ((with_reducible refine w_fldAt (C := ?vC) (dx := ?vdx) (fs := ?vfs) (v := ?vv) ?h1 ?h2 ?h3 ?h4 ?_); (case h1 => walk_at "hx"); (case h2 => assumption); (case h3 => assumption); (case h4 => rfl))
  | ((with_reducible refine w_methAt (dx := ?vdx) (fs := ?vfs) ?h1 ?h2 ?_); (case h1 => walk_at "hx"); (case h2 => rfl))
  | ((with_reducible refine w_iteP ?h1 ?_); (case h1 => walk_at "yes"))
  | ((with_reducible refine w_iteN ?h1 ?_); (case h1 => walk_at "no")))
local macro_rules | `(tactic| walk_at "yes") => `(tactic| first | assumption | ((with_reducible refine bnotT ?_); walk_at "no") | (refine decide_eq_true ?_; first | assumption | omega) | exact rfl)
local macro_rules | `(tactic| walk_at "no") => `(tactic| first | assumption | ((with_reducible refine bnotF ?_); walk_at "yes") | (refine decide_eq_false ?_; first | assumption | omega) | exact rfl)
local macro_rules | `(tactic| walk_at "len") => `(tactic| first | assumption | exact Nat.le_of_ble_eq_true rfl | omega | decide | (simp only [List.length_append, List.length_cons, List.length_nil, List.length_map]; omega) | (simp only [app_len]; omega))
local macro_rules | `(tactic| walk_at "ne") => `(tactic| first | assumption | (refine Ne.symm ?_; assumption))
local macro_rules | `(tactic| walk_at "hx") => `(tactic| first
  | assumption
  | exact upd_same
  | ((with_reducible refine sqa_l ?_); walk_at "hx")
  | ((with_reducible refine sqa_t ?_); walk_at "hx")
  | ((with_reducible refine SqL.of ?_); walk_at "hx")
  | ((with_reducible refine SqT.of ?_); walk_at "hx")
  | ((with_reducible refine at_same (by assumption) ?_); walk_at "hx")
  | ((with_reducible refine at_but (by assumption) ?hne ?_); (case hne => walk_at "ne"); walk_at "hx")
  | ((with_reducible refine Txt.tup (by assumption) _ _ ?_); walk_at "hx")
  | ((with_reducible refine Same.seq (by assumption) ?_); walk_at "hx")
  | ((with_reducible refine Same.seqT (by assumption) ?_); walk_at "hx")
  | ((with_reducible refine Dp.same (by assumption) _ _ ?_); walk_at "hx")
  | ((with_reducible refine DpAll.same (by assumption) _ _ ?_); walk_at "hx"))
local macro_rules | `(tactic| walk_at "go") => `(tactic| repeat (first | walk_at "1" | walk_at "2"))
local macro_rules | `(tactic| walk_at "dp") => `(tactic| first | exact .int _ | exact .str _ | exact .bl _ | exact .non | walk_at "hx")

section
variable {P : Program} {w : World} {K : PySem.W.Frag} {mg : Str → Option Value} {base : Heap} {CM CR CP : Addr}
structure Fx (w : World) (K : PySem.W.Frag) (mg : Str → Option Value) (CM CP : Addr) : Prop extends Facts w K mg CM where
  b_list : mg "list" = none
  b_zip : mg "zip" = none
  c_Reply : ∃ u, mg "Reply" = some u ∧ RelV (.ref CP) u
structure RpF (K : PySem.W.Frag) (CP : Addr) : Prop where
  ins : C8.InsC K CP
  f1 : NoAttr K CP "kind"
  f2 : NoAttr K CP "text"
  f3 : NoAttr K CP "data"
  ntp : PySem.W.kitOne K (.type "tuple") (.ref CP) = some false
theorem call_isO {X : Cx} {K : PySem.W.Frag} (hK : X.K = K := by rfl) : CallR X (.builtin "isinstance") (rIsi K) := by
  subst hK
  exact call_isi
theorem w_isO {H : Hp} {Q : VK} {a dx : Addr} {fs : List (Str × V)} (c : C8.InsC K CP) (h : H a = some (.ins CP dx fs)) (q : Q (.bl true) H) : rIsi K [.ref a, .ref CP] H Q :=
  ⟨.ref a, .ref CP, .ref CP, .ref CP, true, rfl, .own CP, .base (.ins h c.cl c.ha c.hn c.htk c.hm), c.me, q⟩
theorem w_isOt {H : Hp} {Q : VK} {a : Addr} {xs : List V} (c : RpF K CP) (h : SqT K H a xs) (q : Q (.bl false) H) : rIsi K [.ref a, .ref CP] H Q :=
  ⟨.ref a, .ref CP, .type "tuple", .ref CP, false, rfl, .own CP, (TyN.tup h).tyx, c.ntp, q⟩
theorem w_ne_bl {a b : Bool} {H : Hp} {Q : VK} (q : Q (.bl (!decide (a = b))) H) : rNeA K (.bl a) (.bl b) H Q := .inl ⟨rfl, by
  rw [show decide (V.bl a = V.bl b) = decide (a = b) by simp]
  exact q⟩
theorem w_ne_same {v : V} {H : Hp} {Q : VK} (h : scal v v = true) (q : Q (.bl false) H) : rNeA K v v H Q := .inl ⟨h, by
  rw [decide_eq_true rfl]
  exact q⟩
theorem w_extG {H : Hp} {Q : VK} {l b : Addr} {xs zs : List V} (h : H l = some (.lst xs)) (h2 : H b = some (.lst zs)) (hl : xs.length + zs.length ≤ 10000000) (q : ∀ H', But l H H' → Txt H H' → H' l = some (.lst (xs ++ zs)) → Q .non H') : rExtend (.ref l) [.ref b] H Q :=
  ⟨l, b, xs, zs, rfl, rfl, h, h2, Nat.le_trans hl (by decide), q _ (But.upd (But.refl H)) (Txt.lst h) upd_same⟩
structure PrT (K : PySem.W.Frag) (H : Hp) (T : Addr) (d : PyData) : Prop where
  ex : ∃ x y, H T = some (.tup [x, y]) ∧ Dp K H x d ∧ Dp K H y d
  fz : Lay.fz d = true
theorem PrT.txt {H H' : Hp} {T : Addr} {d : PyData} (t : Txt H H') (p : PrT K H T d) : PrT K H' T d := by
  obtain ⟨x, y, h, h1, h2⟩ := p.ex
  exact ⟨⟨x, y, t.tup _ _ h, Dp.txt t d x p.fz h1, Dp.txt t d y p.fz h2⟩, p.fz⟩
def sizS : List PyData → Nat
  | [] => 0
  | d :: ds => siz d + sizS ds
theorem sizS_app : ∀ a b : List PyData, sizS (a ++ b) = sizS a + sizS b
  | [], b => by simp [sizS]
  | d :: a, b => by
    simp only [List.cons_append, sizS, sizS_app a b]
    omega
theorem sizS_len : ∀ ds : List PyData, ds.length ≤ sizS ds
  | [] => Nat.le_refl _
  | d :: ds => by
    have := sizS_len ds
    have := siz_pos d
    simp only [List.length_cons, sizS]
    omega
theorem sizS_le : ∀ ds : List PyData, sizS ds ≤ sizs ds
  | [] => Nat.le_refl _
  | d :: ds => by
    have := sizS_le ds
    simp only [sizS, sizs]
    omega
theorem paired_app {α β : Type} {F : α → β → Prop} : ∀ {xs : List α} {ys : List β} {xs' : List α} {ys' : List β}, Paired F xs ys → Paired F xs' ys' → Paired F (xs ++ xs') (ys ++ ys')
  | _, _, _, _, .nil, k => k
  | _, _, _, _, .cons h t, k => .cons h (paired_app t k)
theorem paired_snoc {α β : Type} {F : α → β → Prop} {xs : List α} {x : α} {zs : List β} (h : Paired F (xs ++ [x]) zs) : ∃ ys y, zs = ys ++ [y] ∧ Paired F xs ys ∧ F x y := by
  induction xs generalizing zs with
  | nil =>
    cases h with
    | cons h t =>
      cases t
      exact ⟨[], _, rfl, .nil, h⟩
  | cons a xs ih =>
    cases h with
    | cons h t =>
      obtain ⟨ys, y, rfl, h1, h2⟩ := ih t
      exact ⟨_ :: ys, y, rfl, .cons h h1, h2⟩
theorem paired_of {α β : Type} {F : α → β → Prop} : ∀ {xs : List α} {ys : List β}, xs.length = ys.length → (∀ (j : Nat) x y, xs[j]? = some x → ys[j]? = some y → F x y) → Paired F xs ys
  | [], [], _, _ => .nil
  | [], _ :: _, h, _ => by cases h
  | _ :: _, [], h, _ => by cases h
  | x :: xs, y :: ys, h, k => .cons (k 0 x y rfl rfl) (paired_of (Nat.succ.inj h) fun j a b h1 h2 => k (j + 1) a b (by simpa using h1) (by simpa using h2))
theorem fzAll_get : ∀ {ds : List PyData} {i : Nat} {d : PyData}, fzAll ds = true → ds[i]? = some d → Lay.fz d = true
  | [], i, d, _, e => by simp at e
  | a :: ds, 0, d, h, e => by
    simp at e
    subst e
    simp only [fzAll, Bool.and_eq_true] at h
    exact h.1
  | a :: ds, i + 1, d, h, e => by
    simp only [fzAll, Bool.and_eq_true] at h
    exact fzAll_get (i := i) h.2 (by simpa using e)
def spSame (K : PySem.W.Frag) : Sp := fun vs H Q _ => ∃ v u d, vs = [v, u] ∧ Dp K H v d ∧ Dp K H u d ∧ Lay.fz d = true ∧ siz d ≤ 1000000 ∧ ∀ H', Same H H' → Q (.bl true) H'
theorem ok_is_same {f : Addr} {fd : FuncData} (T : Fx w K mg CM CP) (F : Fun K "is_same" "is_same" s_is_same f fd) : FnOk P w K mg base CX0 1 f fd ["one", "two"] (spSame K) := by
  refine F.ok sc_is_same (fun vs H Q E h => ?_) (fun cdv A outer s H vs Q E hr h => ?_)
  · obtain ⟨v, u, d, rfl, _⟩ := h
    rfl
  · obtain ⟨v, u, d, rfl, hv, hu, hz, hsz, q⟩ := h
    refine ⟨_, (pss_cons (ps_set (i := 2) sc_is_same.nd rfl (by first | exact Or.inl rfl | exact Or.inr rfl) (pe_lstG (pa_cons (pe_tupG (pa_cons (pv 0) (pa_cons (pv 1) pa_nil))) pa_nil)))
    (pss_cons (ps_while PassesOwn.never (pt_cmpR op_gtA (pe_callB (call_lenA (K := K)) (by rfl) T.b_len (by decide +kernel) (pa_cons (pv 2) pa_nil)) pe_int (nomark _)) (pss_cons (ps_asg (pe_bm0 PySem.F.plainAttrs_list PySem.F.slot_list_pop PySem.F.type_list_pop mt_pop (pv 2)) (tup_A (K := K) (n := 2) rfl (pgs_cons (pg_name (i := 3) sc_is_same.nd rfl (by first | exact Or.inl rfl | exact Or.inr rfl)) (pgs_cons (pg_name (i := 4) sc_is_same.nd rfl (by first | exact Or.inl rfl | exact Or.inr rfl)) pgs_nil))))
    (pss_one (ps_if (PW.pt (pw_and (pt_val (pe_callB (call_isiA (K := K)) (by rfl) T.b_isinstance (by decide +kernel) (pa_cons (pv 3) (pa_cons (pe_bltn (v := .ty "tuple") (by rfl) T.b_tuple (by decide +kernel) rfl) pa_nil)))) (pw_and1 (pt_val (pe_callB (call_isiA (K := K)) (by rfl) T.b_isinstance (by decide +kernel) (pa_cons (pv 4) (pa_cons (pe_bltn (v := .ty "tuple") (by rfl) T.b_tuple (by decide +kernel) rfl) pa_nil))))))) (pss_cons (ps_if (pt_cmpR (op_neA (K := K) hr.units) (pe_callB (call_lenA (K := K)) (by rfl) T.b_len (by decide +kernel) (pa_cons (pv 3) pa_nil)) (pe_callB (call_lenA (K := K)) (by rfl) T.b_len (by decide +kernel) (pa_cons (pv 4) pa_nil)) (nomark _)) (pss_one (ps_ret pe_bl)) pss_nil)
    (pss_one (ps_expr (pe_bm PySem.F.plainAttrs_list PySem.F.slot_list_extend PySem.F.type_list_extend mt_extend (pv 2) (pa_cons (pe_listZip (K := K) rfl (pa_cons (pv 3) (pa_cons (pv 4) pa_nil)) (by rfl) T.b_list (by rfl) T.b_zip) pa_nil))))) (pss_one (ps_if (PW.pt (pw_or (pt_cmpR (op_neA (K := K) hr.units) (pe_callB (call_isiA (K := K)) (by rfl) T.b_isinstance (by decide +kernel) (pa_cons (pv 3) (pa_cons (pe_bltn (v := .ty "bool") (by rfl) T.b_bool (by decide +kernel) rfl) pa_nil))) (pe_callB (call_isiA (K := K)) (by rfl) T.b_isinstance (by decide +kernel) (pa_cons (pv 4) (pa_cons (pe_bltn (v := .ty "bool") (by rfl) T.b_bool (by decide +kernel) rfl) pa_nil))) (nomark _)) (pw_or1 (pt_cmpR (op_neA (K := K) hr.units) (pv 3) (pv 4) (nomark _))))) (pss_one (ps_ret pe_bl)) pss_nil))))))
    (pss_one (ps_ret pe_bl)))), ?_⟩
    try dsimp only [cxOf]
    refine w_start (show _ = [some _, some _, none, none, none] from rfl) ?_
    walk_at "go"
    intro t H1 n1 e1 h1
    walk_at "go"
    intro pw H2 n2 e2 h2
    walk_at "go"
    have np : H pw = none := none_same e1 n2
    refine w_while ⟨fun m σ' H' => ∃ ts ds, m = sizS ds ∧ (∃ o1 o2, σ' = [some v, some u, some (.ref pw), o1, o2]) ∧ H' pw = some (.lst (ts.map V.ref)) ∧ Paired (PrT K H') ts ds ∧ Same H H' ∧ sizS ds ≤ 1000000,
      ⟨siz d, [t], [d], rfl, ⟨_, _, rfl⟩, h2, .cons ⟨⟨v, u, e2 _ _ h1, Dp.same (e1.trans e2) d v hv, Dp.same (e1.trans e2) d u hu⟩, hz⟩ .nil, e1.trans e2, by simpa [sizS] using hsz⟩, fun m σ' H' z => ?_⟩
    obtain ⟨ts, ds, rfl, ⟨o1, o2, rfl⟩, hw, hp, e, hle⟩ := z
    have hlen := sizS_len ds
    have hpl := hp.length
    walk_at "go"
    rw [List.length_map]
    rcases List.eq_nil_or_concat ts with rfl | ⟨ts', T, rfl⟩
    · walk_at "go"
      exact q H' e
    · rw [List.concat_eq_append] at hw hp hpl ⊢
      refine w_iteP (decide_eq_true (by simp)) ?_
      obtain ⟨ds', d', rfl, hp', hT⟩ := paired_snoc hp
      rw [List.map_append] at hw
      refine ⟨fun σ' H' => ∃ ts ds, (sizS ds < sizS (ds' ++ [d'])) ∧ (∃ o1 o2, σ' = [some v, some u, some (.ref pw), o1, o2]) ∧ H' pw = some (.lst (ts.map V.ref)) ∧ Paired (PrT K H') ts ds ∧ Same H H' ∧ sizS ds ≤ 1000000,
        fun σ' H' z => ?_, ?_⟩
      · obtain ⟨ts, ds, hlt, r⟩ := z
        exact ⟨sizS ds, hlt, ts, ds, rfl, r⟩
      · walk_at "go"
        refine w_popG hw fun H3 b3 t3 hw3 => ?_
        have e3 : Same H H3 := same_but e b3 np
        obtain ⟨x, y, hTt, hx, hy⟩ := (hT.txt t3).ex
        have hfz := hT.fz
        have hp3 := Paired.mapP hp' fun _ _ p => p.txt t3
        rw [sizS_app] at hle ⊢
        have s1 : sizS [d'] = siz d' := by simp [sizS]
        rw [s1] at hle ⊢
        have pos := siz_pos d'
        walk_at "go"
        cases hd : isTupD d' with
        | true =>
          cases d' with
          | tuple es =>
            have hx0 := hx
            have hy0 := hy
            cases hx with
            | tup hx1 hx2 =>
              cases hy with
              | tup hy1 hy2 =>
                rename_i ax xs ay ys
                have l1 := Lay.DpAll.length hx2
                have l2 := Lay.DpAll.length hy2
                walk_at "go"
                have es1 := sizS_le es
                have es2 := sizS_len es
                have es3 := sizS_len ds'
                have es4 := hp'.length
                have es5 : siz (.tuple es) = sizs es + 2 := by simp only [siz]
                refine ⟨ax, ay, xs, ys, rfl, rfl, hx1, hy1, by omega, by omega, fun S acc H4 nS e4 hS hl hprs => ?_⟩
                walk_at "go"
                refine w_extG (e4 _ _ hw3) hS (by simp only [List.length_map]; omega) fun H5 b5 t5 h5 => ?_
                have t35 := (Txt.same e4).trans t5
                refine ⟨ts' ++ acc, ds' ++ es, by rw [sizS_app]; omega, ⟨_, _, rfl⟩, by rw [List.map_append]; exact h5, ?_, same_but (e3.trans e4) b5 np, by rw [sizS_app]; omega⟩
                refine paired_app (Paired.mapP hp3 fun _ _ p => p.txt t35) (paired_of (by omega) fun j T2 d2 hj1 hj2 => ?_)
                obtain ⟨x2, y2, g1, g2, g3⟩ := hprs j T2 hj1
                obtain ⟨d3, g4, g5⟩ := Lay.DpAll.get hx2 g1
                obtain ⟨d4, g6, g7⟩ := Lay.DpAll.get hy2 g2
                rw [hj2] at g4 g6
                cases g4
                cases g6
                have f2 : Lay.fz d2 = true := fzAll_get (by simpa only [Lay.fz] using hfz) hj2
                exact ⟨⟨x2, y2, t5.tup _ _ g3, Dp.txt t35 _ _ f2 g5, Dp.txt t35 _ _ f2 g7⟩, f2⟩
          | _ => cases hd
        | false =>
          have last : ∀ o1 o2, ∃ ts ds, sizS ds < sizS ds' + siz d' ∧ (∃ o3 o4, [some v, some u, some (V.ref pw), o1, o2] = [some v, some u, some (V.ref pw), o3, o4]) ∧ H3 pw = some (.lst (ts.map V.ref)) ∧ Paired (PrT K H3) ts ds ∧ Same H H3 ∧ sizS ds ≤ 1000000 := fun o1 o2 =>
            ⟨ts', ds', by omega, ⟨_, _, rfl⟩, hw3, hp3, e3, by omega⟩
          walk_at "go"
          refine w_ne_bl ?_
          rw [decide_eq_true rfl]
          walk_at "go"
          cases d' with
          | tuple es => cases hd
          | list es => simp [Lay.fz] at hfz
          | dict es => simp [Lay.fz] at hfz
          | _ =>
            cases hx
            cases hy
            refine w_ne_same rfl ?_
            walk_at "go"
            exact last _ _
def rpFs (k t d : V) : List (Str × V) := [("kind", k), ("text", t), ("data", d)]
def spRpI (K : PySem.W.Frag) (CP : Addr) : Sp := fun vs H Q _ => ∃ a dx k t d, vs = [.ref a, k, t, d] ∧ H a = some (.ins CP dx []) ∧ ∀ H', But a H H' → Txt H H' → H' a = some (.ins CP dx (rpFs k t d)) → Q .non H'
theorem ok_rp_init {f : Addr} {fd : FuncData} {dvs : List V} (T : Fx w K mg CM CP) (RP : RpF K CP) (F : FunD K "__init__" "Reply.__init__" (defArgs s_Reply___init__) (defBody s_Reply___init__) (defScope s_Reply___init__) dvs [] f fd) : FnOk P w K mg base CX0 1 f fd ["self", "kind", "text", "data"] (spRpI K CP) := by
  refine F.ok (CX := CX0) sc_Reply___init__ (fun vs H Q E h => ?_) (fun cdv A outer s H vs Q E hr h => ?_)
  · obtain ⟨a, dx, k, t, d, rfl, _⟩ := h
    rfl
  · obtain ⟨a, dx, k, t, d, rfl, ha, q⟩ := h
    have hc := RP.ins.cl
    have hf1 := RP.f1
    have hf2 := RP.f2
    have hf3 := RP.f3
    refine ⟨_, (pss_cons (ps_fld (pv 0) (pv 1) rfl)
    (pss_cons (ps_fld (pv 0) (pv 2) rfl)
    (pss_one (ps_fld (pv 0) (pv 3) rfl)))), ?_⟩
    try dsimp only [cxOf]
    refine w_start (show _ = [some _, some _, some _, some _] from rfl) ?_
    walk_at "go"
    refine w_sfldAt ha hc hf1 (Nat.le_of_ble_eq_true rfl) fun H1 b1 t1 h1 => ?_
    walk_at "go"
    refine w_sfldAt h1 hc hf2 (Nat.le_of_ble_eq_true rfl) fun H2 b2 t2 h2 => ?_
    walk_at "go"
    refine w_sfldAt h2 hc hf3 (Nat.le_of_ble_eq_true rfl) fun H3 b3 t3 h3 => ?_
    exact q H3 ((b1.trans b2).trans b3) ((t1.trans t2).trans t3) h3
def RpS (K : PySem.W.Frag) (CP : Addr) (a b : Addr) (H : Hp) : Prop := ∃ dx dy k1 t1 d1 k2 t2 d2 k t d, H a = some (.ins CP dx (rpFs k1 t1 d1)) ∧ H b = some (.ins CP dy (rpFs k2 t2 d2)) ∧ Dp K H k1 k ∧ Dp K H k2 k ∧ Dp K H t1 t ∧ Dp K H t2 t ∧ Dp K H d1 d ∧ Dp K H d2 d ∧
  Lay.fz k = true ∧ Lay.fz t = true ∧ Lay.fz d = true ∧ siz k ≤ 10 ∧ siz t ≤ 10 ∧ siz d ≤ 900000
theorem ok_rp_eq {f : Addr} {fd : FuncData} (T : Fx w K mg CM CP) (RP : RpF K CP) (F : Fun K "__eq__" "Reply.__eq__" s_Reply___eq__ f fd) (c_is_same : Fn0 P w K mg base 1 "is_same" (spSame K)) : FnOk P w K mg base CX0 2 f fd ["self", "other"] (spEq (RpS K CP)) := by
  refine F.ok sc_Reply___eq__ (fun vs H Q E h => ?_) (fun cdv A outer s H vs Q E hr h => ?_)
  · obtain ⟨a, b, rfl, _⟩ := h
    rfl
  · obtain ⟨a, b, rfl, ⟨dx, dy, k1, t1, d1, k2, t2, d2, k, t, d, ha, hb, hk1, hk2, ht1, ht2, hd1, hd2, fk, ft, fd, sk, st, sd⟩, q⟩ := h
    have hc := RP.ins.cl
    have hf1 := RP.f1
    have hf2 := RP.f2
    have hf3 := RP.f3
    refine ⟨_, (pss_cons (ps_if (pt_not (pt_val (pe_callB (call_isO (K := K)) (by rfl) T.b_isinstance (by decide +kernel) (pa_cons (pv 1) (pa_cons (pe_gc (by rfl) T.c_Reply) pa_nil))))) (pss_one (ps_ret pe_bl)) pss_nil)
    (pss_one (ps_ret (pe_f0 c_is_same hr (by first | decide | omega) (pa_cons (pe_tupG (pa_cons (fld_A (K := K) (pv 0) rfl) (pa_cons (fld_A (K := K) (pv 0) rfl) (pa_cons (fld_A (K := K) (pv 0) rfl) pa_nil)))) (pa_cons (pe_tupG (pa_cons (fld_A (K := K) (pv 1) rfl) (pa_cons (fld_A (K := K) (pv 1) rfl) (pa_cons (fld_A (K := K) (pv 1) rfl) pa_nil)))) pa_nil)))))), ?_⟩
    try dsimp only [cxOf]
    refine w_start (show _ = [some _, some _] from rfl) ?_
    walk_at "go"
    refine w_isO RP.ins hb ?_
    walk_at "go"
    intro p1 H1 n1 e1 h1
    walk_at "go"
    intro p2 H2 n2 e2 h2
    have hp1 := e2 _ _ h1
    walk_at "go"
    refine ⟨.ref p1, .ref p2, .tuple [k, t, d], rfl, .tup (SqT.of hp1) (DpAll.same (e1.trans e2) [k, t, d] _ (.cons hk1 (.cons ht1 (.cons hd1 .nil)))), .tup (SqT.of h2) (DpAll.same (e1.trans e2) [k, t, d] _ (.cons hk2 (.cons ht2 (.cons hd2 .nil)))), ?_, ?_, fun H3 e3 => ?_⟩
    · simp only [Lay.fz, fzAll, fk, ft, fd, Bool.and_self]
    · simp only [siz, sizs]
      omega
    · exact q H3 (fun c o e => (e1.trans e2).trans e3 c o e)
end
end K66

set_option exponentiation.threshold 256
set_option Elab.async false
set_option linter.all false
set_option maxRecDepth 100000
set_option maxHeartbeats 4000000
set_option exponentiation.threshold 10
namespace K66
open PySem PySem.Spec PyProof.Rows L2 Lay DataM
local macro_rules | `(tactic| walk_at "1") => `(tactic| first
  | with_reducible refine w_seq ?_
  | ((with_reducible refine w_var (v := ?vv) ?hv ?_); (case hv => rfl))
  | with_reducible refine w_c ?_
  | with_reducible refine w_m1 ?_
  | with_reducible refine w_isstr ?_
  | with_reducible refine w_bm0 ?_
  | with_reducible refine w_bm ?_
  | with_reducible refine w_gcons ?_
  | with_reducible refine w_gnil ?_
  | ((with_reducible refine w_ty (xs := ?vv) ?hv ?_); (case hv => walk_at "hx"))
  | ((with_reducible refine w_gtup (xs := ?vv) ?hv ?hl ?_); (case hv => walk_at "hx"); (case hl => rfl))
  | with_reducible refine w_for1 ?_
  | with_reducible refine w_for2 ?_
  | with_reducible refine w_for3 ?_
  | with_reducible refine w_forA ?_
  | with_reducible refine w_forE ?_
  | ((with_reducible refine w_aug (x := ?vv) ?hv ?_); (case hv => rfl))
  | with_reducible refine w_op ?_
  | with_reducible refine w_cb ?_
  | with_reducible refine w_acons ?_
  | with_reducible refine w_anil ?_
  | with_reducible refine w_set ?_
  | with_reducible refine w_if ?_
  | with_reducible refine w_test ?_
  | with_reducible refine w_tB ?_
  | with_reducible refine w_bl ?_
  | with_reducible refine w_and ?_
  | with_reducible refine w_or ?_
  | with_reducible refine w_not ?_
  | with_reducible refine w_iteT ?_
  | with_reducible refine w_iteF ?_
  | with_reducible refine w_ret ?_
  | with_reducible refine w_next ?_
  | with_reducible refine w_drop ?_
  | with_reducible refine w_call ?_
  | with_reducible refine w_ifx ?_
  | with_reducible refine w_andV ?_
  | with_reducible refine w_orV ?_
  | with_reducible refine w_notV ?_
  | with_reducible refine w_sl ?_
  | with_reducible refine w_nopart ?_
  | with_reducible refine w_part ?_
  | with_reducible refine w_exint ?_
  | with_reducible refine w_chain ?_
  | with_reducible refine w_par ?_
  | with_reducible refine w_two ?_
  | with_reducible refine w_par3 ?_
  | with_reducible refine w_three ?_
  | with_reducible refine w_asg ?_
  | with_reducible refine w_gset ?_
  | with_reducible refine w_retN ?_
  | with_reducible refine w_brk ?_
  | with_reducible refine w_cont ?_
  | with_reducible refine w_un ?_
  | with_reducible refine w_neg ?_
  | with_reducible refine w_callS ?_
  | with_reducible refine w_tup0 ?_
  | with_reducible refine w_lst0 ?_
  | with_reducible refine w_fld0 ?_
  | with_reducible refine w_sfld ?_
  | with_reducible refine w_gsub ?_
  | with_reducible refine w_iAny ?_
  | with_reducible refine w_iR1 ?_
  | with_reducible refine w_make ?_
  | with_reducible refine w_meth ?_
  | with_reducible refine w_mk1 ?_
  | with_reducible refine w_LZ ?_)
local macro_rules | `(tactic| walk_at "2") => `(tactic| first
  | with_reducible refine w_add_int ?_
  | with_reducible refine w_sub ?_
  | ((with_reducible refine w_add_str ?hl ?_); (case hl => walk_at "len"))
  | ((with_reducible refine w_mod ?hl ?_); (case hl => first | decide | omega))
  | ((with_reducible refine w_fdiv ?h1 ?h2 ?_); (case h1 => first | decide | omega); (case h2 => first | decide | omega))
  | ((with_reducible refine w_mulR ?h1 ?h2 ?_); (case h1 => first | decide | omega); (case h2 => first | decide | omega))
  | ((with_reducible refine w_mulL ?h1 ?h2 ?_); (case h1 => first | decide | omega); (case h2 => first | decide | omega))
  | with_reducible refine w_iadd_int ?_
  | ((with_reducible refine w_iadd_str ?hl ?_); (case hl => walk_at "len"))
  | ((with_reducible refine w_mk ?hl ?_); (case hl => walk_at "len"))
  | with_reducible refine w_lt_int ?_
  | with_reducible refine w_lt_str ?_
  | with_reducible refine w_le_int ?_
  | with_reducible refine w_le_str ?_
  | with_reducible refine w_gt ?_
  | with_reducible refine w_ge ?_
  | with_reducible refine w_eq_int ?_
  | with_reducible refine w_eq_str ?_
  | with_reducible refine w_ne_int ?_
  | with_reducible refine w_ne_str ?_
  | ((with_reducible refine w_isInt (d := ?vd) ?hd ?_); (case hd => walk_at "dp"))
  | ((with_reducible refine w_isBool (d := ?vd) ?hd ?_); (case hd => walk_at "dp"))
  | ((with_reducible refine w_isStr (d := ?vd) ?hd ?_); (case hd => walk_at "dp"))
  | ((with_reducible refine w_isTup (d := ?vd) ?hd ?_); (case hd => walk_at "dp"))
  | ((with_reducible refine w_isLst (d := ?vd) ?hd ?_); (case hd => walk_at "dp"))
  | refine w_in_str ?_
  | refine w_nin_str ?_
  | ((with_reducible refine w_ixL (xs := ?vv) (y := ?vr) ?h ?ha ?_); (case h => walk_at "hx"); (case ha => rfl))
  | with_reducible refine w_is ?_
  | with_reducible refine w_isnot ?_
  | ((with_reducible refine w_len_str ?hl ?_); (case hl => walk_at "len"))
  | ((with_reducible refine w_len (xs := ?vv) ?hl ?_); (case hl => walk_at "hx"))
  | with_reducible refine w_int_int ?_
  | with_reducible refine w_str_str ?_
  | with_reducible refine w_abs ?_
  | ((with_reducible refine w_sl_str ?hl ?_); (case hl => walk_at "len"))
  | ((with_reducible refine w_fldAt (C := ?vC) (dx := ?vdx) (fs := ?vfs) (v := ?vv) ?h1 ?h2 ?h3 ?h4 ?_); (case h1 => walk_at "hx"); (case h2 => assumption); (case h3 => assumption); (case h4 => rfl))
  | ((with_reducible refine w_methAt (dx := ?vdx) (fs := ?vfs) ?h1 ?h2 ?_); (case h1 => walk_at "hx"); (case h2 => rfl))
  | ((with_reducible refine w_iteP ?h1 ?_); (case h1 => walk_at "yes"))
  | ((with_reducible refine w_iteN ?h1 ?_); (case h1 => walk_at "no")))
local macro_rules | `(tactic| walk_at "yes") => `(tactic| first | assumption | ((with_reducible refine bnotT ?_); walk_at "no") | (refine decide_eq_true ?_; first | assumption | omega) | exact rfl)
local macro_rules | `(tactic| walk_at "no") => `(tactic| first | assumption | ((with_reducible refine bnotF ?_); walk_at "yes") | (refine decide_eq_false ?_; first | assumption | omega) | exact rfl)
local macro_rules | `(tactic| walk_at "len") => `(tactic| first | assumption | exact Nat.le_of_ble_eq_true rfl | omega | decide | (simp only [List.length_append, List.length_cons, List.length_nil, List.length_map]; omega) | (simp only [app_len]; omega))
local macro_rules | `(tactic| walk_at "ne") => `(tactic| first | assumption | (refine Ne.symm ?_; assumption))
local macro_rules | `(tactic| walk_at "hx") => `(tactic| first
  | assumption
  | exact upd_same
  | ((with_reducible refine sqa_l ?_); walk_at "hx")
  | ((with_reducible refine sqa_t ?_); walk_at "hx")
  | ((with_reducible refine SqL.of ?_); walk_at "hx")
  | ((with_reducible refine SqT.of ?_); walk_at "hx")
  | ((with_reducible refine at_same (by assumption) ?_); walk_at "hx")
  | ((with_reducible refine at_but (by assumption) ?hne ?_); (case hne => walk_at "ne"); walk_at "hx")
  | ((with_reducible refine Txt.tup (by assumption) _ _ ?_); walk_at "hx")
  | ((with_reducible refine Same.seq (by assumption) ?_); walk_at "hx")
  | ((with_reducible refine Same.seqT (by assumption) ?_); walk_at "hx")
  | ((with_reducible refine Dp.same (by assumption) _ _ ?_); walk_at "hx")
  | ((with_reducible refine DpAll.same (by assumption) _ _ ?_); walk_at "hx"))
local macro_rules | `(tactic| walk_at "go") => `(tactic| repeat (first | walk_at "1" | walk_at "2"))
local macro_rules | `(tactic| walk_at "dp") => `(tactic| first | exact .int _ | exact .str _ | exact .bl _ | exact .non | walk_at "hx")

section
variable {P : Program} {w : World} {K : PySem.W.Frag} {mg : Str → Option Value} {base : Heap} {CM CR CP : Addr}
def isText : PyData → Bool
  | .str s => !decide (10 ∈ s.cps.toList)
  | _ => false
def spText (K : PySem.W.Frag) : Sp := fun vs H Q _ => ∃ v d, vs = [v] ∧ Dp K H v d ∧ Q (.bl (isText d)) H
theorem ok_is_text {f : Addr} {fd : FuncData} (T : Fx w K mg CM CP) (F : Fun K "is_text" "is_text" s_is_text f fd) : FnOk P w K mg base CX0 1 f fd ["value"] (spText K) := by
  refine F.ok sc_is_text (fun vs H Q E h => ?_) (fun cdv A outer s H vs Q E hr h => ?_)
  · obtain ⟨v, d, rfl, _⟩ := h
    rfl
  · obtain ⟨v, d, rfl, hd, q⟩ := h
    refine ⟨_, (pss_one (ps_ret (pe_and (pe_callB (call_isiA (K := K)) (by rfl) T.b_isinstance (by decide +kernel) (pa_cons (pv 0) (pa_cons (pe_bltn (v := .ty "str") (by rfl) T.b_str (by decide +kernel) rfl) pa_nil))) (pe_one (pe_cmpR (op_notInA (K := K)) pe_str (pv 0) (by rfl)))))), ?_⟩
    try dsimp only [cxOf]
    refine w_start (show _ = [some _] from rfl) ?_
    walk_at "go"
    cases hi : isStrD d with
    | false =>
      walk_at "go"
      have e : isText d = false := by
        cases d <;> first | rfl | cases hi
      rw [e] at q
      exact q
    | true =>
      cases d with
      | str s =>
        cases hd
        walk_at "go"
        exact q
      | _ => cases hi
inductive EnD where
  | bad
  | pair (x : PyData) (r : Option (PyData × PyData × PyData))
inductive RpV (K : PySem.W.Frag) (CP : Addr) (H : Hp) : V → Option (PyData × PyData × PyData) → Prop
  | ins {p dx : Addr} {k t d : V} {dk dt dd : PyData} (h : H p = some (.ins CP dx (rpFs k t d))) (hk : Dp K H k dk) (ht : Dp K H t dt) (hd : Dp K H d dd) : RpV K CP H (.ref p) (some (dk, dt, dd))
  | tup {p : Addr} {xs : List V} (h : SqT K H p xs) : RpV K CP H (.ref p) none
inductive EnV (K : PySem.W.Frag) (CP : Addr) (H : Hp) : V → EnD → Prop
  | nt {v : V} {n : String} (h : TyN K H v n) (hn : n ≠ "tuple") : EnV K CP H v .bad
  | short {a : Addr} {xs : List V} (h : SqT K H a xs) (hl : xs.length ≠ 2) : EnV K CP H (.ref a) .bad
  | pair {a : Addr} {x y : V} {d : PyData} {r : Option (PyData × PyData × PyData)} (h : SqT K H a [x, y]) (hx : Dp K H x d) (hy : RpV K CP H y r) : EnV K CP H (.ref a) (.pair d r)
def enL : EnD → Option (List Tx)
  | .pair (.str l) (some (.str k, .str t, .tuple ds)) => if isText (.str l) = true then (if isWord (.str k) = true then (if isText (.str t) = true then (wrd (.tuple ds) 1).map fun x => [62 :: 32 :: l.cps.toList, 61 :: 32 :: (k.cps.toList ++ 32 :: t.cps.toList), 35 :: 32 :: x] else none) else none) else none
  | _ => none
def outs : List EnD → Option (List Tx)
  | [] => some []
  | e :: es => (enL e).bind fun a => (outs es).map fun b => a ++ b
def shB : PyData → Prop
  | .str s => s.length ≤ 1000
  | _ => True
def EnFit : EnD → Prop
  | .bad => True
  | .pair x r => shB x ∧ ∀ k t d, r = some (k, t, d) → shB k ∧ shB t ∧ fitS d ∧ siz d ≤ 100000 ∧ ∀ l, wrd d 1 = some l → l.length ≤ 100000
theorem outs_app : ∀ a b : List EnD, outs (a ++ b) = (outs a).bind fun x => (outs b).map fun y => x ++ y
  | [], b => by
    show outs b = _
    cases outs b <;> rfl
  | e :: a, b => by
    rw [List.cons_append]
    simp only [outs]
    rw [outs_app a b]
    cases enL e with
    | none => rfl
    | some x =>
      cases outs a with
      | none => rfl
      | some y =>
        cases outs b with
        | none => rfl
        | some z => simp
theorem outs_take {es : List EnD} {i : Nat} {e : EnD} (h : es[i]? = some e) : outs (es.take (i + 1)) = (outs (es.take i)).bind fun x => (enL e).map fun y => x ++ y := by
  rw [List.take_add_one, h, outs_app]
  simp only [Option.toList, outs]
  cases outs (es.take i) with
  | none => rfl
  | some x =>
    cases enL e with
    | none => rfl
    | some y => simp
theorem outs_none {es : List EnD} {i : Nat} {e : EnD} (h : es[i]? = some e) (hn : enL e = none) : outs es = none := by
  have h1 := outs_take h
  rw [hn] at h1
  have h2 : outs (es.take (i + 1)) = none := by
    rw [h1]
    cases outs (es.take i) <;> rfl
  rw [← List.take_append_drop (i + 1) es, outs_app, h2]
  rfl
def nlRow (r : Tx) : Str := ⟨(r ++ [10]).toArray⟩
def glue (rows : List Tx) : Tx := (rows.map fun r => r ++ [10]).flatten
theorem w_isTupN {v : V} {n : String} {H : Hp} {Q : VK} (h : TyN K H v n) (hn : n ≠ "tuple") (q : Q (.bl false) H) : rIsiA K [v, .ty "tuple"] H Q := by
  cases h with
  | tup h => exact absurd rfl hn
  | non => exact w_isi .non (show _ = some false by decide +kernel) q
  | bl b => exact w_isi (.bl b) (show _ = some false by decide +kernel) q
  | int b => exact w_isi (.int b) (show _ = some false by decide +kernel) q
  | str b => exact w_isi (.str b) (show _ = some false by decide +kernel) q
  | lst h => exact w_isi (.lst h) (show _ = some false by decide +kernel) q
theorem w_isLstN {v : V} {n : String} {H : Hp} {Q : VK} (h : TyN K H v n) (hn : n ≠ "list") (q : Q (.bl false) H) : rIsiA K [v, .ty "list"] H Q := by
  cases h with
  | lst h => exact absurd rfl hn
  | non => exact w_isi .non (show _ = some false by decide +kernel) q
  | bl b => exact w_isi (.bl b) (show _ = some false by decide +kernel) q
  | int b => exact w_isi (.int b) (show _ = some false by decide +kernel) q
  | str b => exact w_isi (.str b) (show _ = some false by decide +kernel) q
  | tup h => exact w_isi (.tup h) (show _ = some false by decide +kernel) q
theorem w_isLstY {a : Addr} {xs : List V} {H : Hp} {Q : VK} (h : SqL K H a xs) (q : Q (.bl true) H) : rIsiA K [.ref a, .ty "list"] H Q := w_isi (.lst h) (show _ = some true by decide +kernel) q
theorem w_isTupY {a : Addr} {xs : List V} {H : Hp} {Q : VK} (h : SqT K H a xs) (q : Q (.bl true) H) : rIsiA K [.ref a, .ty "tuple"] H Q := w_isi (.tup h) (show _ = some true by decide +kernel) q
theorem RpV.same {H H' : Hp} {v : V} {r : Option (PyData × PyData × PyData)} (e : Same H H') (h : RpV K CP H v r) : RpV K CP H' v r := by
  cases h with
  | ins h hk ht hd => exact .ins (e _ _ h) (Dp.same e _ _ hk) (Dp.same e _ _ ht) (Dp.same e _ _ hd)
  | tup h => exact .tup (Same.seqT e h)
theorem EnV.same {H H' : Hp} {v : V} {d : EnD} (e : Same H H') (h : EnV K CP H v d) : EnV K CP H' v d := by
  cases h with
  | nt h hn =>
    refine .nt (n := _) ?_ hn
    cases h with
    | non => exact .non
    | bl b => exact .bl b
    | int i => exact .int i
    | str x => exact .str x
    | lst h => exact .lst (Same.seq e h)
    | tup h => exact .tup (Same.seqT e h)
  | short h hl => exact .short (Same.seqT e h) hl
  | pair h hx hy => exact .pair (Same.seqT e h) (Dp.same e _ _ hx) (hy.same e)
theorem Paired.getX {α β : Type} {F : α → β → Prop} : ∀ {xs : List α} {ys : List β}, Paired F xs ys → ∀ {i : Nat} {x : α}, xs[i]? = some x → ∃ y, ys[i]? = some y ∧ F x y
  | _, _, .cons h t, 0, x, e => by
    simp at e
    subst e
    exact ⟨_, rfl, h⟩
  | _, _, .cons h t, i + 1, x, e => by
    obtain ⟨y, h1, h2⟩ := Paired.getX t (i := i) (by simpa using e)
    exact ⟨y, by simpa using h1, h2⟩
  | _, _, .nil, i, x, e => by simp at e
def spWrDi (K : PySem.W.Frag) (CM CP : Addr) : Sp := fun vs H Q E => (∃ v n, vs = [v] ∧ TyN K H v n ∧ n ≠ "list" ∧ Flt E CM H) ∨
  (∃ a xs es, vs = [.ref a] ∧ SqL K H a xs ∧ Paired (EnV K CP H) xs es ∧ (∀ e ∈ es, EnFit e) ∧ es.length ≤ 10 ∧ (∀ rows, outs es = some rows → ∀ H', Same H H' → Q (.str ⟨(glue rows).toArray⟩) H') ∧ (outs es = none → Flt E CM H))
theorem ok_write_diary {f : Addr} {fd : FuncData} (T : Fx w K mg CM CP) (RP : RpF K CP) (F : Fun K "write_diary" "write_diary" s_write_diary f fd) (c_is_text : Fn0 P w K mg base 1 "is_text" (spText K)) (c_is_word : Fn0 P w K mg base 1 "is_word" (spWord K))
    (c_write_data : FnM true P w K mg base 4 "write_data" (spWrite K CM)) : FnOk P w K mg base (CXm true P w) 5 f fd ["entries"] (spWrDi K CM CP) := by
  refine okM F sc_write_diary (fun vs H Q E h => ?_) (fun cdv A outer s H vs Q E hr h => ?_)
  · rcases h with ⟨v, n, rfl, _⟩ | ⟨a, xs, es, rfl, _⟩ <;> rfl
  · have hc := RP.ins.cl
    have hf1 := RP.f1
    have hf2 := RP.f2
    have hf3 := RP.f3
    rcases h with ⟨v, n, rfl, hv, hn, qE⟩ | ⟨a, xs, es, rfl, ha, hp, hfit, hes, q1, q2⟩
    · refine ⟨_, (pss_cons (ps_if (pt_not (pt_val (pe_callB (call_isiA (K := K)) (by rfl) T.b_isinstance (by decide +kernel) (pa_cons (pv 0) (pa_cons (pe_bltn (v := .ty "list") (by rfl) T.b_list (by decide +kernel) rfl) pa_nil))))) (pss_one (ps_raiseM rfl (tk_of rfl rfl rfl rfl) (mk_txt PySem.F.excBase_ValueError T.x_Malformed T.g_Malformed T.k_Malformed (raises_own T.s_Malformed T.t_Malformed) pe_str (by rfl)))) pss_nil)
    (pss_cons (ps_set (i := 1) sc_write_diary.nd rfl (by first | exact Or.inl rfl | exact Or.inr rfl) (pe_lstG pa_nil))
    (pss_cons (ps_for (passes_of rfl) rfl (pi_A (K := K) (pv 0)) (pg_name (i := 2) sc_write_diary.nd rfl (by first | exact Or.inl rfl | exact Or.inr rfl)) (pss_cons (ps_if (PW.pt (pw_or (pt_not (pt_val (pe_callB (call_isiA (K := K)) (by rfl) T.b_isinstance (by decide +kernel) (pa_cons (pv 2) (pa_cons (pe_bltn (v := .ty "tuple") (by rfl) T.b_tuple (by decide +kernel) rfl) pa_nil))))) (pw_or (pt_cmpR (op_neA (K := K) hr.units) (pe_callB (call_lenA (K := K)) (by rfl) T.b_len (by decide +kernel) (pa_cons (pv 2) pa_nil)) pe_int (nomark _)) (pw_or1 (pt_not (pt_val (pe_f0 c_is_text hr (by first | decide | omega) (pa_cons (pe_ix (ix_A (K := K)) (pv 2) pe_int (fun _ _ => rfl)) pa_nil)))))))) (pss_one (ps_raiseM rfl (tk_of rfl rfl rfl rfl) (mk_txt PySem.F.excBase_ValueError T.x_Malformed T.g_Malformed T.k_Malformed (raises_own T.s_Malformed T.t_Malformed) pe_str (by rfl)))) pss_nil)
    (pss_cons (ps_set (i := 3) sc_write_diary.nd rfl (by first | exact Or.inl rfl | exact Or.inr rfl) (pe_ix (ix_A (K := K)) (pv 2) pe_int (fun _ _ => rfl)))
    (pss_cons (ps_if (PW.pt (pw_or (pt_not (pt_val (pe_callB (call_isO (K := K)) (by rfl) T.b_isinstance (by decide +kernel) (pa_cons (pv 3) (pa_cons (pe_gc (by rfl) T.c_Reply) pa_nil))))) (pw_or (pt_not (pt_val (pe_f0 c_is_word hr (by first | decide | omega) (pa_cons (fld_A (K := K) (pv 3) rfl) pa_nil)))) (pw_or1 (pt_not (pt_val (pe_f0 c_is_text hr (by first | decide | omega) (pa_cons (fld_A (K := K) (pv 3) rfl) pa_nil)))))))) (pss_one (ps_raiseM rfl (tk_of rfl rfl rfl rfl) (mk_txt PySem.F.excBase_ValueError T.x_Malformed T.g_Malformed T.k_Malformed (raises_own T.s_Malformed T.t_Malformed) pe_str (by rfl)))) pss_nil)
    (pss_cons (ps_if (pt_not (pt_val (pe_callB (call_isiA (K := K)) (by rfl) T.b_isinstance (by decide +kernel) (pa_cons (fld_A (K := K) (pv 3) rfl) (pa_cons (pe_bltn (v := .ty "tuple") (by rfl) T.b_tuple (by decide +kernel) rfl) pa_nil))))) (pss_one (ps_raiseM rfl (tk_of rfl rfl rfl rfl) (mk_txt PySem.F.excBase_ValueError T.x_Malformed T.g_Malformed T.k_Malformed (raises_own T.s_Malformed T.t_Malformed) pe_str (by rfl)))) pss_nil)
    (pss_cons (ps_set (i := 4) sc_write_diary.nd rfl (by first | exact Or.inl rfl | exact Or.inr rfl) (pe_lstG (pa_cons (pe_op op_addA pe_str (pe_ix (ix_A (K := K)) (pv 2) pe_int (fun _ _ => rfl))) (pa_cons (pe_op op_addA (pe_op op_addA (pe_op op_addA pe_str (fld_A (K := K) (pv 3) rfl)) pe_str) (fld_A (K := K) (pv 3) rfl)) (pa_cons (pe_op op_addA pe_str (pe_fc c_write_data hr (by first | decide | omega) (passM (c' := true) (tk_of rfl rfl rfl rfl) (.inl rfl) (fun _ _ _ _ h => h)) (pa_cons (fld_A (K := K) (pv 3) rfl) pa_nil))) pa_nil)))))
    (pss_one (ps_expr (pe_bm PySem.F.plainAttrs_list PySem.F.slot_list_extend PySem.F.type_list_extend mt_extend (pv 1) (pa_cons (pe_lc (own := [("line", 5)]) (g := gName 5) (tt := tYes) rfl sc_write_diary.nd (pi_A (K := K) (pv 4)) (blkOk_by (N := N_write_diary) (sc := defScope s_write_diary) (by decide +kernel)) (fun _ _ _ _ _ => pg_name (i := 5) sc_write_diary.nd rfl (Or.inl rfl)) (fun _ _ _ _ _ => pts_nil) (fun _ _ _ _ _ => (pe_op op_addA (pv 5) pe_str))) pa_nil))))))))))
    (pss_one (ps_ret (join_A (K := K) pe_str (pv 1))))))), ?_⟩
      try dsimp only [cxOf]
      refine w_start (show _ = [some _, none, none, none, none, none] from rfl) ?_
      walk_at "go"
      refine w_isLstN hv hn ?_
      walk_at "go"
      exact w_flt (by decide) qE (Same.refl H)
    · refine ⟨_, (pss_cons (ps_if (pt_not (pt_val (pe_callB (call_isiA (K := K)) (by rfl) T.b_isinstance (by decide +kernel) (pa_cons (pv 0) (pa_cons (pe_bltn (v := .ty "list") (by rfl) T.b_list (by decide +kernel) rfl) pa_nil))))) (pss_one (ps_raiseM rfl (tk_of rfl rfl rfl rfl) (mk_txt PySem.F.excBase_ValueError T.x_Malformed T.g_Malformed T.k_Malformed (raises_own T.s_Malformed T.t_Malformed) pe_str (by rfl)))) pss_nil)
    (pss_cons (ps_set (i := 1) sc_write_diary.nd rfl (by first | exact Or.inl rfl | exact Or.inr rfl) (pe_lstG pa_nil))
    (pss_cons (ps_for (passes_of rfl) rfl (pi_A (K := K) (pv 0)) (pg_name (i := 2) sc_write_diary.nd rfl (by first | exact Or.inl rfl | exact Or.inr rfl)) (pss_cons (ps_if (PW.pt (pw_or (pt_not (pt_val (pe_callB (call_isiA (K := K)) (by rfl) T.b_isinstance (by decide +kernel) (pa_cons (pv 2) (pa_cons (pe_bltn (v := .ty "tuple") (by rfl) T.b_tuple (by decide +kernel) rfl) pa_nil))))) (pw_or (pt_cmpR (op_neA (K := K) hr.units) (pe_callB (call_lenA (K := K)) (by rfl) T.b_len (by decide +kernel) (pa_cons (pv 2) pa_nil)) pe_int (nomark _)) (pw_or1 (pt_not (pt_val (pe_f0 c_is_text hr (by first | decide | omega) (pa_cons (pe_ix (ix_A (K := K)) (pv 2) pe_int (fun _ _ => rfl)) pa_nil)))))))) (pss_one (ps_raiseM rfl (tk_of rfl rfl rfl rfl) (mk_txt PySem.F.excBase_ValueError T.x_Malformed T.g_Malformed T.k_Malformed (raises_own T.s_Malformed T.t_Malformed) pe_str (by rfl)))) pss_nil)
    (pss_cons (ps_set (i := 3) sc_write_diary.nd rfl (by first | exact Or.inl rfl | exact Or.inr rfl) (pe_ix (ix_A (K := K)) (pv 2) pe_int (fun _ _ => rfl)))
    (pss_cons (ps_if (PW.pt (pw_or (pt_not (pt_val (pe_callB (call_isO (K := K)) (by rfl) T.b_isinstance (by decide +kernel) (pa_cons (pv 3) (pa_cons (pe_gc (by rfl) T.c_Reply) pa_nil))))) (pw_or (pt_not (pt_val (pe_f0 c_is_word hr (by first | decide | omega) (pa_cons (fld_A (K := K) (pv 3) rfl) pa_nil)))) (pw_or1 (pt_not (pt_val (pe_f0 c_is_text hr (by first | decide | omega) (pa_cons (fld_A (K := K) (pv 3) rfl) pa_nil)))))))) (pss_one (ps_raiseM rfl (tk_of rfl rfl rfl rfl) (mk_txt PySem.F.excBase_ValueError T.x_Malformed T.g_Malformed T.k_Malformed (raises_own T.s_Malformed T.t_Malformed) pe_str (by rfl)))) pss_nil)
    (pss_cons (ps_if (pt_not (pt_val (pe_callB (call_isiA (K := K)) (by rfl) T.b_isinstance (by decide +kernel) (pa_cons (fld_A (K := K) (pv 3) rfl) (pa_cons (pe_bltn (v := .ty "tuple") (by rfl) T.b_tuple (by decide +kernel) rfl) pa_nil))))) (pss_one (ps_raiseM rfl (tk_of rfl rfl rfl rfl) (mk_txt PySem.F.excBase_ValueError T.x_Malformed T.g_Malformed T.k_Malformed (raises_own T.s_Malformed T.t_Malformed) pe_str (by rfl)))) pss_nil)
    (pss_cons (ps_set (i := 4) sc_write_diary.nd rfl (by first | exact Or.inl rfl | exact Or.inr rfl) (pe_lstG (pa_cons (pe_op op_addA pe_str (pe_ix (ix_A (K := K)) (pv 2) pe_int (fun _ _ => rfl))) (pa_cons (pe_op op_addA (pe_op op_addA (pe_op op_addA pe_str (fld_A (K := K) (pv 3) rfl)) pe_str) (fld_A (K := K) (pv 3) rfl)) (pa_cons (pe_op op_addA pe_str (pe_fc c_write_data hr (by first | decide | omega) (passM (c' := true) (tk_of rfl rfl rfl rfl) (.inl rfl) (fun _ _ _ _ h => h)) (pa_cons (fld_A (K := K) (pv 3) rfl) pa_nil))) pa_nil)))))
    (pss_one (ps_expr (pe_bm PySem.F.plainAttrs_list PySem.F.slot_list_extend PySem.F.type_list_extend mt_extend (pv 1) (pa_cons (pe_lc (own := [("line", 5)]) (g := gName 5) (tt := tYes) rfl sc_write_diary.nd (pi_A (K := K) (pv 4)) (blkOk_by (N := N_write_diary) (sc := defScope s_write_diary) (by decide +kernel)) (fun _ _ _ _ _ => pg_name (i := 5) sc_write_diary.nd rfl (Or.inl rfl)) (fun _ _ _ _ _ => pts_nil) (fun _ _ _ _ _ => (pe_op op_addA (pv 5) pe_str))) pa_nil))))))))))
    (pss_one (ps_ret (join_A (K := K) pe_str (pv 1))))))), ?_⟩
      try dsimp only [cxOf]
      refine w_start (show _ = [some _, none, none, none, none, none] from rfl) ?_
      walk_at "go"
      refine w_isLstY ha ?_
      walk_at "go"
      intro pf H1 n1 e1 h1
      walk_at "go"
      refine lp_list (Same.seq e1 ha) (fun i σ' H' => ∃ rows, outs (es.take i) = some rows ∧ (∃ o1 o2 o3 o4, σ' = [some (.ref a), some (.ref pf), o1, o2, o3, o4]) ∧ Same H H' ∧ H' pf = some (.lst ((rows.map nlRow).map V.str)) ∧ (∀ r ∈ rows, r.length ≤ 150000) ∧ rows.length = 3 * i) ⟨[], by simp [outs], ⟨_, _, _, _, rfl⟩, e1, h1, (fun r hr => nomatch hr), rfl⟩ (fun i σ' H' hi p => ?_) (fun i y σ' H' hy p => ?_) (fun σ' H' p => ?_)
      · obtain ⟨rows, ho, _, e, _⟩ := p
        exact Same.seq e ha
      · obtain ⟨rows, ho, ⟨o1, o2, o3, o4, rfl⟩, e, hpf, hrl, hrn⟩ := p
        obtain ⟨en, he, hv0⟩ := Paired.getX hp hy
        have hv := hv0.same e
        have hf := hfit en (List.mem_of_getElem? he)
        have hil : i < es.length := (List.getElem?_eq_some_iff.mp he).1
        have bad : enL en = none → Flt E CM H' := fun hb => (q2 (outs_none he hb)).go e
        walk_at "go"
        cases hv with
        | nt h hn =>
          refine w_isTupN h hn ?_
          walk_at "go"
          exact w_flt (by decide) (bad rfl) (Same.refl _)
        | short h hl =>
          refine w_isTupY h ?_
          walk_at "go"
          exact w_flt (by decide) (bad rfl) (Same.refl _)
        | @pair at_ x y d r h hxR hyR =>
          refine w_isTupY h ?_
          walk_at "go"
          refine w_ix (.inr h) (atI_nat (j := 0) rfl) ?_
          walk_at "go"
          refine ⟨x, d, rfl, hxR, ?_⟩
          walk_at "go"
          cases ht : isText d with
          | false =>
            walk_at "go"
            refine w_flt (by decide) (bad ?_) (Same.refl _)
            cases d <;> first | rfl | (cases r with | none => rfl | some r => (obtain ⟨r1, r2, r3⟩ := r; cases r1 <;> cases r2 <;> cases r3 <;> first | rfl | simp only [enL, ht, Bool.false_eq_true, if_false]))
          | true =>
            cases d with
            | str l =>
              cases hxR
              walk_at "go"
              refine w_ix (.inr h) (atI_nat (j := 1) rfl) ?_
              walk_at "go"
              cases hyR with
              | tup h2 =>
                refine w_isOt RP h2 ?_
                walk_at "go"
                exact w_flt (by decide) (bad rfl) (Same.refl _)
              | @ins p dx k t dv dk dt dd h2 hk htx hdd =>
                obtain ⟨g0, gA⟩ := hf
                obtain ⟨g1, g2, g3, g4, g5⟩ := gA _ _ _ rfl
                refine w_isO RP.ins h2 ?_
                walk_at "go"
                have shk : shortS dk := by
                  cases dk <;> first | trivial | exact Nat.le_trans g1 (by decide)
                refine ⟨k, dk, rfl, hk, shk, fun H2 e2 => ?_⟩
                have h22 := e2 _ _ h2
                have ht2 := Dp.same e2 _ _ htx
                have hd2 := Dp.same e2 _ _ hdd
                have hp2 := e2 _ _ hpf
                have hT2 := Same.seqT e2 h
                have bad2 : enL (.pair (.str l) (some (dk, dt, dd))) = none → Flt E CM H2 := fun hb => (bad hb).go e2
                walk_at "go"
                cases hw : isWord dk with
                | false =>
                  walk_at "go"
                  refine w_flt (by decide) (bad2 ?_) (Same.refl _)
                  cases dk <;> first | rfl | (cases dt <;> cases dd <;> first | rfl | (show (if _ then _ else _) = none; rw [if_pos ht, if_neg]; rw [hw]; decide))
                | true =>
                  cases dk with
                  | str kk =>
                    cases hk
                    walk_at "go"
                    refine ⟨t, dt, rfl, ht2, ?_⟩
                    walk_at "go"
                    cases hx2 : isText dt with
                    | false =>
                      walk_at "go"
                      refine w_flt (by decide) (bad2 ?_) (Same.refl _)
                      cases dt <;> first | rfl | (cases dd <;> first | rfl | (show (if _ then (if _ then (if _ then _ else _) else _) else _) = none; rw [if_pos ht, if_pos hw, if_neg]; rw [hx2]; decide))
                    | true =>
                      cases dt with
                      | str tt =>
                        cases ht2
                        walk_at "go"
                        cases hz : isTupD dd with
                        | false =>
                          walk_at "go"
                          refine w_flt (by decide) (bad2 ?_) (Same.refl _)
                          cases dd <;> first | rfl | cases hz
                        | true =>
                          cases dd with
                          | tuple ds =>
                            have en1 : enL (.pair (.str l) (some (.str kk, .str tt, .tuple ds))) = (wrd (.tuple ds) 1).map fun x => [62 :: 32 :: l.cps.toList, 61 :: 32 :: (kk.cps.toList ++ 32 :: tt.cps.toList), 35 :: 32 :: x] := by
                              show (if _ then (if _ then (if _ then _ else _) else _) else _) = _
                              rw [if_pos ht, if_pos hw, if_pos hx2]
                            walk_at "go"
                            have l1 : l.length ≤ 1000 := g0
                            have l2 : kk.length ≤ 1000 := g1
                            have l3 : tt.length ≤ 1000 := g2
                            have z1 : (Str.ofString "> ").length = 2 := rfl
                            have z2 : (Str.ofString "= ").length = 2 := rfl
                            have z3 : (Str.ofString " ").length = 1 := rfl
                            have z4 : (Str.ofString "# ").length = 2 := rfl
                            have z5 : (Str.ofString "\n").length = 1 := rfl
                            refine w_ix (.inr hT2) (atI_nat (j := 0) rfl) ?_
                            walk_at "go"
                            refine ⟨dv, .tuple ds, rfl, hd2, g3, Nat.le_trans g4 (by decide), fun x hx3 => Nat.le_trans (g5 x hx3) (by decide), fun x hx3 H3 e3 => ?_, fun hn => bad2 (by rw [en1, hn]; rfl)⟩
                            have lx := g5 x hx3
                            have lx2 : (⟨x.toArray⟩ : Str).length = x.length := by simp [Str.length]
                            walk_at "go"
                            intro pl H4 n4 e4 h4
                            walk_at "go"
                            refine w_lcI ?_
                            walk_at "go"
                            refine lcL (fun v => rfl) (SqL.of h4) (LcS.map (ys := [V.str (Str.ofString "> " ++ l), V.str (Str.ofString "= " ++ kk ++ Str.ofString " " ++ tt), V.str (Str.ofString "# " ++ ⟨x.toArray⟩)]) (fun v => match v with | .str s => .str (s ++ Str.ofString "\n") | v => v) rfl (Nat.le_of_ble_eq_true rfl) (fun i y h => h) (fun H' e => SqL.of (e _ _ h4)) (fun y H5 hy e5 R hR => ?_) (fun D H5 n5 e5 h5 => ?_))
                            · show tOp _ _ _ [some (V.ref a), some (V.ref pf), some (V.ref at_), some (V.ref p), some (V.ref pl), some y] H5 R
                              simp only [List.mem_cons, List.not_mem_nil, or_false] at hy
                              rcases hy with rfl | rfl | rfl
                              · walk_at "go"
                                exact hR H5 (Same.refl H5)
                              · walk_at "go"
                                exact hR H5 (Same.refl H5)
                              · walk_at "go"
                                exact hR H5 (Same.refl H5)
                            · walk_at "go"
                              have e25 := (e3.trans e4).trans e5
                              refine w_extG (e25 _ _ hp2) h5 (by simp only [List.length_map]; simp; omega) fun H6 b6 t6 h6 => ?_
                              have r1 : Str.ofString "> " ++ l ++ Str.ofString "\n" = nlRow (62 :: 32 :: l.cps.toList) := str_ext (by
                                rw [app_l, app_l]
                                rfl)
                              have r2 : Str.ofString "= " ++ kk ++ Str.ofString " " ++ tt ++ Str.ofString "\n" = nlRow (61 :: 32 :: (kk.cps.toList ++ 32 :: tt.cps.toList)) := str_ext (by
                                rw [app_l, app_l, app_l, app_l]
                                show [61, 32] ++ kk.cps.toList ++ [32] ++ tt.cps.toList ++ [10] = (61 :: 32 :: (kk.cps.toList ++ 32 :: tt.cps.toList)) ++ [10]
                                simp)
                              have r3 : Str.ofString "# " ++ ⟨x.toArray⟩ ++ Str.ofString "\n" = nlRow (35 :: 32 :: x) := str_ext (by
                                rw [app_l, app_l]
                                show [35, 32] ++ x.toArray.toList ++ [10] = (35 :: 32 :: x) ++ [10]
                                simp)
                              refine ⟨rows ++ [62 :: 32 :: l.cps.toList, 61 :: 32 :: (kk.cps.toList ++ 32 :: tt.cps.toList), 35 :: 32 :: x], ?_, ⟨_, _, _, _, rfl⟩, same_but ((e.trans e2).trans e25) b6 n1, ?_, ?_, ?_⟩
                              · rw [outs_take he, ho, en1, hx3]
                                rfl
                              · rw [h6, List.map_append, List.map_append]
                                show some (HO.lst (_ ++ [V.str (Str.ofString "> " ++ l ++ Str.ofString "\n"), V.str (Str.ofString "= " ++ kk ++ Str.ofString " " ++ tt ++ Str.ofString "\n"), V.str (Str.ofString "# " ++ ⟨x.toArray⟩ ++ Str.ofString "\n")])) = _
                                rw [r1, r2, r3]
                                rfl
                              · intro r hr
                                rcases List.mem_append.mp hr with hr | hr
                                · exact hrl r hr
                                · have c1 := len_l l
                                  have c2 := len_l kk
                                  have c3 := len_l tt
                                  simp only [List.mem_cons, List.not_mem_nil, or_false] at hr
                                  rcases hr with rfl | rfl | rfl
                                  · simp only [List.length_cons]
                                    omega
                                  · simp only [List.length_cons, List.length_append]
                                    omega
                                  · simp only [List.length_cons]
                                    omega
                              · rw [List.length_append, hrn]
                                simp
                                omega
                          | _ => cases hz
                      | _ => cases hx2
                  | _ => cases hw
            | _ => cases ht
      · obtain ⟨rows, ho, ⟨o1, o2, o3, o4, rfl⟩, e, hpf, hrl, hrn⟩ := p
        have hl2 := hp.length
        rw [show xs.length = es.length from hl2, List.take_length] at ho
        have hjoin : (Txt.join (Str.ofString "") (rows.map nlRow)) = ⟨(glue rows).toArray⟩ := str_ext (by
          rw [show (Str.ofString "") = ⟨#[]⟩ from rfl, join_flat]
          simp only [List.map_map, glue]
          rfl)
        have hsum : ∀ l : List Tx, (∀ r ∈ l, r.length ≤ 150000) → ((l.map nlRow).map (·.length)).sum ≤ l.length * 150001 := by
          intro l
          induction l with
          | nil => intro _; simp
          | cons r l ih =>
            intro h
            have h1 := ih fun q hq => h q (List.mem_cons_of_mem _ hq)
            have h2 := h r List.mem_cons_self
            have h3 : (nlRow r).length = r.length + 1 := by simp [nlRow, Str.length]
            simp only [List.map_cons, List.sum_cons, List.length_cons]
            rw [h3]
            omega
        have hs1 := hsum rows hrl
        walk_at "go"
        refine w_join (ys := rows.map nlRow) (.inl (SqL.of hpf)) (by
          rw [show (Str.ofString "").length = 0 from rfl, Nat.mul_zero]
          omega) ?_
        rw [hjoin]
        exact q1 rows ho H' e
end
end K66

set_option exponentiation.threshold 256
set_option Elab.async false
set_option linter.all false
set_option maxRecDepth 100000
set_option maxHeartbeats 4000000
set_option exponentiation.threshold 10
namespace K66
open PySem PySem.Spec PyProof.Rows L2 Lay DataM
local macro_rules | `(tactic| walk_at "1") => `(tactic| first
  | with_reducible refine w_seq ?_
  | ((with_reducible refine w_var (v := ?vv) ?hv ?_); (case hv => rfl))
  | with_reducible refine w_c ?_
  | with_reducible refine w_m1 ?_
  | with_reducible refine w_isstr ?_
  | with_reducible refine w_bm0 ?_
  | with_reducible refine w_bm ?_
  | with_reducible refine w_gcons ?_
  | with_reducible refine w_gnil ?_
  | ((with_reducible refine w_ty (xs := ?vv) ?hv ?_); (case hv => walk_at "hx"))
  | ((with_reducible refine w_gtup (xs := ?vv) ?hv ?hl ?_); (case hv => walk_at "hx"); (case hl => rfl))
  | with_reducible refine w_for1 ?_
  | with_reducible refine w_for2 ?_
  | with_reducible refine w_for3 ?_
  | with_reducible refine w_forA ?_
  | with_reducible refine w_forE ?_
  | ((with_reducible refine w_aug (x := ?vv) ?hv ?_); (case hv => rfl))
  | with_reducible refine w_op ?_
  | with_reducible refine w_cb ?_
  | with_reducible refine w_acons ?_
  | with_reducible refine w_anil ?_
  | with_reducible refine w_set ?_
  | with_reducible refine w_if ?_
  | with_reducible refine w_test ?_
  | with_reducible refine w_tB ?_
  | with_reducible refine w_bl ?_
  | with_reducible refine w_and ?_
  | with_reducible refine w_or ?_
  | with_reducible refine w_not ?_
  | with_reducible refine w_iteT ?_
  | with_reducible refine w_iteF ?_
  | with_reducible refine w_ret ?_
  | with_reducible refine w_next ?_
  | with_reducible refine w_drop ?_
  | with_reducible refine w_call ?_
  | with_reducible refine w_ifx ?_
  | with_reducible refine w_andV ?_
  | with_reducible refine w_orV ?_
  | with_reducible refine w_notV ?_
  | with_reducible refine w_sl ?_
  | with_reducible refine w_nopart ?_
  | with_reducible refine w_part ?_
  | with_reducible refine w_exint ?_
  | with_reducible refine w_chain ?_
  | with_reducible refine w_par ?_
  | with_reducible refine w_two ?_
  | with_reducible refine w_par3 ?_
  | with_reducible refine w_three ?_
  | with_reducible refine w_asg ?_
  | with_reducible refine w_gset ?_
  | with_reducible refine w_retN ?_
  | with_reducible refine w_brk ?_
  | with_reducible refine w_cont ?_
  | with_reducible refine w_un ?_
  | with_reducible refine w_neg ?_
  | with_reducible refine w_callS ?_
  | with_reducible refine w_tup0 ?_
  | with_reducible refine w_lst0 ?_
  | with_reducible refine w_fld0 ?_
  | with_reducible refine w_sfld ?_
  | with_reducible refine w_gsub ?_
  | with_reducible refine w_iAny ?_
  | with_reducible refine w_iR1 ?_
  | with_reducible refine w_make ?_
  | with_reducible refine w_meth ?_
  | with_reducible refine w_mk1 ?_
  | with_reducible refine w_LZ ?_)
local macro_rules | `(tactic| walk_at "2") => `(tactic| first
  | with_reducible refine w_add_int ?_
  | with_reducible refine w_sub ?_
  | ((with_reducible refine w_add_str ?hl ?_); (case hl => walk_at "len"))
  | ((with_reducible refine w_mod ?hl ?_); (case hl => first | decide | omega))
  | ((with_reducible refine w_fdiv ?h1 ?h2 ?_); (case h1 => first | decide | omega); (case h2 => first | decide | omega))
  | ((with_reducible refine w_mulR ?h1 ?h2 ?_); (case h1 => first | decide | omega); (case h2 => first | decide | omega))
  | ((with_reducible refine w_mulL ?h1 ?h2 ?_); (case h1 => first | decide | omega); (case h2 => first | decide | omega))
  | with_reducible refine w_iadd_int ?_
  | ((with_reducible refine w_iadd_str ?hl ?_); (case hl => walk_at "len"))
  | ((with_reducible refine w_mk ?hl ?_); (case hl => walk_at "len"))
  | with_reducible refine w_lt_int ?_
  | with_reducible refine w_lt_str ?_
  | with_reducible refine w_le_int ?_
  | with_reducible refine w_le_str ?_
  | with_reducible refine w_gt ?_
  | with_reducible refine w_ge ?_
  | with_reducible refine w_eq_int ?_
  | with_reducible refine w_eq_str ?_
  | with_reducible refine w_ne_int ?_
  | with_reducible refine w_ne_str ?_
  | ((with_reducible refine w_isInt (d := ?vd) ?hd ?_); (case hd => walk_at "dp"))
  | ((with_reducible refine w_isBool (d := ?vd) ?hd ?_); (case hd => walk_at "dp"))
  | ((with_reducible refine w_isStr (d := ?vd) ?hd ?_); (case hd => walk_at "dp"))
  | ((with_reducible refine w_isTup (d := ?vd) ?hd ?_); (case hd => walk_at "dp"))
  | ((with_reducible refine w_isLst (d := ?vd) ?hd ?_); (case hd => walk_at "dp"))
  | refine w_in_str ?_
  | refine w_nin_str ?_
  | ((with_reducible refine w_ixL (xs := ?vv) (y := ?vr) ?h ?ha ?_); (case h => walk_at "hx"); (case ha => rfl))
  | with_reducible refine w_is ?_
  | with_reducible refine w_isnot ?_
  | ((with_reducible refine w_len_str ?hl ?_); (case hl => walk_at "len"))
  | ((with_reducible refine w_len (xs := ?vv) ?hl ?_); (case hl => walk_at "hx"))
  | with_reducible refine w_int_int ?_
  | with_reducible refine w_str_str ?_
  | with_reducible refine w_abs ?_
  | ((with_reducible refine w_sl_str ?hl ?_); (case hl => walk_at "len"))
  | ((with_reducible refine w_fldAt (C := ?vC) (dx := ?vdx) (fs := ?vfs) (v := ?vv) ?h1 ?h2 ?h3 ?h4 ?_); (case h1 => walk_at "hx"); (case h2 => assumption); (case h3 => assumption); (case h4 => rfl))
  | ((with_reducible refine w_methAt (dx := ?vdx) (fs := ?vfs) ?h1 ?h2 ?_); (case h1 => walk_at "hx"); (case h2 => rfl))
  | ((with_reducible refine w_iteP ?h1 ?_); (case h1 => walk_at "yes"))
  | ((with_reducible refine w_iteN ?h1 ?_); (case h1 => walk_at "no")))
local macro_rules | `(tactic| walk_at "yes") => `(tactic| first | assumption | ((with_reducible refine bnotT ?_); walk_at "no") | (refine decide_eq_true ?_; first | assumption | omega) | exact rfl)
local macro_rules | `(tactic| walk_at "no") => `(tactic| first | assumption | ((with_reducible refine bnotF ?_); walk_at "yes") | (refine decide_eq_false ?_; first | assumption | omega) | exact rfl)
local macro_rules | `(tactic| walk_at "len") => `(tactic| first | assumption | exact Nat.le_of_ble_eq_true rfl | omega | decide | (simp only [List.length_append, List.length_cons, List.length_nil, List.length_map]; omega) | (simp only [app_len]; omega))
local macro_rules | `(tactic| walk_at "ne") => `(tactic| first | assumption | (refine Ne.symm ?_; assumption))
local macro_rules | `(tactic| walk_at "hx") => `(tactic| first
  | assumption
  | exact upd_same
  | ((with_reducible refine sqa_l ?_); walk_at "hx")
  | ((with_reducible refine sqa_t ?_); walk_at "hx")
  | ((with_reducible refine SqL.of ?_); walk_at "hx")
  | ((with_reducible refine SqT.of ?_); walk_at "hx")
  | ((with_reducible refine at_same (by assumption) ?_); walk_at "hx")
  | ((with_reducible refine at_but (by assumption) ?hne ?_); (case hne => walk_at "ne"); walk_at "hx")
  | ((with_reducible refine Txt.tup (by assumption) _ _ ?_); walk_at "hx")
  | ((with_reducible refine Same.seq (by assumption) ?_); walk_at "hx")
  | ((with_reducible refine Same.seqT (by assumption) ?_); walk_at "hx")
  | ((with_reducible refine Dp.same (by assumption) _ _ ?_); walk_at "hx")
  | ((with_reducible refine DpAll.same (by assumption) _ _ ?_); walk_at "hx"))
local macro_rules | `(tactic| walk_at "go") => `(tactic| repeat (first | walk_at "1" | walk_at "2"))
local macro_rules | `(tactic| walk_at "dp") => `(tactic| first | exact .int _ | exact .str _ | exact .bl _ | exact .non | walk_at "hx")

section
variable {P : Program} {w : World} {K : PySem.W.Frag} {mg : Str → Option Value} {base : Heap} {CM CR CP CK : Addr}
structure MkF (K : PySem.W.Frag) (mg : Str → Option Value) (CK : Addr) : Prop where
  c : ∃ u, mg "MARKS" = some u ∧ RelV (.ref CK) u
  at_ : ∀ H, SqT K H CK [.str "> ", .str "= ", .str "# "]
def mark : Nat → Tx
  | 0 => [62, 32]
  | 1 => [61, 32]
  | _ => [35, 32]
def rdPart (l : Tx) (k : Nat) : Option PyData :=
  if l.take 2 = mark k then (match k with
    | 0 => some (.str ⟨(l.drop 2).toArray⟩)
    | 1 => (match TL.par [32] [] (l.drop 2) with
      | some (a, b) => if isWordT a = true then some (.tuple [.str ⟨a.toArray⟩, .str ⟨b.toArray⟩]) else none
      | none => none)
    | _ => (match readT (l.drop 2) with
      | some (.tuple ds) => some (.tuple ds)
      | _ => none)) else none
def spPart (K : PySem.W.Frag) (CM : Addr) : Sp := fun vs H Q E => ∃ (z : Str) (k : Nat), vs = [.str z, .int (k : Nat)] ∧ k < 3 ∧ z.length ≤ 400000 ∧ (∀ d, rdPart z.cps.toList k = some d → ∀ v' H', Same H H' → Dp K H' v' d → Lay.fz d = true → Q v' H') ∧
  (rdPart z.cps.toList k = none → ∀ H', Same H H' → E (.ref CM) none H')
theorem w_sl_strG {z : Str} {lo hi : Option Int} {H : Hp} {Q : VK} (hl : z.length ≤ 10000000) (y : Str) (hy : (cutS z lo hi).cps.toList = y.cps.toList) (q : Q (.str y) H) : rSlA' K (.str z) lo hi H Q := by
  refine w_sl_str hl ?_
  rw [show cutS z lo hi = y from str_ext hy]
  exact q
theorem w_partition {a : Str} {H : Hp} {Q : VK} (hl : a.length ≤ 10000000) (q : ∀ p H', H p = none → Same H H' → H' p = some (.tup [.str (Txt.partition a " ").1, .str (Txt.partition a " ").2.1, .str (Txt.partition a " ").2.2]) → Q (.ref p) H') :
    ∃ a' b', V.str a = .str a' ∧ [V.str " "] = [.str b'] ∧ (b'.length == 0) = false ∧ a'.length ≤ sizeLine ∧ ∀ p, H p = none → Q (.ref p) (upd H p (.tup [.str (Txt.partition a' b').1, .str (Txt.partition a' b').2.1, .str (Txt.partition a' b').2.2])) :=
  ⟨a, " ", rfl, rfl, rfl, Nat.le_trans hl (by decide), fun p n => q p _ n (same_upd n) upd_same⟩
theorem par_sp (a : Str) : Txt.partition a " " = (match TL.par [32] [] a.cps.toList with | some (x, y) => (⟨x.toArray⟩, " ", ⟨y.toArray⟩) | none => (a, Str.empty, Str.empty)) := TL.partition_par a " " (by decide)
theorem par_len : ∀ (l acc x y : Tx), TL.par [32] acc l = some (x, y) → x.length + y.length + 1 ≤ acc.length + l.length
  | [], acc, x, y, h => by simp [TL.par] at h
  | c :: r, acc, x, y, h => by
    unfold TL.par at h
    split at h
    · cases h
      simp
      omega
    · have := par_len r (acc ++ [c]) x y h
      simp only [List.length_append, List.length_cons, List.length_nil] at this ⊢
      omega
theorem ok_read_part {f : Addr} {fd : FuncData} (T : Fx w K mg CM CP) (MK : MkF K mg CK) (F : Fun K "read_part" "read_part" s_read_part f fd) (c_is_word : Fn0 P w K mg base 1 "is_word" (spWord K))
    (c_read_data : FnM true P w K mg base 4 "read_data" (spRead K CM)) : FnOk P w K mg base (CXm true P w) 5 f fd ["line", "k"] (spPart K CM) := by
  refine okM F sc_read_part (fun vs H Q E h => ?_) (fun cdv A outer s H vs Q E hr h => ?_)
  · obtain ⟨z, k, rfl, _⟩ := h
    rfl
  · obtain ⟨z, k, rfl, hk, hz, q1, q2⟩ := h
    refine ⟨_, (pss_cons (ps_if (pt_cmpR (op_neA (K := K) hr.units) (pe_slice (sl_A (K := K)) (pv 0) po_none (po_some pe_int)) (pe_ix (ix_A (K := K)) (pe_gc (by rfl) MK.c) (pv 1) (fun _ _ => rfl)) (nomark _)) (pss_one (ps_raiseM rfl (tk_of rfl rfl rfl rfl) (mk_cst PySem.F.excBase_ValueError T.x_Malformed T.g_Malformed T.k_Malformed (raises_own T.s_Malformed T.t_Malformed) (by rfl)))) pss_nil)
    (pss_cons (ps_set (i := 2) sc_read_part.nd rfl (by first | exact Or.inl rfl | exact Or.inr rfl) (pe_slice (sl_A (K := K)) (pv 0) (po_some pe_int) po_none))
    (pss_cons (ps_if (pt_cmpR (op_eqA (K := K) hr.units) (pv 1) pe_int (nomark _)) (pss_one (ps_ret (pv 2))) pss_nil)
    (pss_cons (ps_if (pt_cmpR (op_eqA (K := K) hr.units) (pv 1) pe_int (nomark _)) (pss_cons (ps_asg (pe_partition (pv 2) pe_str) (tup_A (K := K) (n := 3) rfl (pgs_cons (pg_name (i := 3) sc_read_part.nd rfl (by first | exact Or.inl rfl | exact Or.inr rfl)) (pgs_cons (pg_name (i := 4) sc_read_part.nd rfl (by first | exact Or.inl rfl | exact Or.inr rfl)) (pgs_cons (pg_name (i := 5) sc_read_part.nd rfl (by first | exact Or.inl rfl | exact Or.inr rfl)) pgs_nil)))))
    (pss_cons (ps_if (PW.pt (pw_or (pt_cmpR (op_eqA (K := K) hr.units) (pv 4) pe_str (nomark _)) (pw_or1 (pt_not (pt_val (pe_f0 c_is_word hr (by first | decide | omega) (pa_cons (pv 3) pa_nil))))))) (pss_one (ps_raiseM rfl (tk_of rfl rfl rfl rfl) (mk_cst PySem.F.excBase_ValueError T.x_Malformed T.g_Malformed T.k_Malformed (raises_own T.s_Malformed T.t_Malformed) (by rfl)))) pss_nil)
    (pss_one (ps_ret (pe_tupG (pa_cons (pv 3) (pa_cons (pv 5) pa_nil))))))) pss_nil)
    (pss_cons (ps_set (i := 6) sc_read_part.nd rfl (by first | exact Or.inl rfl | exact Or.inr rfl) (pe_fc c_read_data hr (by first | decide | omega) (passM (c' := true) (tk_of rfl rfl rfl rfl) (.inl rfl) (fun _ _ _ _ h => h)) (pa_cons (pv 2) pa_nil)))
    (pss_cons (ps_if (pt_not (pt_val (pe_callB (call_isiA (K := K)) (by rfl) T.b_isinstance (by decide +kernel) (pa_cons (pv 6) (pa_cons (pe_bltn (v := .ty "tuple") (by rfl) T.b_tuple (by decide +kernel) rfl) pa_nil))))) (pss_one (ps_raiseM rfl (tk_of rfl rfl rfl rfl) (mk_cst PySem.F.excBase_ValueError T.x_Malformed T.g_Malformed T.k_Malformed (raises_own T.s_Malformed T.t_Malformed) (by rfl)))) pss_nil)
    (pss_one (ps_ret (pv 6))))))))), ?_⟩
    try dsimp only [cxOf]
    refine w_start (show _ = [some _, some _, none, none, none, none, none] from rfl) ?_
    have hm : ∀ H, SqT K H CK [.str "> ", .str "= ", .str "# "] := MK.at_
    have c2 : (cutS z none (some 2)).cps.toList = z.cps.toList.take 2 := cut_hi z 2
    have c3 : (cutS z (some 2) none).cps.toList = z.cps.toList.drop 2 := cut_lo z 2
    have lz := len_l z
    have key : ∀ (m : Str), m.cps.toList = mark k → (cutS z none (some 2) = m ↔ z.cps.toList.take 2 = mark k) := fun m e => by
      rw [← c2, ← e]
      exact ⟨fun h => by rw [h], fun h => str_ext h⟩
    by_cases hmk : z.cps.toList.take 2 = mark k
    · have rest : ∀ y, y = cutS z (some 2) none → y.length ≤ 400000 := fun y e => by
        rw [e, ← len_l, c3, List.length_drop]
        omega
      have lrest := rest _ rfl
      have hd : rdPart z.cps.toList k = _ := if_pos hmk
      match k, hk with
      | 0, _ =>
        have e0 : decide (cutS z none (some 2) = Str.ofString "> ") = true := decide_eq_true ((key _ rfl).mpr hmk)
        walk_at "go"
        refine w_ix (.inr (hm H)) (atI_nat (j := 0) rfl) ?_
        walk_at "go"
        refine q1 _ hd _ H (Same.refl H) ?_ rfl
        rw [show cutS z (some 2) none = ⟨(z.cps.toList.drop 2).toArray⟩ from str_ext c3]
        exact .str _
      | 1, _ =>
        have e0 : decide (cutS z none (some 2) = Str.ofString "= ") = true := decide_eq_true ((key _ rfl).mpr hmk)
        walk_at "go"
        refine w_ix (.inr (hm H)) (atI_nat (j := 1) rfl) ?_
        walk_at "go"
        refine ⟨_, _, rfl, rfl, rfl, Nat.le_trans lrest (by decide), fun p n1 => ?_⟩
        have e1 := same_upd (o := .tup [V.str (Txt.partition (cutS z (some 2) none) " ").1, V.str (Txt.partition (cutS z (some 2) none) " ").2.1, V.str (Txt.partition (cutS z (some 2) none) " ").2.2]) n1
        have h1 : upd H p (.tup [V.str (Txt.partition (cutS z (some 2) none) " ").1, V.str (Txt.partition (cutS z (some 2) none) " ").2.1, V.str (Txt.partition (cutS z (some 2) none) " ").2.2]) p = some _ := upd_same
        generalize hH1 : upd H p (.tup [V.str (Txt.partition (cutS z (some 2) none) " ").1, V.str (Txt.partition (cutS z (some 2) none) " ").2.1, V.str (Txt.partition (cutS z (some 2) none) " ").2.2]) = H1 at e1 h1
        show gTup _ _ _ _ _ H1 _
        rw [par_sp, c3] at h1
        cases hp : TL.par [32] [] (z.cps.toList.drop 2) with
        | none =>
          rw [hp] at h1 hd
          have e2 : decide (Str.empty = Str.ofString "") = true := by decide
          walk_at "go"
          exact q2 hd H1 e1
        | some xy =>
          obtain ⟨x, y⟩ := xy
          rw [hp] at h1 hd
          have e2 : decide ((" " : Str) = Str.ofString "") = false := by decide
          have hx : x.length + y.length + 1 ≤ (z.cps.toList.drop 2).length := by
            have := par_len _ _ _ _ hp
            simpa using this
          rw [List.length_drop] at hx
          have lx : (⟨x.toArray⟩ : Str).length = x.length := by simp [Str.length]
          walk_at "go"
          refine ⟨_, _, rfl, .str _, (show (⟨x.toArray⟩ : Str).length ≤ 1000000 by omega), fun H2 e2 => ?_⟩
          walk_at "go"
          cases hw : isWordT x with
          | false =>
            have hw' : isWord (.str ⟨x.toArray⟩) = false := by
              show isWordT x.toArray.toList = false
              rw [List.toList_toArray, hw]
            walk_at "go"
            refine q2 ?_ H2 (e1.trans e2)
            rw [hd]
            show (if _ then _ else _) = none
            rw [hw]
            rfl
          | true =>
            have hw' : isWord (.str ⟨x.toArray⟩) = true := by
              show isWordT x.toArray.toList = true
              rw [List.toList_toArray, hw]
            walk_at "go"
            intro t H3 n3 e3 h3
            walk_at "go"
            refine q1 _ (hd.trans (if_pos hw)) _ H3 ((e1.trans e2).trans e3) (.tup (SqT.of h3) (.cons (.str _) (.cons (.str _) .nil))) rfl
      | 2, _ =>
        have e0 : decide (cutS z none (some 2) = Str.ofString "# ") = true := decide_eq_true ((key _ rfl).mpr hmk)
        walk_at "go"
        refine w_ix (.inr (hm H)) (atI_nat (j := 2) rfl) ?_
        walk_at "go"
        refine ⟨_, _, rfl, .str (cutS z (some 2) none), lrest, fun d' hd' v' H1 e1 hdp hfz => ?_, fun hn H1 e1 => ?_⟩
        · have hd2 : readT (z.cps.toList.drop 2) = some d' := by
            rw [← c3]
            exact hd'
          walk_at "go"
          cases ht : isTupD d' with
          | false =>
            walk_at "go"
            refine q2 ?_ H1 e1
            rw [hd]
            show (match readT (z.cps.toList.drop 2) with | some (.tuple ds) => some (PyData.tuple ds) | _ => none) = none
            rw [hd2]
            cases d' <;> first | rfl | cases ht
          | true =>
            cases d' with
            | tuple ds =>
              walk_at "go"
              refine q1 _ ?_ v' H1 e1 hdp hfz
              rw [hd]
              show (match readT (z.cps.toList.drop 2) with | some (.tuple ds) => some (PyData.tuple ds) | _ => none) = _
              rw [hd2]
            | _ => cases ht
        · refine q2 ?_ H1 e1
          rw [hd]
          show (match readT (z.cps.toList.drop 2) with | some (.tuple ds) => some (PyData.tuple ds) | _ => none) = none
          rw [show readT (z.cps.toList.drop 2) = none by rw [← c3]; exact hn]
    · have hd : rdPart z.cps.toList k = none := if_neg hmk
      match k, hk with
      | 0, _ =>
        have e0 : decide (cutS z none (some 2) = Str.ofString "> ") = false := decide_eq_false fun h => hmk ((key _ rfl).mp h)
        walk_at "go"
        refine w_ix (.inr (hm H)) (atI_nat (j := 0) rfl) ?_
        walk_at "go"
        exact q2 hd H (Same.refl H)
      | 1, _ =>
        have e0 : decide (cutS z none (some 2) = Str.ofString "= ") = false := decide_eq_false fun h => hmk ((key _ rfl).mp h)
        walk_at "go"
        refine w_ix (.inr (hm H)) (atI_nat (j := 1) rfl) ?_
        walk_at "go"
        exact q2 hd H (Same.refl H)
      | 2, _ =>
        have e0 : decide (cutS z none (some 2) = Str.ofString "# ") = false := decide_eq_false fun h => hmk ((key _ rfl).mp h)
        walk_at "go"
        refine w_ix (.inr (hm H)) (atI_nat (j := 2) rfl) ?_
        walk_at "go"
        exact q2 hd H (Same.refl H)
end
end K66

set_option exponentiation.threshold 256
set_option Elab.async false
set_option linter.all false
set_option maxRecDepth 100000
set_option maxHeartbeats 4000000
set_option exponentiation.threshold 10
namespace K66
open PySem PySem.Spec PyProof.Rows L2 Lay DataM
local macro_rules | `(tactic| walk_at "1") => `(tactic| first
  | with_reducible refine w_seq ?_
  | ((with_reducible refine w_var (v := ?vv) ?hv ?_); (case hv => rfl))
  | with_reducible refine w_c ?_
  | with_reducible refine w_m1 ?_
  | with_reducible refine w_isstr ?_
  | with_reducible refine w_bm0 ?_
  | with_reducible refine w_bm ?_
  | with_reducible refine w_gcons ?_
  | with_reducible refine w_gnil ?_
  | ((with_reducible refine w_ty (xs := ?vv) ?hv ?_); (case hv => walk_at "hx"))
  | ((with_reducible refine w_gtup (xs := ?vv) ?hv ?hl ?_); (case hv => walk_at "hx"); (case hl => rfl))
  | with_reducible refine w_for1 ?_
  | with_reducible refine w_for2 ?_
  | with_reducible refine w_for3 ?_
  | with_reducible refine w_forA ?_
  | with_reducible refine w_forE ?_
  | ((with_reducible refine w_aug (x := ?vv) ?hv ?_); (case hv => rfl))
  | with_reducible refine w_op ?_
  | with_reducible refine w_cb ?_
  | with_reducible refine w_acons ?_
  | with_reducible refine w_anil ?_
  | with_reducible refine w_set ?_
  | with_reducible refine w_if ?_
  | with_reducible refine w_test ?_
  | with_reducible refine w_tB ?_
  | with_reducible refine w_bl ?_
  | with_reducible refine w_and ?_
  | with_reducible refine w_or ?_
  | with_reducible refine w_not ?_
  | with_reducible refine w_iteT ?_
  | with_reducible refine w_iteF ?_
  | with_reducible refine w_ret ?_
  | with_reducible refine w_next ?_
  | with_reducible refine w_drop ?_
  | with_reducible refine w_call ?_
  | with_reducible refine w_ifx ?_
  | with_reducible refine w_andV ?_
  | with_reducible refine w_orV ?_
  | with_reducible refine w_notV ?_
  | with_reducible refine w_sl ?_
  | with_reducible refine w_nopart ?_
  | with_reducible refine w_part ?_
  | with_reducible refine w_exint ?_
  | with_reducible refine w_chain ?_
  | with_reducible refine w_par ?_
  | with_reducible refine w_two ?_
  | with_reducible refine w_par3 ?_
  | with_reducible refine w_three ?_
  | with_reducible refine w_asg ?_
  | with_reducible refine w_gset ?_
  | with_reducible refine w_retN ?_
  | with_reducible refine w_brk ?_
  | with_reducible refine w_cont ?_
  | with_reducible refine w_un ?_
  | with_reducible refine w_neg ?_
  | with_reducible refine w_callS ?_
  | with_reducible refine w_tup0 ?_
  | with_reducible refine w_lst0 ?_
  | with_reducible refine w_fld0 ?_
  | with_reducible refine w_sfld ?_
  | with_reducible refine w_gsub ?_
  | with_reducible refine w_iAny ?_
  | with_reducible refine w_iR1 ?_
  | with_reducible refine w_make ?_
  | with_reducible refine w_meth ?_
  | with_reducible refine w_mk1 ?_
  | with_reducible refine w_LZ ?_)
local macro_rules | `(tactic| walk_at "2") => `(tactic| first
  | with_reducible refine w_add_int ?_
  | with_reducible refine w_sub ?_
  | ((with_reducible refine w_add_str ?hl ?_); (case hl => walk_at "len"))
  | ((with_reducible refine w_mod ?hl ?_); (case hl => first | decide | omega))
  | ((with_reducible refine w_fdiv ?h1 ?h2 ?_); (case h1 => first | decide | omega); (case h2 => first | decide | omega))
  | ((with_reducible refine w_mulR ?h1 ?h2 ?_); (case h1 => first | decide | omega); (case h2 => first | decide | omega))
  | ((with_reducible refine w_mulL ?h1 ?h2 ?_); (case h1 => first | decide | omega); (case h2 => first | decide | omega))
  | with_reducible refine w_iadd_int ?_
  | ((with_reducible refine w_iadd_str ?hl ?_); (case hl => walk_at "len"))
  | ((with_reducible refine w_mk ?hl ?_); (case hl => walk_at "len"))
  | with_reducible refine w_lt_int ?_
  | with_reducible refine w_lt_str ?_
  | with_reducible refine w_le_int ?_
  | with_reducible refine w_le_str ?_
  | with_reducible refine w_gt ?_
  | with_reducible refine w_ge ?_
  | with_reducible refine w_eq_int ?_
  | with_reducible refine w_eq_str ?_
  | with_reducible refine w_ne_int ?_
  | with_reducible refine w_ne_str ?_
  | ((with_reducible refine w_isInt (d := ?vd) ?hd ?_); (case hd => walk_at "dp"))
  | ((with_reducible refine w_isBool (d := ?vd) ?hd ?_); (case hd => walk_at "dp"))
  | ((with_reducible refine w_isStr (d := ?vd) ?hd ?_); (case hd => walk_at "dp"))
  | ((with_reducible refine w_isTup (d := ?vd) ?hd ?_); (case hd => walk_at "dp"))
  | ((with_reducible refine w_isLst (d := ?vd) ?hd ?_); (case hd => walk_at "dp"))
  | refine w_in_str ?_
  | refine w_nin_str ?_
  | ((with_reducible refine w_ixL (xs := ?vv) (y := ?vr) ?h ?ha ?_); (case h => walk_at "hx"); (case ha => rfl))
  | with_reducible refine w_is ?_
  | with_reducible refine w_isnot ?_
  | ((with_reducible refine w_len_str ?hl ?_); (case hl => walk_at "len"))
  | ((with_reducible refine w_len (xs := ?vv) ?hl ?_); (case hl => walk_at "hx"))
  | with_reducible refine w_int_int ?_
  | with_reducible refine w_str_str ?_
  | with_reducible refine w_abs ?_
  | ((with_reducible refine w_sl_str ?hl ?_); (case hl => walk_at "len"))
  | ((with_reducible refine w_fldAt (C := ?vC) (dx := ?vdx) (fs := ?vfs) (v := ?vv) ?h1 ?h2 ?h3 ?h4 ?_); (case h1 => walk_at "hx"); (case h2 => assumption); (case h3 => assumption); (case h4 => rfl))
  | ((with_reducible refine w_methAt (dx := ?vdx) (fs := ?vfs) ?h1 ?h2 ?_); (case h1 => walk_at "hx"); (case h2 => rfl))
  | ((with_reducible refine w_iteP ?h1 ?_); (case h1 => walk_at "yes"))
  | ((with_reducible refine w_iteN ?h1 ?_); (case h1 => walk_at "no")))
local macro_rules | `(tactic| walk_at "yes") => `(tactic| first | assumption | ((with_reducible refine bnotT ?_); walk_at "no") | (refine decide_eq_true ?_; first | assumption | omega) | exact rfl)
local macro_rules | `(tactic| walk_at "no") => `(tactic| first | assumption | ((with_reducible refine bnotF ?_); walk_at "yes") | (refine decide_eq_false ?_; first | assumption | omega) | exact rfl)
local macro_rules | `(tactic| walk_at "len") => `(tactic| first | assumption | exact Nat.le_of_ble_eq_true rfl | omega | decide | (simp only [List.length_append, List.length_cons, List.length_nil, List.length_map]; omega) | (simp only [app_len]; omega))
local macro_rules | `(tactic| walk_at "ne") => `(tactic| first | assumption | (refine Ne.symm ?_; assumption))
local macro_rules | `(tactic| walk_at "hx") => `(tactic| first
  | assumption
  | exact upd_same
  | ((with_reducible refine sqa_l ?_); walk_at "hx")
  | ((with_reducible refine sqa_t ?_); walk_at "hx")
  | ((with_reducible refine SqL.of ?_); walk_at "hx")
  | ((with_reducible refine SqT.of ?_); walk_at "hx")
  | ((with_reducible refine at_same (by assumption) ?_); walk_at "hx")
  | ((with_reducible refine at_but (by assumption) ?hne ?_); (case hne => walk_at "ne"); walk_at "hx")
  | ((with_reducible refine Txt.tup (by assumption) _ _ ?_); walk_at "hx")
  | ((with_reducible refine Same.seq (by assumption) ?_); walk_at "hx")
  | ((with_reducible refine Same.seqT (by assumption) ?_); walk_at "hx")
  | ((with_reducible refine Dp.same (by assumption) _ _ ?_); walk_at "hx")
  | ((with_reducible refine DpAll.same (by assumption) _ _ ?_); walk_at "hx"))
local macro_rules | `(tactic| walk_at "go") => `(tactic| repeat (first | walk_at "1" | walk_at "2"))
local macro_rules | `(tactic| walk_at "dp") => `(tactic| first | exact .int _ | exact .str _ | exact .bl _ | exact .non | walk_at "hx")

abbrev nlS : Str := Str.ofString "\n"
def rowsS (z : Str) : List Str := Txt.split z nlS
def rowsT (z : Str) : List Tx := (rowsS z).map fun s => s.cps.toList
theorem pre_nl (c : Nat) (r : Tx) : TL.pre [10] (c :: r) = (c == 10) := by
  unfold TL.pre
  simp
theorem spl_sum : ∀ (l acc : Tx), ((TL.spl [10] 0 acc l).map fun p => p.length + 1).sum = acc.length + l.length + 1
  | [], acc => by
    rw [TL.spl_nil]
    simp
  | c :: r, acc => by
    unfold TL.spl
    split
    · have := spl_sum r []
      simp only [List.map_cons, List.sum_cons, List.length_cons, List.length_nil] at this ⊢
      rw [show (0 + 1 - 1 : Nat) = 0 from rfl, this]
      omega
    · have := spl_sum r (acc ++ [c])
      rw [this]
      simp
      omega
theorem rowsT_eq (z : Str) : rowsT z = TL.spl [10] 0 [] z.cps.toList := TL.split_spl z nlS (by decide) (TL.kind_ok (by decide +kernel))
theorem rows_sum (z : Str) : ((rowsT z).map fun p => p.length + 1).sum = z.length + 1 := by
  rw [rowsT_eq, spl_sum, len_l]
  simp
theorem sum_mem {l : List Nat} {x : Nat} (h : x ∈ l) : x ≤ l.sum := by
  induction l with
  | nil => cases h
  | cons a l ih =>
    rw [List.sum_cons]
    rcases List.mem_cons.mp h with rfl | h
    · omega
    · have := ih h
      omega
theorem rows_len {z : Str} {r : Tx} (h : r ∈ rowsT z) : r.length ≤ z.length := by
  have h1 : r.length + 1 ∈ (rowsT z).map fun p => p.length + 1 := List.mem_map.mpr ⟨r, h, rfl⟩
  have := sum_mem h1
  rw [rows_sum] at this
  omega
theorem sum_cnt : ∀ l : List Tx, l.length ≤ (l.map fun p => p.length + 1).sum
  | [] => Nat.le_refl _
  | a :: l => by
    have := sum_cnt l
    simp only [List.length_cons, List.map_cons, List.sum_cons]
    omega
theorem rows_cnt (z : Str) : (rowsT z).length ≤ z.length + 1 := by
  have := sum_cnt (rowsT z)
  rwa [rows_sum] at this
theorem rows_pos (z : Str) : 1 ≤ (rowsT z).length := by
  have := rows_sum z
  cases h : rowsT z with
  | nil =>
    rw [h] at this
    simp at this
  | cons a l => simp
def pt (rows : List Tx) (j : Nat) : Option PyData := rows[j]?.bind fun r => rdPart r (j % 3)
inductive Dia (rows : List Tx) : Sum Nat (List PyData) → Prop
  | bad (i : Nat) (hi : i + 1 < rows.length) (hb : ∀ j, j < i → ∃ d, pt rows j = some d) (hn : pt rows i = none) : Dia rows (.inl (i + 1))
  | tail (hall : ∀ j, j + 1 < rows.length → ∃ d, pt rows j = some d) (ht : ¬ (rows.getLast? = some [] ∧ (rows.length - 1) % 3 = 0)) : Dia rows (.inl rows.length)
  | good (ps : List PyData) (hl : ps.length + 1 = rows.length) (hp : ∀ j d, ps[j]? = some d → pt rows j = some d) (ht : rows.getLast? = some [] ∧ (rows.length - 1) % 3 = 0) : Dia rows (.inr ps)
theorem pts_ex (rows : List Tx) : ∀ n, (∀ j, j < n → ∃ d, pt rows j = some d) → ∃ ps : List PyData, ps.length = n ∧ ∀ j d, ps[j]? = some d → pt rows j = some d
  | 0, _ => ⟨[], rfl, fun j d h => by simp at h⟩
  | n + 1, h => by
    obtain ⟨ps, hl, hp⟩ := pts_ex rows n fun j hj => h j (by omega)
    obtain ⟨d, hd⟩ := h n (by omega)
    refine ⟨ps ++ [d], by simp [hl], fun j e he => ?_⟩
    by_cases hj : j < ps.length
    · rw [List.getElem?_append_left hj] at he
      exact hp j e he
    · have : j = n := by
        have := (List.getElem?_eq_some_iff.mp he).1
        simp at this
        omega
      subst this
      rw [List.getElem?_append_right (by omega), hl, Nat.sub_self] at he
      cases he
      exact hd
theorem first_none (rows : List Tx) : ∀ n, (∀ j, j < n → ∃ d, pt rows j = some d) ∨ ∃ i, i < n ∧ (∀ j, j < i → ∃ d, pt rows j = some d) ∧ pt rows i = none
  | 0 => .inl fun j h => by omega
  | n + 1 => by
    rcases first_none rows n with h | ⟨i, h1, h2, h3⟩
    · cases e : pt rows n with
      | none => exact .inr ⟨n, by omega, h, e⟩
      | some d =>
        refine .inl fun j hj => ?_
        by_cases hjn : j = n
        · subst hjn
          exact ⟨d, e⟩
        · exact h j (by omega)
    · exact .inr ⟨i, by omega, h2, h3⟩
theorem dia_ex (rows : List Tx) (h : 1 ≤ rows.length) : ∃ r, Dia rows r := by
  rcases first_none rows (rows.length - 1) with hall | ⟨i, h1, h2, h3⟩
  · by_cases ht : rows.getLast? = some [] ∧ (rows.length - 1) % 3 = 0
    · obtain ⟨ps, hl, hp⟩ := pts_ex rows _ hall
      exact ⟨_, .good ps (by omega) hp ht⟩
    · exact ⟨_, .tail (fun j hj => hall j (by omega)) ht⟩
  · exact ⟨_, .bad i (by omega) h2 h3⟩
theorem Dia.stop {rows : List Tx} {r : Sum Nat (List PyData)} {j : Nat} (h : Dia rows r) (hj : j + 1 < rows.length) (hb : ∀ k, k < j → ∃ d, pt rows k = some d) (hn : pt rows j = none) : r = .inl (j + 1) := by
  cases h with
  | bad i hi hb2 hn2 =>
    have e : i = j := by
      rcases Nat.lt_trichotomy i j with h | h | h
      · obtain ⟨d, e⟩ := hb i h
        rw [hn2] at e
        cases e
      · exact h
      · obtain ⟨d, e⟩ := hb2 j h
        rw [hn] at e
        cases e
    rw [e]
  | tail hall ht =>
    obtain ⟨d, e⟩ := hall j hj
    rw [hn] at e
    cases e
  | good ps hl hp ht =>
    have hlt : j < ps.length := by omega
    have := hp j _ (List.getElem?_eq_getElem hlt)
    rw [hn] at this
    cases this
theorem Dia.fine {rows : List Tx} {r : Sum Nat (List PyData)} (h : Dia rows r) (h1 : 1 ≤ rows.length) (ps : List PyData) (hl : ps.length + 1 = rows.length) (hp : ∀ j d, ps[j]? = some d → pt rows j = some d) :
    (¬ (rows.getLast? = some [] ∧ (rows.length - 1) % 3 = 0) ∧ r = .inl rows.length) ∨ ((rows.getLast? = some [] ∧ (rows.length - 1) % 3 = 0) ∧ r = .inr ps) := by
  have all : ∀ j, j + 1 < rows.length → ∃ d, pt rows j = some d := fun j hj => ⟨_, hp j _ (List.getElem?_eq_getElem (by omega : j < ps.length))⟩
  cases h with
  | bad i hi hb2 hn2 =>
    obtain ⟨d, e⟩ := all i hi
    rw [hn2] at e
    cases e
  | tail hall ht => exact .inl ⟨ht, rfl⟩
  | good ps2 hl2 hp2 ht =>
    refine .inr ⟨ht, ?_⟩
    congr 1
    refine List.ext_getElem? fun j => ?_
    by_cases hj : j < ps.length
    · have e1 := hp j _ (List.getElem?_eq_getElem hj)
      have hj2 : j < ps2.length := by omega
      have e2 := hp2 j _ (List.getElem?_eq_getElem hj2)
      rw [e1] at e2
      rw [List.getElem?_eq_getElem hj, List.getElem?_eq_getElem hj2]
      exact e2.symm
    · rw [List.getElem?_eq_none (by omega), List.getElem?_eq_none (by omega)]
theorem pt0 {rows : List Tx} {j : Nat} {d : PyData} (h : pt rows j = some d) (hj : j % 3 = 0) : ∃ s, d = .str s := by
  unfold pt at h
  rw [hj] at h
  obtain ⟨r, h1, h2⟩ := Option.bind_eq_some_iff.mp h
  by_cases hm : r.take 2 = mark 0
  · rw [show rdPart r 0 = some (.str ⟨(r.drop 2).toArray⟩) from if_pos hm] at h2
    cases h2
    exact ⟨_, rfl⟩
  · rw [show rdPart r 0 = none from if_neg hm] at h2
    cases h2
theorem pt1 {rows : List Tx} {j : Nat} {d : PyData} (h : pt rows j = some d) (hj : j % 3 = 1) : ∃ a b, d = .tuple [.str a, .str b] := by
  unfold pt at h
  rw [hj] at h
  obtain ⟨r, h1, h2⟩ := Option.bind_eq_some_iff.mp h
  by_cases hm : r.take 2 = mark 1
  · rw [show rdPart r 1 = (match TL.par [32] [] (r.drop 2) with
      | some (a, b) => if isWordT a = true then some (.tuple [.str ⟨a.toArray⟩, .str ⟨b.toArray⟩]) else none
      | none => none) from if_pos hm] at h2
    cases hp : TL.par [32] [] (r.drop 2) with
    | none =>
      rw [hp] at h2
      cases h2
    | some xy =>
      obtain ⟨x, y⟩ := xy
      rw [hp] at h2
      dsimp only at h2
      split at h2
      · cases h2
        exact ⟨_, _, rfl⟩
      · cases h2
  · rw [show rdPart r 1 = none from if_neg hm] at h2
    cases h2
theorem pt2 {rows : List Tx} {j : Nat} {d : PyData} (h : pt rows j = some d) (hj : j % 3 = 2) : ∃ ds, d = .tuple ds := by
  unfold pt at h
  rw [hj] at h
  obtain ⟨r, h1, h2⟩ := Option.bind_eq_some_iff.mp h
  by_cases hm : r.take 2 = mark 2
  · rw [show rdPart r 2 = (match readT (r.drop 2) with | some (.tuple ds) => some (PyData.tuple ds) | _ => none) from if_pos hm] at h2
    cases hp : readT (r.drop 2) with
    | none =>
      rw [hp] at h2
      cases h2
    | some d2 =>
      rw [hp] at h2
      cases d2 <;> first | (cases h2; exact ⟨_, rfl⟩) | cases h2
  · rw [show rdPart r 2 = none from if_neg hm] at h2
    cases h2
end K66

set_option exponentiation.threshold 256
set_option Elab.async false
set_option linter.all false
set_option maxRecDepth 100000
set_option maxHeartbeats 4000000
set_option exponentiation.threshold 10
namespace K66
open PySem PySem.Spec PyProof.Rows L2 Lay DataM
local macro_rules | `(tactic| walk_at "1") => `(tactic| first
  | with_reducible refine w_seq ?_
  | ((with_reducible refine w_var (v := ?vv) ?hv ?_); (case hv => rfl))
  | with_reducible refine w_c ?_
  | with_reducible refine w_m1 ?_
  | with_reducible refine w_isstr ?_
  | with_reducible refine w_bm0 ?_
  | with_reducible refine w_bm ?_
  | with_reducible refine w_gcons ?_
  | with_reducible refine w_gnil ?_
  | ((with_reducible refine w_ty (xs := ?vv) ?hv ?_); (case hv => walk_at "hx"))
  | ((with_reducible refine w_gtup (xs := ?vv) ?hv ?hl ?_); (case hv => walk_at "hx"); (case hl => rfl))
  | with_reducible refine w_for1 ?_
  | with_reducible refine w_for2 ?_
  | with_reducible refine w_for3 ?_
  | with_reducible refine w_forA ?_
  | with_reducible refine w_forE ?_
  | ((with_reducible refine w_aug (x := ?vv) ?hv ?_); (case hv => rfl))
  | with_reducible refine w_op ?_
  | with_reducible refine w_cb ?_
  | with_reducible refine w_acons ?_
  | with_reducible refine w_anil ?_
  | with_reducible refine w_set ?_
  | with_reducible refine w_if ?_
  | with_reducible refine w_test ?_
  | with_reducible refine w_tB ?_
  | with_reducible refine w_bl ?_
  | with_reducible refine w_and ?_
  | with_reducible refine w_or ?_
  | with_reducible refine w_not ?_
  | with_reducible refine w_iteT ?_
  | with_reducible refine w_iteF ?_
  | with_reducible refine w_ret ?_
  | with_reducible refine w_next ?_
  | with_reducible refine w_drop ?_
  | with_reducible refine w_call ?_
  | with_reducible refine w_ifx ?_
  | with_reducible refine w_andV ?_
  | with_reducible refine w_orV ?_
  | with_reducible refine w_notV ?_
  | with_reducible refine w_sl ?_
  | with_reducible refine w_nopart ?_
  | with_reducible refine w_part ?_
  | with_reducible refine w_exint ?_
  | with_reducible refine w_chain ?_
  | with_reducible refine w_par ?_
  | with_reducible refine w_two ?_
  | with_reducible refine w_par3 ?_
  | with_reducible refine w_three ?_
  | with_reducible refine w_asg ?_
  | with_reducible refine w_gset ?_
  | with_reducible refine w_retN ?_
  | with_reducible refine w_brk ?_
  | with_reducible refine w_cont ?_
  | with_reducible refine w_un ?_
  | with_reducible refine w_neg ?_
  | with_reducible refine w_callS ?_
  | with_reducible refine w_tup0 ?_
  | with_reducible refine w_lst0 ?_
  | with_reducible refine w_fld0 ?_
  | with_reducible refine w_sfld ?_
  | with_reducible refine w_gsub ?_
  | with_reducible refine w_iAny ?_
  | with_reducible refine w_iR1 ?_
  | with_reducible refine w_make ?_
  | with_reducible refine w_meth ?_
  | with_reducible refine w_mk1 ?_
  | with_reducible refine w_LZ ?_)
local macro_rules | `(tactic| walk_at "2") => `(tactic| first
  | with_reducible refine w_add_int ?_
  | with_reducible refine w_sub ?_
  | ((with_reducible refine w_add_str ?hl ?_); (case hl => walk_at "len"))
  | ((with_reducible refine w_mod ?hl ?_); (case hl => first | decide | omega))
  | ((with_reducible refine w_fdiv ?h1 ?h2 ?_); (case h1 => first | decide | omega); (case h2 => first | decide | omega))
  | ((with_reducible refine w_mulR ?h1 ?h2 ?_); (case h1 => first | decide | omega); (case h2 => first | decide | omega))
  | ((with_reducible refine w_mulL ?h1 ?h2 ?_); (case h1 => first | decide | omega); (case h2 => first | decide | omega))
  | with_reducible refine w_iadd_int ?_
  | ((with_reducible refine w_iadd_str ?hl ?_); (case hl => walk_at "len"))
  | ((with_reducible refine w_mk ?hl ?_); (case hl => walk_at "len"))
  | with_reducible refine w_lt_int ?_
  | with_reducible refine w_lt_str ?_
  | with_reducible refine w_le_int ?_
  | with_reducible refine w_le_str ?_
  | with_reducible refine w_gt ?_
  | with_reducible refine w_ge ?_
  | with_reducible refine w_eq_int ?_
  | with_reducible refine w_eq_str ?_
  | with_reducible refine w_ne_int ?_
  | with_reducible refine w_ne_str ?_
  | ((with_reducible refine w_isInt (d := ?vd) ?hd ?_); (case hd => walk_at "dp"))
  | ((with_reducible refine w_isBool (d := ?vd) ?hd ?_); (case hd => walk_at "dp"))
  | ((with_reducible refine w_isStr (d := ?vd) ?hd ?_); (case hd => walk_at "dp"))
  | ((with_reducible refine w_isTup (d := ?vd) ?hd ?_); (case hd => walk_at "dp"))
  | ((with_reducible refine w_isLst (d := ?vd) ?hd ?_); (case hd => walk_at "dp"))
  | refine w_in_str ?_
  | refine w_nin_str ?_
  | ((with_reducible refine w_ixL (xs := ?vv) (y := ?vr) ?h ?ha ?_); (case h => walk_at "hx"); (case ha => rfl))
  | with_reducible refine w_is ?_
  | with_reducible refine w_isnot ?_
  | ((with_reducible refine w_len_str ?hl ?_); (case hl => walk_at "len"))
  | ((with_reducible refine w_len (xs := ?vv) ?hl ?_); (case hl => walk_at "hx"))
  | with_reducible refine w_int_int ?_
  | with_reducible refine w_str_str ?_
  | with_reducible refine w_abs ?_
  | ((with_reducible refine w_sl_str ?hl ?_); (case hl => walk_at "len"))
  | ((with_reducible refine w_fldAt (C := ?vC) (dx := ?vdx) (fs := ?vfs) (v := ?vv) ?h1 ?h2 ?h3 ?h4 ?_); (case h1 => walk_at "hx"); (case h2 => assumption); (case h3 => assumption); (case h4 => rfl))
  | ((with_reducible refine w_methAt (dx := ?vdx) (fs := ?vfs) ?h1 ?h2 ?_); (case h1 => walk_at "hx"); (case h2 => rfl))
  | ((with_reducible refine w_iteP ?h1 ?_); (case h1 => walk_at "yes"))
  | ((with_reducible refine w_iteN ?h1 ?_); (case h1 => walk_at "no")))
local macro_rules | `(tactic| walk_at "yes") => `(tactic| first | assumption | ((with_reducible refine bnotT ?_); walk_at "no") | (refine decide_eq_true ?_; first | assumption | omega) | exact rfl)
local macro_rules | `(tactic| walk_at "no") => `(tactic| first | assumption | ((with_reducible refine bnotF ?_); walk_at "yes") | (refine decide_eq_false ?_; first | assumption | omega) | exact rfl)
local macro_rules | `(tactic| walk_at "len") => `(tactic| first | assumption | exact Nat.le_of_ble_eq_true rfl | omega | decide | (simp only [List.length_append, List.length_cons, List.length_nil, List.length_map]; omega) | (simp only [app_len]; omega))
local macro_rules | `(tactic| walk_at "ne") => `(tactic| first | assumption | (refine Ne.symm ?_; assumption))
local macro_rules | `(tactic| walk_at "hx") => `(tactic| first
  | assumption
  | exact upd_same
  | ((with_reducible refine sqa_l ?_); walk_at "hx")
  | ((with_reducible refine sqa_t ?_); walk_at "hx")
  | ((with_reducible refine SqL.of ?_); walk_at "hx")
  | ((with_reducible refine SqT.of ?_); walk_at "hx")
  | ((with_reducible refine at_same (by assumption) ?_); walk_at "hx")
  | ((with_reducible refine at_but (by assumption) ?hne ?_); (case hne => walk_at "ne"); walk_at "hx")
  | ((with_reducible refine Txt.tup (by assumption) _ _ ?_); walk_at "hx")
  | ((with_reducible refine Same.seq (by assumption) ?_); walk_at "hx")
  | ((with_reducible refine Same.seqT (by assumption) ?_); walk_at "hx")
  | ((with_reducible refine Dp.same (by assumption) _ _ ?_); walk_at "hx")
  | ((with_reducible refine DpAll.same (by assumption) _ _ ?_); walk_at "hx"))
local macro_rules | `(tactic| walk_at "go") => `(tactic| repeat (first | walk_at "1" | walk_at "2"))
local macro_rules | `(tactic| walk_at "dp") => `(tactic| first | exact .int _ | exact .str _ | exact .bl _ | exact .non | walk_at "hx")

section
variable {P : Program} {w : World} {K : PySem.W.Frag} {mg : Str → Option Value} {base : Heap} {CM CR CP CK : Addr}
def rStrI : List V → Hp → VK → Prop := fun xs H Q => ∃ n : Int, xs = [.int n] ∧ n.natAbs.log2 < 1920 ∧ Q (.str (Str.ofString (toString n))) H
theorem call_strI {X : Cx} : CallR X (.type "str") rStrI := call_str_int
theorem w_strI {n : Int} {H : Hp} {Q : VK} (h : n.natAbs < 2 ^ 60) (q : Q (.str (Str.ofString (toString n))) H) : rStrI [.int n] H Q := ⟨n, rfl, by
  rcases Nat.eq_zero_or_pos n.natAbs with e | e
  · rw [e]
    decide
  · exact Nat.lt_of_lt_of_le ((Nat.log2_lt (by omega)).mpr h) (by decide), q⟩
theorem w_iR3 {ta : TA} {σ : L2.St} {H : Hp} {R : It → Hp → Prop} (h : ta σ H fun vs H1 => ∃ (i j c : Int) (n : Nat), vs = [.int i, .int j, .int c] ∧ RgC i j c n ∧ R (Itc i c n) H1) : iRng3 ta σ H R := h
theorem rgc3 (m : Nat) (h : m ≤ 1000000) : RgC 0 ((3 * m : Nat) : Int) 3 m := by
  have e : Builtin.Range.rangeSize 0 ((3 * m : Nat) : Int) 3 = (m : Int) := by
    unfold Builtin.Range.rangeSize
    rw [if_pos (by decide)]
    split <;> omega
  refine ⟨by decide, by decide, ?_, e⟩
  unfold Builtin.Range.small
  rw [e]
  simp only [Builtin.Range.rangeFitsLong, Bool.and_eq_true, Bool.or_eq_true, decide_eq_true_eq, beq_iff_eq]
  refine ⟨⟨⟨⟨⟨by decide, by decide⟩, by omega, by omega⟩, by decide, by decide⟩, by omega, by omega⟩, .inr ?_⟩
  rw [if_pos (by decide)]
  simp only [Bool.and_eq_true, decide_eq_true_eq]
  omega
theorem lcRC {te : TE} {vs : List Nat} {j n : Nat} {σ : L2.St} {H1 : Hp} {Q : VK} {lo c : Int} (hw : ∀ v, wipe ((wipe σ vs).set j (some v)) vs = wipe σ vs) (h : LcS te vs j σ H1 Q n (fun i y => i < n ∧ y = .int (lo + (i : Nat) * c)) (fun _ => True)) : LcG (Itc lo c n) (gName j) tYes te vs σ H1 Q := fun D hD => by
  obtain ⟨Pv, h0, _, hs, hd⟩ := h D hD
  refine lc_it walk_rangeC (fun i H' => ∃ acc, H' D = some (.lst acc) ∧ Pv i acc H') ⟨[], upd_same, h0 _ (same_upd hD) upd_same⟩ (fun _ _ _ _ => trivial) (fun i x H H' hi p y => ?_) (fun H' p => ?_)
  · obtain ⟨rfl, rfl⟩ := y
    exact lc_step hw (fun acc R q1 q2 q3 => hs i _ acc _ R ⟨hi, rfl⟩ q1 q2 q3) p
  · obtain ⟨acc, p1, p2⟩ := p
    exact hd _ _ p2 p1
def FltT (E : XK) (C : Addr) (m : Str) (H : Hp) : Prop := ∀ p H', Same H H' → H' p = some (.tup [.str m]) → E (.ref C) (some p) H'
theorem FltT.go {E : XK} {C : Addr} {m : Str} {H H1 : Hp} (q : FltT E C m H) (e : Same H H1) : FltT E C m H1 := fun p H' e2 => q p H' (e.trans e2)
theorem w_fltT {C : Addr} {H H1 : Hp} {E : XK} {z : Str} (q : FltT E C z H) (e : Same H H1) : ∃ m : Str, V.str z = .str m ∧ ∀ p H2, H1 p = none → Same H1 H2 → H2 p = some (.tup [.str m]) → E (.ref C) (some p) H2 := ⟨z, rfl, fun p H2 _ e2 h => q p H2 (e.trans e2) h⟩
def rowMsg (n : Nat) : Str := Str.ofString "row " ++ Str.ofString (toString ((n : Nat) : Int))
structure GE (K : PySem.W.Frag) (CP : Addr) (H : Hp) (ps : List PyData) (k : Nat) (v : V) : Prop where
  ex : ∃ T x p dx a b c da db d0 d2, v = .ref T ∧ H T = some (.tup [x, .ref p]) ∧ H p = some (.ins CP dx (rpFs a b c)) ∧ ps[3 * k]? = some d0 ∧ ps[3 * k + 1]? = some (.tuple [da, db]) ∧ ps[3 * k + 2]? = some d2 ∧ Dp K H x d0 ∧ Dp K H a da ∧ Dp K H b db ∧ Dp K H c d2
theorem GE.same {H H' : Hp} {ps : List PyData} {k : Nat} {v : V} (e : Same H H') (g : GE K CP H ps k v) : GE K CP H' ps k v := by
  obtain ⟨T, x, p, dx, a, b, c, da, db, d0, d2, rfl, h1, h2, h3, h4, h5, h6, h7, h8, h9⟩ := g.ex
  exact ⟨T, x, p, dx, a, b, c, da, db, d0, d2, rfl, e _ _ h1, e _ _ h2, h3, h4, h5, Dp.same e _ _ h6, Dp.same e _ _ h7, Dp.same e _ _ h8, Dp.same e _ _ h9⟩
theorem GE.but {H H' : Hp} {ps : List PyData} {k : Nat} {v : V} {D : Addr} {l : List V} (b : But D H H') (t : Txt H H') (hD : H D = some (.lst l)) (hz : fzAll ps = true) (g : GE K CP H ps k v) : GE K CP H' ps k v := by
  obtain ⟨T, x, p, dx, a, b1, c, da, db, d0, d2, rfl, h1, h2, h3, h4, h5, h6, h7, h8, h9⟩ := g.ex
  have f1 := fzAll_get hz h4
  simp only [Lay.fz, fzAll, Bool.and_true, Bool.and_eq_true] at f1
  exact ⟨T, x, p, dx, a, b1, c, da, db, d0, d2, rfl, t.tup _ _ h1, b _ _ (ne_of h2 hD (by intro z; cases z)) h2, h3, h4, h5, Dp.txt t _ _ (fzAll_get hz h3) h6, Dp.txt t _ _ f1.1 h7, Dp.txt t _ _ f1.2 h8, Dp.txt t _ _ (fzAll_get hz h5) h9⟩
def spRdDi (K : PySem.W.Frag) (CM CP : Addr) : Sp := fun vs H Q E => (∃ v d, vs = [v] ∧ Dp K H v d ∧ isStrD d = false ∧ FltT E CM "no text" H) ∨
  (∃ z : Str, ∃ r, vs = [.str z] ∧ z.length ≤ 300000 ∧ Dia (rowsT z) r ∧ (∀ n, r = .inl n → FltT E CM (rowMsg n) H) ∧
    ∀ ps, r = .inr ps → ∀ D es H', Same H H' → H' D = some (.lst es) → 3 * es.length = ps.length → (∀ k v, es[k]? = some v → GE K CP H' ps k v) → Q (.ref D) H')
theorem ok_read_diary {f : Addr} {fd : FuncData} (T : Fx w K mg CM CP) (RP : RpF K CP) (F : Fun K "read_diary" "read_diary" s_read_diary f fd) (c_read_part : FnM true P w K mg base 5 "read_part" (spPart K CM))
    (c_Reply___init__ : MkC P w K mg base 1 "Reply" CP (spRpI K CP)) : FnOk P w K mg base (CXm false P w) 6 f fd ["text"] (spRdDi K CM CP) := by
  refine okM F sc_read_diary (fun vs H Q E h => ?_) (fun cdv A outer s H vs Q E hr h => ?_)
  · rcases h with ⟨v, d, rfl, _⟩ | ⟨z, r, rfl, _⟩ <;> rfl
  · rcases h with ⟨v, d, rfl, hd, hs, qE⟩ | ⟨z, r, rfl, hz, hdia, qE, q⟩
    · refine ⟨_, (pss_cons (ps_if (pt_not (pt_val (pe_callB (call_isiA (K := K)) (by rfl) T.b_isinstance (by decide +kernel) (pa_cons (pv 0) (pa_cons (pe_bltn (v := .ty "str") (by rfl) T.b_str (by decide +kernel) rfl) pa_nil))))) (pss_one (ps_raiseM rfl (tk_of rfl rfl rfl rfl) (mk_txt PySem.F.excBase_ValueError T.x_Malformed T.g_Malformed T.k_Malformed (raises_own T.s_Malformed T.t_Malformed) pe_str (by rfl)))) pss_nil)
    (pss_cons (ps_set (i := 1) sc_read_diary.nd rfl (by first | exact Or.inl rfl | exact Or.inr rfl) (pe_split (pv 0) pe_str))
    (pss_cons (ps_set (i := 2) sc_read_diary.nd rfl (by first | exact Or.inl rfl | exact Or.inr rfl) (pe_lstG pa_nil))
    (pss_cons (ps_for (passes_of rfl) rfl (pi_range1 (by rfl) T.b_range (pa_cons (pe_op op_subA (pe_callB (call_lenA (K := K)) (by rfl) T.b_len (by decide +kernel) (pa_cons (pv 1) pa_nil)) pe_int) pa_nil)) (pg_name (i := 3) sc_read_diary.nd rfl (by first | exact Or.inl rfl | exact Or.inr rfl)) (pss_one (ps_tryOut rfl rfl ⟨rfl, by decide, .inl T.g_Malformed⟩ (L2H.passesAt_of rfl) (tk_of rfl rfl rfl rfl) (fun W pn xe tk pw_ => (pss_one (ps_expr (pe_bmA (K := K) PySem.F.plainAttrs_list PySem.F.slot_list_append PySem.F.type_list_append mt_append (pv 2) (pa_cons (pe_fcS c_read_part hr (by first | decide | omega) (fun σ => passMAt (c' := true) tk (.inl rfl) σ) (pa_cons (pe_ix (ix_A (K := K)) (pv 1) (pv 3) (fun _ _ => rfl)) (pa_cons (pe_op op_modA (pv 3) pe_int) pa_nil))) pa_nil))))) (fun a_ oe_ k_ t_ pn_ hz_ hd_ tk hot_ => (pss_one (ps_raiseMN hot_ tk (mk_txt PySem.F.excBase_ValueError T.x_Malformed T.g_Malformed T.k_Malformed (raises_own T.s_Malformed T.t_Malformed) (pe_op op_addA pe_str (pe_callTy call_strI (by rfl) T.b_str (by decide +kernel) (pa_cons (pe_op op_addA (pv 3) pe_int) pa_nil))) (by rfl))))))))
    (pss_cons (ps_if (PW.pt (pw_or (pt_cmpR (op_neA (K := K) hr.units) (pe_ix (ix_A (K := K)) (pv 1) (pe_un un_neg pe_int) (fun _ _ => rfl)) pe_str (nomark _)) (pw_or1 (pt_cmpR (op_neA (K := K) hr.units) (pe_op op_modA (pe_callB (call_lenA (K := K)) (by rfl) T.b_len (by decide +kernel) (pa_cons (pv 2) pa_nil)) pe_int) pe_int (nomark _))))) (pss_one (ps_raiseM rfl (tk_of rfl rfl rfl rfl) (mk_txt PySem.F.excBase_ValueError T.x_Malformed T.g_Malformed T.k_Malformed (raises_own T.s_Malformed T.t_Malformed) (pe_op op_addA pe_str (pe_callTy (call_strA rfl T.digits) (by rfl) T.b_str (by decide +kernel) (pa_cons (pe_op op_addA (pe_callB (call_lenA (K := K)) (by rfl) T.b_len (by decide +kernel) (pa_cons (pv 2) pa_nil)) pe_int) pa_nil))) (by rfl)))) pss_nil)
    (pss_one (ps_ret (pe_lc (own := [("t", 4)]) (g := gName 4) (tt := tYes) rfl sc_read_diary.nd (pi_range3 (by rfl) T.b_range (pa_cons pe_int (pa_cons (pe_callB (call_lenA (K := K)) (by rfl) T.b_len (by decide +kernel) (pa_cons (pv 2) pa_nil)) (pa_cons pe_int pa_nil)))) (blkOk_by (N := N_read_diary) (sc := defScope s_read_diary) (by decide +kernel)) (fun _ _ _ _ _ => pg_name (i := 4) sc_read_diary.nd rfl (Or.inl rfl)) (fun _ _ _ _ _ => pts_nil) (fun _ _ _ _ _ => (pe_tupG (pa_cons (pe_ix (ix_A (K := K)) (pv 2) (pv 4) (fun _ _ => rfl)) (pa_cons (pe_newG c_Reply___init__ hr (by first | decide | omega) (pa_cons (pe_ix (ix_A (K := K)) (pe_ix (ix_A (K := K)) (pv 2) (pe_op op_addA (pv 4) pe_int) (fun _ _ => rfl)) pe_int (fun _ _ => rfl)) (pa_cons (pe_ix (ix_A (K := K)) (pe_ix (ix_A (K := K)) (pv 2) (pe_op op_addA (pv 4) pe_int) (fun _ _ => rfl)) pe_int (fun _ _ => rfl)) (pa_cons (pe_ix (ix_A (K := K)) (pv 2) (pe_op op_addA (pv 4) pe_int) (fun _ _ => rfl)) pa_nil)))) pa_nil)))))))))))), ?_⟩
      try dsimp only [cxOf]
      refine w_start (show _ = [some _, none, none, none, none] from rfl) ?_
      walk_at "go"
      exact w_fltT qE (Same.refl H)
    · refine ⟨_, (pss_cons (ps_if (pt_not (pt_val (pe_callB (call_isiA (K := K)) (by rfl) T.b_isinstance (by decide +kernel) (pa_cons (pv 0) (pa_cons (pe_bltn (v := .ty "str") (by rfl) T.b_str (by decide +kernel) rfl) pa_nil))))) (pss_one (ps_raiseM rfl (tk_of rfl rfl rfl rfl) (mk_txt PySem.F.excBase_ValueError T.x_Malformed T.g_Malformed T.k_Malformed (raises_own T.s_Malformed T.t_Malformed) pe_str (by rfl)))) pss_nil)
    (pss_cons (ps_set (i := 1) sc_read_diary.nd rfl (by first | exact Or.inl rfl | exact Or.inr rfl) (pe_split (pv 0) pe_str))
    (pss_cons (ps_set (i := 2) sc_read_diary.nd rfl (by first | exact Or.inl rfl | exact Or.inr rfl) (pe_lstG pa_nil))
    (pss_cons (ps_for (passes_of rfl) rfl (pi_range1 (by rfl) T.b_range (pa_cons (pe_op op_subA (pe_callB (call_lenA (K := K)) (by rfl) T.b_len (by decide +kernel) (pa_cons (pv 1) pa_nil)) pe_int) pa_nil)) (pg_name (i := 3) sc_read_diary.nd rfl (by first | exact Or.inl rfl | exact Or.inr rfl)) (pss_one (ps_tryOut rfl rfl ⟨rfl, by decide, .inl T.g_Malformed⟩ (L2H.passesAt_of rfl) (tk_of rfl rfl rfl rfl) (fun W pn xe tk pw_ => (pss_one (ps_expr (pe_bmA (K := K) PySem.F.plainAttrs_list PySem.F.slot_list_append PySem.F.type_list_append mt_append (pv 2) (pa_cons (pe_fcS c_read_part hr (by first | decide | omega) (fun σ => passMAt (c' := true) tk (.inl rfl) σ) (pa_cons (pe_ix (ix_A (K := K)) (pv 1) (pv 3) (fun _ _ => rfl)) (pa_cons (pe_op op_modA (pv 3) pe_int) pa_nil))) pa_nil))))) (fun a_ oe_ k_ t_ pn_ hz_ hd_ tk hot_ => (pss_one (ps_raiseMN hot_ tk (mk_txt PySem.F.excBase_ValueError T.x_Malformed T.g_Malformed T.k_Malformed (raises_own T.s_Malformed T.t_Malformed) (pe_op op_addA pe_str (pe_callTy call_strI (by rfl) T.b_str (by decide +kernel) (pa_cons (pe_op op_addA (pv 3) pe_int) pa_nil))) (by rfl))))))))
    (pss_cons (ps_if (PW.pt (pw_or (pt_cmpR (op_neA (K := K) hr.units) (pe_ix (ix_A (K := K)) (pv 1) (pe_un un_neg pe_int) (fun _ _ => rfl)) pe_str (nomark _)) (pw_or1 (pt_cmpR (op_neA (K := K) hr.units) (pe_op op_modA (pe_callB (call_lenA (K := K)) (by rfl) T.b_len (by decide +kernel) (pa_cons (pv 2) pa_nil)) pe_int) pe_int (nomark _))))) (pss_one (ps_raiseM rfl (tk_of rfl rfl rfl rfl) (mk_txt PySem.F.excBase_ValueError T.x_Malformed T.g_Malformed T.k_Malformed (raises_own T.s_Malformed T.t_Malformed) (pe_op op_addA pe_str (pe_callTy (call_strA rfl T.digits) (by rfl) T.b_str (by decide +kernel) (pa_cons (pe_op op_addA (pe_callB (call_lenA (K := K)) (by rfl) T.b_len (by decide +kernel) (pa_cons (pv 2) pa_nil)) pe_int) pa_nil))) (by rfl)))) pss_nil)
    (pss_one (ps_ret (pe_lc (own := [("t", 4)]) (g := gName 4) (tt := tYes) rfl sc_read_diary.nd (pi_range3 (by rfl) T.b_range (pa_cons pe_int (pa_cons (pe_callB (call_lenA (K := K)) (by rfl) T.b_len (by decide +kernel) (pa_cons (pv 2) pa_nil)) (pa_cons pe_int pa_nil)))) (blkOk_by (N := N_read_diary) (sc := defScope s_read_diary) (by decide +kernel)) (fun _ _ _ _ _ => pg_name (i := 4) sc_read_diary.nd rfl (Or.inl rfl)) (fun _ _ _ _ _ => pts_nil) (fun _ _ _ _ _ => (pe_tupG (pa_cons (pe_ix (ix_A (K := K)) (pv 2) (pv 4) (fun _ _ => rfl)) (pa_cons (pe_newG c_Reply___init__ hr (by first | decide | omega) (pa_cons (pe_ix (ix_A (K := K)) (pe_ix (ix_A (K := K)) (pv 2) (pe_op op_addA (pv 4) pe_int) (fun _ _ => rfl)) pe_int (fun _ _ => rfl)) (pa_cons (pe_ix (ix_A (K := K)) (pe_ix (ix_A (K := K)) (pv 2) (pe_op op_addA (pv 4) pe_int) (fun _ _ => rfl)) pe_int (fun _ _ => rfl)) (pa_cons (pe_ix (ix_A (K := K)) (pv 2) (pe_op op_addA (pv 4) pe_int) (fun _ _ => rfl)) pa_nil)))) pa_nil)))))))))))), ?_⟩
      try dsimp only [cxOf]
      refine w_start (show _ = [some _, none, none, none, none] from rfl) ?_
      have hsz : isStrD (.str z) = true := rfl
      walk_at "go"
      refine ⟨_, _, rfl, rfl, rfl, Nat.le_trans (show z.length + 2 ≤ 300002 by omega) (by decide), fun pl n1 => ?_⟩
      have e1 := same_upd (o := .lst ((rowsS z).map V.str)) n1
      have h1 : upd H pl (.lst ((rowsS z).map V.str)) pl = some (.lst ((rowsS z).map V.str)) := upd_same
      show gName 1 _ _ (upd H pl (.lst ((rowsS z).map V.str))) _
      generalize upd H pl (.lst ((rowsS z).map V.str)) = H1 at e1 h1
      walk_at "go"
      intro pp H2 n2 e2 h2
      walk_at "go"
      have nrow : (rowsT z).length = (rowsS z).length := List.length_map ..
      have hpos := rows_pos z
      have hcnt := rows_cnt z
      have nH : H pp = none := none_same e1 n2
      refine r1_of (n := (rowsS z).length - 1) (by rw [List.length_map]; omega) (by omega) ?_
      refine lp_range (fun i σ' H' => ∃ ps vs, ps.length = i ∧ (∀ j d, ps[j]? = some d → pt (rowsT z) j = some d) ∧ (∃ o, σ' = [some (.str z), some (.ref pl), some (.ref pp), o, none]) ∧ Same H H' ∧ H' pl = some (.lst ((rowsS z).map V.str)) ∧ H' pp = some (.lst vs) ∧ DpAll K H' vs ps ∧ fzAll ps = true)
        ⟨[], [], rfl, fun j d h => by simp at h, ⟨_, rfl⟩, e1.trans e2, e2 _ _ h1, h2, .nil, rfl⟩ (fun i σ' H' hi p => ?_) (fun σ' H' p => ?_)
      · obtain ⟨ps, vs, hl, hp, ⟨o, rfl⟩, e, hpl, hpp, hdp, hfz⟩ := p
        have hi2 : i < (rowsS z).length := by omega
        have hrow : (rowsT z)[i]? = some ((rowsS z)[i].cps.toList) := by
          unfold rowsT
          rw [List.getElem?_map, List.getElem?_eq_getElem hi2]
          rfl
        have hlen : (rowsS z)[i].length ≤ z.length := by
          have := rows_len (List.mem_of_getElem? hrow)
          rwa [len_l] at this
        have hlv := Lay.DpAll.length hdp
        have hpt : pt (rowsT z) i = rdPart ((rowsS z)[i].cps.toList) (i % 3) := by
          unfold pt
          rw [hrow]
          rfl
        show tDrop _ _ _ _
        walk_at "go"
        refine w_ix (v := .str (rowsS z)[i]) (.inl (SqL.of hpl)) (atI_nat (j := i) (by rw [List.getElem?_map, List.getElem?_eq_getElem hi2]; rfl)) ?_
        walk_at "go"
        refine ⟨(rowsS z)[i], i % 3, by simp, Nat.mod_lt _ (by decide), by omega, fun d hd v' H3 e3 hdp3 hfz3 => ?_, fun hn H3 e3 => ?_⟩
        · walk_at "go"
          refine w_appG (e3 _ _ hpp) (by omega) fun H4 b4 t4 h4 => ?_
          have nlp : pl ≠ pp := fun y => by
            rw [← y, h1] at n2
            cases n2
          refine ⟨ps ++ [d], vs ++ [v'], by simp [hl], fun j d2 hd2 => ?_, ⟨_, rfl⟩, same_but (e.trans e3) b4 nH, b4 _ _ nlp (e3 _ _ hpl), h4, DpAll.append (DpAll.txt ((Txt.same e3).trans t4) _ _ hfz hdp) (.cons (Dp.txt t4 _ _ hfz3 hdp3) .nil), fzAll_app hfz (fzAll_one hfz3)⟩
          by_cases hj : j < ps.length
          · rw [List.getElem?_append_left hj] at hd2
            exact hp j d2 hd2
          · have hj2 : j = i := by
              have := (List.getElem?_eq_some_iff.mp hd2).1
              simp at this
              omega
            subst hj2
            rw [List.getElem?_append_right (by omega), hl, Nat.sub_self] at hd2
            cases hd2
            rw [hpt]
            exact hd
        · have hstop := hdia.stop (j := i) (by omega) (fun k hk => ⟨_, hp k _ (List.getElem?_eq_getElem (by omega : k < ps.length))⟩) (hpt.trans hn)
          refine ⟨T.e_Malformed, fun a na => ?_⟩
          walk_at "go"
          refine w_strI (by omega) ?_
          have ln : (Str.ofString (toString ((i : Int) + 1))).length ≤ 9 := by
            rw [← len_l]
            have := nats_len (i + 1) 9 (by decide) (by omega)
            rw [← digs_nat] at this
            exact this
          have l4 : (Str.ofString "row ").length = 4 := rfl
          walk_at "go"
          exact w_fltT ((qE (i + 1) hstop).go (e.trans e3)) (Same.refl _)
      · obtain ⟨ps, vs, hl, hp, ⟨o, rfl⟩, e, hpl, hpp, hdp, hfz⟩ := p
        have hlv := Lay.DpAll.length hdp
        have hne : rowsS z ≠ [] := fun y => by
          have h0 : (rowsT z).length = 0 := by
            rw [nrow, y]
            rfl
          omega
        have hrl := (List.dropLast_concat_getLast hne).symm
        generalize hLs : (rowsS z).getLast hne = last at hrl
        have hla : (rowsS z).map V.str = ((rowsS z).dropLast.map V.str) ++ [V.str last] := by
          rw [hrl]
          simp
        have hlt : (rowsT z).getLast? = some last.cps.toList := by
          unfold rowsT
          rw [hrl]
          simp
        have lastE : (rowsT z).getLast? = some [] ↔ last = Str.ofString "" := by
          rw [hlt]
          constructor
          · intro y
            exact str_ext (Option.some.inj y)
          · intro y
            rw [y]
            rfl
        have fin : r = .inl (rowsT z).length → rStrA [V.int (((vs.length : Nat) : Int) + 1)] H' (fun y H2 => rAddA (V.str (Str.ofString "row ")) y H2 fun v H1 => ∃ m, v = V.str m ∧ ∀ (p : Addr) (H2 : Hp), H1 p = none → Same H1 H2 → H2 p = some (HO.tup [V.str m]) → E (Value.ref CM) (some p) H2) := fun hr0 => by
          have ln : (Str.ofString (toString (((rowsT z).length : Nat) : Int))).length ≤ 9 := by
            rw [← len_l]
            have := nats_len (rowsT z).length 9 (by decide) (by omega)
            rw [← digs_nat] at this
            exact this
          have l4 : (Str.ofString "row ").length = 4 := rfl
          rw [show (((vs.length : Nat) : Int) + 1) = (((rowsT z).length : Nat) : Int) by omega]
          refine w_str_int (Nat.lt_of_lt_of_le (show _ < 10 ^ 9 by omega) (Nat.pow_le_pow_right (by decide) (by decide))) ?_
          refine w_add_str (by omega) ?_
          exact w_fltT ((qE _ hr0).go e) (Same.refl _)
        walk_at "go"
        refine w_ix (v := .str last) (.inl (SqL.of hpl)) (by rw [hla]; exact atI_last _ _) ?_
        walk_at "go"
        rcases hdia.fine hpos ps (by omega) hp with ⟨hbad, hr0⟩ | ⟨⟨hg1, hg2⟩, hr0⟩
        · by_cases hlast : last = Str.ofString ""
          · have hmod : ¬ ((rowsT z).length - 1) % 3 = 0 := fun y => hbad ⟨lastE.mpr hlast, y⟩
            walk_at "go"
            exact fin hr0
          · walk_at "go"
            exact fin hr0
        · have hlast := lastE.mp hg1
          walk_at "go"
          obtain ⟨m, hm⟩ : ∃ m, ps.length = 3 * m := ⟨ps.length / 3, by omega⟩
          refine w_lcI (w_iR3 ?_)
          walk_at "go"
          refine ⟨0, ((3 * m : Nat) : Int), 3, m, by rw [show vs.length = 3 * m by omega], rgc3 m (by omega), ?_⟩
          refine lcRC (fun v => rfl) fun D nD => ⟨fun i acc Hx => i ≤ m ∧ acc.length = i ∧ (∀ k v, acc[k]? = some v → GE K CP Hx ps k v) ∧ Same H' Hx, fun H2 e2 h2 => ⟨Nat.zero_le _, rfl, fun k v hk => by simp at hk, e2⟩, fun _ _ _ _ => trivial, fun i y acc Hx R hy p hD hR => ?_, fun acc Hx p hD => ?_⟩
          · obtain ⟨hi, rfl⟩ := hy
            obtain ⟨p1, p2, p3, p4⟩ := p
            have i0 : 3 * i < ps.length := by omega
            have i1 : 3 * i + 1 < ps.length := by omega
            have i2 : 3 * i + 2 < ps.length := by omega
            have g0 : ps[3 * i]? = some ps[3 * i] := List.getElem?_eq_getElem i0
            have g1 : ps[3 * i + 1]? = some ps[3 * i + 1] := List.getElem?_eq_getElem i1
            have g2 : ps[3 * i + 2]? = some ps[3 * i + 2] := List.getElem?_eq_getElem i2
            have hdx := DpAll.txt (Txt.same p4) _ _ hfz hdp
            obtain ⟨v0, k0, d0⟩ := Lay.DpAll.getD hdx g0
            obtain ⟨v1, k1, d1⟩ := Lay.DpAll.getD hdx g1
            obtain ⟨v2, k2, d2⟩ := Lay.DpAll.getD hdx g2
            have hppx := p4 _ _ hpp
            obtain ⟨sa, sb, hsab⟩ := pt1 (hp _ _ g1) (by omega)
            rw [hsab] at d1
            cases d1 with
            | @tup T1 xs1 _ hT1 hA1 =>
              cases hA1 with
              | @cons x1 _ r1 _ hx1 hA1 =>
                cases hA1 with
                | @cons x2 _ r2 _ hx2 hA1 =>
                  cases hA1
                  show tTupG _ [some (V.str z), some (V.ref pl), some (V.ref pp), o, some (V.int (0 + (i : Nat) * 3))] Hx R
                  have ei : (0 : Int) + (i : Nat) * 3 = ((3 * i : Nat) : Int) := by omega
                  rw [ei]
                  walk_at "go"
                  refine w_ix (v := v0) (.inl (SqL.of hppx)) (atI_nat (j := 3 * i) k0) ?_
                  walk_at "go"
                  refine w_ix (v := .ref T1) (.inl (SqL.of hppx)) (atI_nat (j := 3 * i + 1) k1) ?_
                  walk_at "go"
                  refine w_ix (v := x1) (.inr hT1) (atI_nat (j := 0) rfl) ?_
                  walk_at "go"
                  refine w_ix (v := .ref T1) (.inl (SqL.of hppx)) (atI_nat (j := 3 * i + 1) k1) ?_
                  walk_at "go"
                  refine w_ix (v := x2) (.inr hT1) (atI_nat (j := 1) rfl) ?_
                  walk_at "go"
                  refine w_ix (v := v2) (.inl (SqL.of hppx)) (atI_nat (j := 3 * i + 2) k2) ?_
                  walk_at "go"
                  intro q5 dx5 H5 n5 h5 e5
                  refine ⟨q5, dx5, x1, x2, v2, rfl, h5, fun H6 b6 t6 h6 => ⟨rfl, ?_⟩⟩
                  have e6 : Same Hx H6 := same_but e5 b6 n5
                  walk_at "go"
                  intro T7 H7 n7 e7 h7
                  have e67 := e6.trans e7
                  refine hR _ H7 (e67 _ _ hD) (by omega) fun H8 b8 t8 h8 => ⟨by omega, by simp [p2], fun k v hk => ?_, same_but (p4.trans e67) b8 nD⟩
                  have hD7 := e67 _ _ hD
                  by_cases hk2 : k < acc.length
                  · rw [List.getElem?_append_left hk2] at hk
                    exact ((p3 k v hk).same e67).but b8 t8 hD7 hfz
                  · have hk3 : k = i := by
                      have := (List.getElem?_eq_some_iff.mp hk).1
                      simp at this
                      omega
                    subst hk3
                    rw [List.getElem?_append_right (by omega), p2, Nat.sub_self] at hk
                    cases hk
                    refine GE.but b8 t8 hD7 hfz ⟨⟨T7, v0, q5, dx5, x1, x2, v2, _, _, _, _, rfl, h7, e7 _ _ h6, g0, g1.trans (congrArg some hsab), g2, Dp.same e67 _ _ d0, Dp.same e67 _ _ hx1, Dp.same e67 _ _ hx2, Dp.same e67 _ _ d2⟩⟩
          · obtain ⟨p1, p2, p3, p4⟩ := p
            exact q ps hr0 D acc Hx (e.trans p4) hD (by omega) p3
end
end K66

set_option exponentiation.threshold 256
set_option Elab.async false
set_option linter.all false
set_option maxRecDepth 100000
set_option maxHeartbeats 4000000
set_option exponentiation.threshold 10
namespace K66
open PySem PySem.Spec PyProof.Rows L2 Lay DataM PySem.NumText
local macro_rules | `(tactic| walk_at "1") => `(tactic| first
  | with_reducible refine w_seq ?_
  | ((with_reducible refine w_var (v := ?vv) ?hv ?_); (case hv => rfl))
  | with_reducible refine w_c ?_
  | with_reducible refine w_m1 ?_
  | with_reducible refine w_isstr ?_
  | with_reducible refine w_bm0 ?_
  | with_reducible refine w_bm ?_
  | with_reducible refine w_gcons ?_
  | with_reducible refine w_gnil ?_
  | ((with_reducible refine w_ty (xs := ?vv) ?hv ?_); (case hv => walk_at "hx"))
  | ((with_reducible refine w_gtup (xs := ?vv) ?hv ?hl ?_); (case hv => walk_at "hx"); (case hl => rfl))
  | with_reducible refine w_for1 ?_
  | with_reducible refine w_for2 ?_
  | with_reducible refine w_for3 ?_
  | with_reducible refine w_forA ?_
  | with_reducible refine w_forE ?_
  | ((with_reducible refine w_aug (x := ?vv) ?hv ?_); (case hv => rfl))
  | with_reducible refine w_op ?_
  | with_reducible refine w_cb ?_
  | with_reducible refine w_acons ?_
  | with_reducible refine w_anil ?_
  | with_reducible refine w_set ?_
  | with_reducible refine w_if ?_
  | with_reducible refine w_test ?_
  | with_reducible refine w_tB ?_
  | with_reducible refine w_bl ?_
  | with_reducible refine w_and ?_
  | with_reducible refine w_or ?_
  | with_reducible refine w_not ?_
  | with_reducible refine w_iteT ?_
  | with_reducible refine w_iteF ?_
  | with_reducible refine w_ret ?_
  | with_reducible refine w_next ?_
  | with_reducible refine w_drop ?_
  | with_reducible refine w_call ?_
  | with_reducible refine w_ifx ?_
  | with_reducible refine w_andV ?_
  | with_reducible refine w_orV ?_
  | with_reducible refine w_notV ?_
  | with_reducible refine w_sl ?_
  | with_reducible refine w_nopart ?_
  | with_reducible refine w_part ?_
  | with_reducible refine w_exint ?_
  | with_reducible refine w_chain ?_
  | with_reducible refine w_par ?_
  | with_reducible refine w_two ?_
  | with_reducible refine w_par3 ?_
  | with_reducible refine w_three ?_
  | with_reducible refine w_asg ?_
  | with_reducible refine w_gset ?_
  | with_reducible refine w_retN ?_
  | with_reducible refine w_brk ?_
  | with_reducible refine w_cont ?_
  | with_reducible refine w_un ?_
  | with_reducible refine w_neg ?_
  | with_reducible refine w_callS ?_
  | with_reducible refine w_tup0 ?_
  | with_reducible refine w_lst0 ?_
  | with_reducible refine w_fld0 ?_
  | with_reducible refine w_sfld ?_
  | with_reducible refine w_gsub ?_
  | with_reducible refine w_iAny ?_
  | with_reducible refine w_iR1 ?_
  | with_reducible refine w_make ?_
  | with_reducible refine w_meth ?_
  | with_reducible refine w_mk1 ?_
  | with_reducible refine w_LZ ?_)
local macro_rules | `(tactic| walk_at "2") => `(tactic| first
  | with_reducible refine w_add_int ?_
  | with_reducible refine w_sub ?_
  | ((with_reducible refine w_add_str ?hl ?_); (case hl => walk_at "len"))
  | ((with_reducible refine w_mod ?hl ?_); (case hl => first | decide | omega))
  | ((with_reducible refine w_fdiv ?h1 ?h2 ?_); (case h1 => first | decide | omega); (case h2 => first | decide | omega))
  | ((with_reducible refine w_mulR ?h1 ?h2 ?_); (case h1 => first | decide | omega); (case h2 => first | decide | omega))
  | ((with_reducible refine w_mulL ?h1 ?h2 ?_); (case h1 => first | decide | omega); (case h2 => first | decide | omega))
  | with_reducible refine w_iadd_int ?_
  | ((with_reducible refine w_iadd_str ?hl ?_); (case hl => walk_at "len"))
  | ((with_reducible refine w_mk ?hl ?_); (case hl => walk_at "len"))
  | with_reducible refine w_lt_int ?_
  | with_reducible refine w_lt_str ?_
  | with_reducible refine w_le_int ?_
  | with_reducible refine w_le_str ?_
  | with_reducible refine w_gt ?_
  | with_reducible refine w_ge ?_
  | with_reducible refine w_eq_int ?_
  | with_reducible refine w_eq_str ?_
  | with_reducible refine w_ne_int ?_
  | with_reducible refine w_ne_str ?_
  | ((with_reducible refine w_isInt (d := ?vd) ?hd ?_); (case hd => walk_at "dp"))
  | ((with_reducible refine w_isBool (d := ?vd) ?hd ?_); (case hd => walk_at "dp"))
  | ((with_reducible refine w_isStr (d := ?vd) ?hd ?_); (case hd => walk_at "dp"))
  | ((with_reducible refine w_isTup (d := ?vd) ?hd ?_); (case hd => walk_at "dp"))
  | ((with_reducible refine w_isLst (d := ?vd) ?hd ?_); (case hd => walk_at "dp"))
  | refine w_in_str ?_
  | refine w_nin_str ?_
  | ((with_reducible refine w_ixL (xs := ?vv) (y := ?vr) ?h ?ha ?_); (case h => walk_at "hx"); (case ha => rfl))
  | with_reducible refine w_is ?_
  | with_reducible refine w_isnot ?_
  | ((with_reducible refine w_len_str ?hl ?_); (case hl => walk_at "len"))
  | ((with_reducible refine w_len (xs := ?vv) ?hl ?_); (case hl => walk_at "hx"))
  | with_reducible refine w_int_int ?_
  | with_reducible refine w_str_str ?_
  | with_reducible refine w_abs ?_
  | ((with_reducible refine w_sl_str ?hl ?_); (case hl => walk_at "len"))
  | ((with_reducible refine w_fldAt (C := ?vC) (dx := ?vdx) (fs := ?vfs) (v := ?vv) ?h1 ?h2 ?h3 ?h4 ?_); (case h1 => walk_at "hx"); (case h2 => assumption); (case h3 => assumption); (case h4 => rfl))
  | ((with_reducible refine w_methAt (dx := ?vdx) (fs := ?vfs) ?h1 ?h2 ?_); (case h1 => walk_at "hx"); (case h2 => rfl))
  | ((with_reducible refine w_iteP ?h1 ?_); (case h1 => walk_at "yes"))
  | ((with_reducible refine w_iteN ?h1 ?_); (case h1 => walk_at "no")))
local macro_rules | `(tactic| walk_at "yes") => `(tactic| first | assumption | ((with_reducible refine bnotT ?_); walk_at "no") | (refine decide_eq_true ?_; first | assumption | omega) | exact rfl)
local macro_rules | `(tactic| walk_at "no") => `(tactic| first | assumption | ((with_reducible refine bnotF ?_); walk_at "yes") | (refine decide_eq_false ?_; first | assumption | omega) | exact rfl)
local macro_rules | `(tactic| walk_at "len") => `(tactic| first | assumption | exact Nat.le_of_ble_eq_true rfl | omega | decide | (simp only [List.length_append, List.length_cons, List.length_nil, List.length_map]; omega) | (simp only [app_len]; omega))
local macro_rules | `(tactic| walk_at "ne") => `(tactic| first | assumption | (refine Ne.symm ?_; assumption))
local macro_rules | `(tactic| walk_at "hx") => `(tactic| first
  | assumption
  | exact upd_same
  | ((with_reducible refine sqa_l ?_); walk_at "hx")
  | ((with_reducible refine sqa_t ?_); walk_at "hx")
  | ((with_reducible refine SqL.of ?_); walk_at "hx")
  | ((with_reducible refine SqT.of ?_); walk_at "hx")
  | ((with_reducible refine at_same (by assumption) ?_); walk_at "hx")
  | ((with_reducible refine at_but (by assumption) ?hne ?_); (case hne => walk_at "ne"); walk_at "hx")
  | ((with_reducible refine Txt.tup (by assumption) _ _ ?_); walk_at "hx")
  | ((with_reducible refine Same.seq (by assumption) ?_); walk_at "hx")
  | ((with_reducible refine Same.seqT (by assumption) ?_); walk_at "hx")
  | ((with_reducible refine Dp.same (by assumption) _ _ ?_); walk_at "hx")
  | ((with_reducible refine DpAll.same (by assumption) _ _ ?_); walk_at "hx"))
local macro_rules | `(tactic| walk_at "go") => `(tactic| repeat (first | walk_at "1" | walk_at "2"))
local macro_rules | `(tactic| walk_at "dp") => `(tactic| first | exact .int _ | exact .str _ | exact .bl _ | exact .non | walk_at "hx")

mutual
theorem wr_wrd : ∀ (d : PyData) (l : Tx) (n : Nat), DataM.wr d = some l → okI d → dep d + n ≤ 1001 → wrd d n = some l
  | .tuple ds, l, n, h, ho, hn => by
    simp only [DataM.wr] at h
    simp only [okI] at ho
    simp only [dep] at hn
    cases hx : wrj ds with
    | none =>
      rw [hx] at h
      cases h
    | some x =>
      rw [hx] at h
      cases h
      simp only [wrd]
      rw [if_pos (by omega), wrj_wrdj ds x (n + 1) hx ho (by omega)]
      rfl
  | .str s, l, n, h, _, _ => by
    simp only [DataM.wr] at h
    rw [wrd_atom rfl]
    unfold atomP
    split at h
    · rename_i hw
      cases h
      show Option.map _ (if isWordT s.cps.toList = true then _ else _) = _
      rw [if_pos hw]
      rfl
    · rename_i hw
      split at h
      · rename_i he
        cases h
        have : s = "" := str_ext he
        show Option.map _ (if isWordT s.cps.toList = true then _ else if s = Str.ofString "" then some (Str.ofString ".") else none) = _
        rw [if_neg hw, if_pos this]
        rfl
      · cases h
  | .bool b, l, n, h, _, _ => by
    simp only [DataM.wr] at h
    cases h
    cases b <;> rfl
  | .int i, l, n, h, ho, _ => by
    simp only [DataM.wr] at h
    simp only [okI] at ho
    cases h
    rw [wrd_atom rfl]
    unfold atomP
    show Option.map _ (if i.natAbs < 10 ^ 4000 then _ else none) = _
    rw [if_pos ho]
    rfl
  | .none, _, _, h, _, _ | .list _, _, _, h, _, _ | .dict _, _, _, h, _, _ => by cases h
theorem wrj_wrdj : ∀ (ds : List PyData) (l : Tx) (n : Nat), wrj ds = some l → okIs ds → depAll ds + n ≤ 1001 → wrdj ds n = some l
  | [], l, n, h, _, _ => by
    simp only [wrj] at h
    simp only [wrdj]
    exact h
  | d :: ds, l, n, h, ho, hn => by
    simp only [wrj] at h
    simp only [okIs] at ho
    simp only [depAll] at hn
    cases ha : DataM.wr d with
    | none =>
      rw [ha] at h
      cases h
    | some a =>
      cases hb : wrj ds with
      | none =>
        rw [ha, hb] at h
        cases h
      | some b =>
        rw [ha, hb] at h
        simp only [wrdj]
        rw [wr_wrd d a n ha ho.1 (by omega), wrj_wrdj ds b n hb ho.2 (by omega)]
        exact h
end
mutual
theorem wr_fit : ∀ (d : PyData) (l : Tx), DataM.wr d = some l → fitS d ∧ siz d ≤ 2 * l.length ∧ ∀ c ∈ l, c < 1114112
  | .tuple ds, l, h => by
    simp only [DataM.wr] at h
    cases hx : wrj ds with
    | none =>
      rw [hx] at h
      cases h
    | some x =>
      rw [hx] at h
      cases h
      have ih := wrj_fit ds x hx
      refine ⟨by simp only [fitS]; exact ih.1, ?_, fun c hc => ?_⟩
      · simp only [siz]
        have := ih.2.1
        show sizs ds + 2 ≤ 2 * (91 :: (x ++ [93])).length
        simp only [List.length_cons, List.length_append, List.length_nil]
        omega
      · change c ∈ 91 :: (x ++ [93]) at hc
        rcases List.mem_cons.mp hc with rfl | hc
        · decide
        · rcases List.mem_append.mp hc with hc | hc
          · exact ih.2.2 c hc
          · rw [List.mem_singleton.mp hc]
            decide
  | .str s, l, h => by
    have hp := wr_okP (.str s) l h
    simp only [okP] at hp
    simp only [DataM.wr] at h
    have hl := len_l s
    split at h
    · rename_i hw
      cases h
      have hw2 := hw
      unfold isWordT at hw2
      simp only [Bool.and_eq_true, decide_eq_true_eq] at hw2
      refine ⟨by show s.length ≤ 1000000; omega, by simp only [siz]; omega, hp⟩
    · split at h
      · rename_i he
        cases h
        rw [he] at hl
        refine ⟨by show s.length ≤ 1000000; simp at hl; omega, by simp [siz], by decide⟩
      · cases h
  | .bool b, l, h => by
    simp only [DataM.wr] at h
    cases h
    cases b <;> exact ⟨trivial, by decide, by decide⟩
  | .int i, l, h => by
    simp only [DataM.wr] at h
    cases h
    have hne := (digs_sep i).1
    have : 1 ≤ (digs i).length := by
      cases hd : digs i with
      | nil => exact absurd hd hne
      | cons a b => simp
    refine ⟨trivial, by simp only [siz]; omega, fun c hc => ?_⟩
    cases i with
    | ofNat m =>
      rw [show (Int.ofNat m) = (m : Int) from rfl, digs_nat] at hc
      have := nats_all m c hc
      omega
    | negSucc m =>
      rw [digs_neg] at hc
      rcases List.mem_cons.mp hc with rfl | hc
      · decide
      · have := nats_all (m + 1) c hc
        omega
  | .none, _, h | .list _, _, h | .dict _, _, h => by cases h
theorem wrj_fit : ∀ (ds : List PyData) (l : Tx), wrj ds = some l → fitSs ds ∧ sizs ds ≤ 2 * l.length + 1 ∧ ∀ c ∈ l, c < 1114112
  | [], l, h => by
    simp only [wrj] at h
    cases h
    exact ⟨by simp only [fitSs], by simp [sizs], fun c hc => by cases hc⟩
  | d :: ds, l, h => by
    simp only [wrj] at h
    cases ha : DataM.wr d with
    | none =>
      rw [ha] at h
      cases h
    | some a =>
      cases hb : wrj ds with
      | none =>
        rw [ha, hb] at h
        cases h
      | some b =>
        rw [ha, hb] at h
        have i1 := wr_fit d a ha
        have i2 := wrj_fit ds b hb
        cases ds with
        | nil =>
          simp at h
          subst h
          refine ⟨by simp only [fitSs]; exact ⟨i1.1, trivial⟩, by simp only [sizs]; omega, i1.2.2⟩
        | cons d2 ds =>
          simp at h
          subst h
          refine ⟨by simp only [fitSs] at i2 ⊢; exact ⟨i1.1, i2.1⟩, ?_, fun c hc => ?_⟩
          · have h1 := i1.2.1
            have h2 := i2.2.1
            simp only [sizs, List.length_append, List.length_cons] at *
            omega
          · rcases List.mem_append.mp hc with hc | hc
            · exact i1.2.2 c hc
            · rcases List.mem_cons.mp hc with rfl | hc
              · decide
              · exact i2.2.2 c hc
end

section
variable {P : Program} {w : World} {K : PySem.W.Frag} {mg : Str → Option Value} {base : Heap} {CM CR CP CK : Addr}
def lenB : Nat → Nat
  | 0 => 42
  | n + 1 => 3 * lenB n + 6
structure Fine (n B : Nat) (d : PyData) (l : Tx) : Prop where
  wr : DataM.wr d = some l
  ok : okI d
  dep : dep d ≤ n
  len : l.length ≤ B
theorem Fine.mono {n m B C : Nat} {d : PyData} {l : Tx} (h : Fine n B d l) (h1 : n ≤ m) (h2 : B ≤ C) : Fine m C d l := ⟨h.wr, h.ok, Nat.le_trans h.dep h1, Nat.le_trans h.len h2⟩
theorem fine_str {n : Nat} {s : Str} (h : isWordT s.cps.toList = true) : Fine n 42 (.str s) s.cps.toList := by
  have hw := h
  unfold isWordT at h
  simp only [Bool.and_eq_true, decide_eq_true_eq, List.all_eq_true, Bool.or_eq_true] at h
  exact ⟨by simp only [DataM.wr, if_pos hw], by simp only [okI], by simp only [DataM.dep]; omega, by omega⟩
theorem fine_int {n : Nat} {i : Int} (h : i.natAbs < 10 ^ 41) : Fine n 42 (.int i) (digs i) := by
  have hl : (digs i).length ≤ 42 := by
    cases i with
    | ofNat m =>
      rw [show (Int.ofNat m) = (m : Int) from rfl, digs_nat]
      have := nats_len m 41 (by decide) h
      omega
    | negSucc m =>
      rw [digs_neg, List.length_cons]
      have := nats_len (m + 1) 41 (by decide) h
      omega
  refine ⟨by simp only [DataM.wr], ?_, by simp only [DataM.dep]; omega, hl⟩
  simp only [okI]
  exact Nat.lt_of_lt_of_le h (Nat.pow_le_pow_right (by decide) (by decide))
theorem fines {n B : Nat} : ∀ ds : List PyData, (∀ d ∈ ds, ∃ l, Fine n B d l) → ∃ x, wrj ds = some x ∧ okIs ds ∧ depAll ds ≤ n ∧ x.length ≤ ds.length * (B + 1)
  | [], _ => ⟨[], rfl, by simp only [okIs], by simp only [depAll]; omega, by simp⟩
  | d :: ds, h => by
    obtain ⟨a, h1⟩ := h d List.mem_cons_self
    obtain ⟨x, h2, h3, h4, h5⟩ := fines ds fun e he => h e (List.mem_cons_of_mem _ he)
    refine ⟨if ds.isEmpty then a else a ++ 44 :: x, ?_, by simp only [okIs]; exact ⟨h1.ok, h3⟩, ?_, ?_⟩
    · simp only [wrj, h1.wr, h2]
      rfl
    · have := h1.dep
      simp only [depAll]
      omega
    · have := h1.len
      rw [List.length_cons, Nat.succ_mul]
      split
      · omega
      · rw [List.length_append, List.length_cons]
        omega
theorem fine_tup {n B : Nat} {ds : List PyData} (h : ∀ d ∈ ds, ∃ l, Fine n B d l) (hl : ds.length ≤ 3) : ∃ l, Fine (n + 1) (3 * B + 6) (.tuple ds) l := by
  obtain ⟨x, h2, h3, h4, h5⟩ := fines ds h
  have hm : ds.length * (B + 1) ≤ 3 * (B + 1) := Nat.mul_le_mul_right _ hl
  refine ⟨91 :: (x ++ [93]), by simp only [DataM.wr, h2]; rfl, by simp only [okI]; exact h3, by simp only [DataM.dep]; omega, ?_⟩
  simp only [List.length_cons, List.length_append, List.length_nil]
  omega
def costB : Nat → Nat
  | 0 => 2
  | n + 1 => 3 * costB n + 3
def spData (K : PySem.W.Frag) (n : Nat) : Sp := fun vs H Q _ => ∃ pd pc c, vs = [.ref pd, .int (n : Nat)] ∧ Dr H pd pc c ∧ c + costB n ≤ 900000 ∧
  ∀ v d l H', Fine n (lenB n) d l → Dp K H' v d → Lay.fz d = true → But pd H H' → Txt H H' → Dr H' pd pc (c + costB n) → Q v H'
theorem cost3 : ∀ n, 2 ≤ costB n
  | 0 => Nat.le_refl _
  | n + 1 => by
    have := cost3 n
    simp only [costB]
    omega
theorem len42 : ∀ n, 42 ≤ lenB n
  | 0 => Nat.le_refl _
  | n + 1 => by
    have := len42 n
    simp only [lenB]
    omega
theorem ok_law_data_step {f : Addr} {fd : FuncData} {n : Nat} {sp : Sp} (T : Fx w K mg CM CP) (F : Fun K "_law_data" "_law_data" s__law_data f fd) (c__law_take : Fn0 P w K mg base 1 "_law_take" (spTakeN K))
    (c__law_data : Fn0 P w K mg base (n + 1) "_law_data" sp) (hsp : ∀ m, n = m + 1 → sp = spData K m) : FnOk P w K mg base CX0 (n + 2) f fd ["draw", "deep"] (spData K n) := by
  refine F.ok sc__law_data (fun vs H Q E h => ?_) (fun cdv A outer s H vs Q E hr h => ?_)
  · obtain ⟨pd, pc, c, rfl, _⟩ := h
    rfl
  · obtain ⟨pd, pc, c, rfl, hD, hc, q⟩ := h
    refine ⟨_, (pss_cons (ps_if (PW.pt (pw_and (pt_cmpR op_gtA (pv 1) pe_int (nomark _)) (pw_and1 (pt_cmpR (op_eqA (K := K) hr.units) (pe_f0 c__law_take hr (by first | decide | omega) (pa_cons (pv 0) (pa_cons pe_int pa_nil))) pe_int (nomark _))))) (pss_one (ps_ret (pe_callTy (call_tupA (K := K)) (by rfl) T.b_tuple (by decide +kernel) (pa_cons (pe_lc (own := [("turn", 2)]) (g := gName 2) (tt := tYes) rfl sc__law_data.nd (pi_range1 (by rfl) T.b_range (pa_cons (pe_f0 c__law_take hr (by first | decide | omega) (pa_cons (pv 0) (pa_cons pe_int pa_nil))) pa_nil)) (blkOk_by (N := N__law_data) (sc := defScope s__law_data) (by decide +kernel)) (fun _ _ _ _ _ => pg_name (i := 2) sc__law_data.nd rfl (Or.inl rfl)) (fun _ _ _ _ _ => pts_nil) (fun _ _ _ _ _ => (pe_f0 c__law_data hr (by first | decide | omega) (pa_cons (pv 0) (pa_cons (pe_op op_subA (pv 1) pe_int) pa_nil))))) pa_nil)))) pss_nil)
    (pss_one (ps_ret (pe_ix (ix_A (K := K)) (pe_lstG (pa_cons pe_str (pa_cons pe_str (pa_cons pe_int (pa_cons (pe_un un_neg pe_int) (pa_cons pe_int pa_nil)))))) (pe_f0 c__law_take hr (by first | decide | omega) (pa_cons (pv 0) (pa_cons pe_int pa_nil))) (fun _ _ => rfl))))), ?_⟩
    try dsimp only [cxOf]
    refine w_start (show _ = [some _, some _, none] from rfl) ?_
    have hc3 := cost3 n
    have hl42 := len42 n
    have atom : ∀ v d l c' H', Fine n 42 d l → Dp K H' v d → But pd H H' → Txt H H' → Dr H' pd pc c' → c' ≤ c + 2 → Q v H' := fun v d l c' H' h1 h2 h3 h4 h5 h6 =>
      q v d l H' (h1.mono (Nat.le_refl _) hl42) h2 (okP_fz d (wr_okP d l h1.wr)) h3 h4 (h5.mono (by omega))
    have tail : ∀ H1 c1, But pd H H1 → Txt H H1 → Dr H1 pd pc c1 → c1 ≤ c + 1 → NewG H1 (HO.lst [V.str (Str.ofString "a"), V.str (Str.ofString "x9"), V.int 0, V.int (-5), V.int 1000]) fun x H1 =>
    tCall (spTakeN K) [] E0 (tCons (tVar 0) (tCons (tC (V.int 5)) tNil)) [some (V.ref pd), some (V.int (n : Nat)), none] H1 fun y H2 => rIxA K x y H2 Q := by
      intro H1 c1 b1 t1 D1 hc1
      intro L H2 n2 e2 h2
      walk_at "go"
      refine ⟨pd, pc, c1, 5, rfl, by decide, by decide, D1.same e2, by omega, fun i H3 hi b3 t3 D3 => ?_⟩
      have hLp := (D1.new n2).1
      have h3 := b3 _ _ (Ne.symm hLp) h2
      have bb := b1.trans ((But.same e2).trans b3)
      have tt := t1.trans ((Txt.same e2).trans t3)
      have hi9 : i = 0 ∨ i = 1 ∨ i = 2 ∨ i = 3 ∨ i = 4 := by omega
      rcases hi9 with rfl | rfl | rfl | rfl | rfl
      · exact w_ix (.inl (SqL.of h3)) (atI_nat (j := 0) rfl) (atom _ _ _ _ H3 (fine_str (by decide)) (.str _) bb tt D3 (by omega))
      · exact w_ix (.inl (SqL.of h3)) (atI_nat (j := 1) rfl) (atom _ _ _ _ H3 (fine_str (by decide)) (.str _) bb tt D3 (by omega))
      · exact w_ix (.inl (SqL.of h3)) (atI_nat (j := 2) rfl) (atom _ _ _ _ H3 (fine_int (by decide +kernel)) (.int _) bb tt D3 (by omega))
      · exact w_ix (.inl (SqL.of h3)) (atI_nat (j := 3) rfl) (atom _ _ _ _ H3 (fine_int (by decide +kernel)) (.int _) bb tt D3 (by omega))
      · exact w_ix (.inl (SqL.of h3)) (atI_nat (j := 4) rfl) (atom _ _ _ _ H3 (fine_int (by decide +kernel)) (.int _) bb tt D3 (by omega))
    walk_at "go"
    refine w_ite (fun h1 => ?_) (fun h1 => ?_)
    · have h1' : 0 < n := by
        have := of_decide_eq_true h1
        omega
      obtain ⟨m, rfl⟩ : ∃ m, n = m + 1 := ⟨n - 1, by omega⟩
      cases hsp m rfl
      walk_at "go"
      refine ⟨pd, pc, c, 2, rfl, by decide, by decide, hD, by omega, fun k H1 hk b1 t1 D1 => ?_⟩
      walk_at "go"
      refine w_ite (fun h2 => ?_) (fun h2 => ?_)
      · walk_at "go"
        refine w_lcI ?_
        walk_at "go"
        refine ⟨pd, pc, c + 1, 3, rfl, by decide, by decide, D1, by omega, fun j H2 hj b2 t2 D2 => ?_⟩
        walk_at "go"
        refine lr1_of (n := j) rfl (by omega) ?_
        have hcs : costB (m + 1) = 3 * costB m + 3 := rfl
        refine lcR (fun v => rfl) (fun L nL => ⟨fun i acc H' => i ≤ j ∧ acc.length = i ∧ But pd H2 H' ∧ Txt H2 H' ∧ Dr H' pd pc (c + 2 + i * costB m) ∧ ∃ ds, DpAll K H' acc ds ∧ fzAll ds = true ∧ ds.length = i ∧ ∀ d ∈ ds, ∃ l, Fine m (lenB m) d l,
          fun H3 e3 h3 => ⟨Nat.zero_le _, rfl, But.same e3, Txt.same e3, (D2.same e3).mono (by omega), [], .nil, rfl, rfl, fun d hd => by cases hd⟩, fun _ _ _ _ => trivial, fun i y acc H3 R hy p hL hR => ?_, fun acc H3 p hL => ?_⟩)
        · obtain ⟨hij, rfl⟩ := hy
          obtain ⟨p1, p2, p3, p4, p5, ds, p6, p7, p8, p9⟩ := p
          have hnew := D2.new nL
          have him : (i + 1) * costB m ≤ 3 * costB m := Nat.mul_le_mul_right _ (by omega)
          have him2 : (i + 1) * costB m = i * costB m + costB m := Nat.succ_mul i (costB m)
          show tCall _ _ _ _ [some (V.ref pd), some (.int ((m + 1 : Nat) : Int)), some (.int (i : Nat))] H3 R
          walk_at "go"
          refine ⟨pd, pc, c + 2 + i * costB m, ?_, p5, by omega, fun v d l H4 fd hv hfz b4 t4 D4 => ?_⟩
          · rw [show (((m + 1 : Nat) : Int) - 1) = (m : Nat) by omega]
          · refine hR v H4 (b4 _ _ (Ne.symm hnew.1) hL) (by omega) fun H5 b5 t5 h5 => ?_
            have hds := DpAll.txt t4 _ _ p7 p6
            refine ⟨hij, by simp [p2], but_new (p3.trans b4) nL b5, (p4.trans t4).trans t5, (D4.but b5 hnew.1 hnew.2).mono (by omega), ds ++ [d], DpAll.append (DpAll.txt t5 _ _ p7 hds) (.cons (Dp.txt t5 d v hfz hv) .nil), fzAll_app p7 (fzAll_one hfz), by simp [p8], fun x hx => ?_⟩
            rcases List.mem_append.mp hx with hx | hx
            · exact p9 x hx
            · rw [List.mem_singleton.mp hx]
              exact ⟨l, fd⟩
        · obtain ⟨p1, p2, p3, p4, p5, ds, p6, p7, p8, p9⟩ := p
          walk_at "go"
          refine w_tupL (SqL.of hL) ?_
          intro pt H4 n4 e4 h4
          have hjm : j * costB m ≤ 3 * costB m := Nat.mul_le_mul_right _ (by omega)
          obtain ⟨l, hf⟩ := fine_tup p9 (by omega)
          exact q (.ref pt) (.tuple ds) l H4 hf (.tup (SqT.of h4) (DpAll.same e4 _ _ p6)) (by simp only [Lay.fz]; exact p7) ((b1.trans b2).trans (p3.trans (But.same e4))) ((t1.trans t2).trans (p4.trans (Txt.same e4))) ((p5.same e4).mono (by omega))
      · walk_at "go"
        exact tail H1 _ b1 t1 D1 (Nat.le_refl _)
    · walk_at "go"
      exact tail H _ (But.refl H) (Txt.refl H) hD (by omega)
end
end K66

set_option exponentiation.threshold 256
set_option Elab.async false
set_option linter.all false
set_option maxRecDepth 100000
set_option maxHeartbeats 4000000
set_option exponentiation.threshold 10
namespace K66
open PySem PySem.Spec PyProof.Rows L2 Lay DataM
local macro_rules | `(tactic| walk_at "1") => `(tactic| first
  | with_reducible refine w_seq ?_
  | ((with_reducible refine w_var (v := ?vv) ?hv ?_); (case hv => rfl))
  | with_reducible refine w_c ?_
  | with_reducible refine w_m1 ?_
  | with_reducible refine w_isstr ?_
  | with_reducible refine w_bm0 ?_
  | with_reducible refine w_bm ?_
  | with_reducible refine w_gcons ?_
  | with_reducible refine w_gnil ?_
  | ((with_reducible refine w_ty (xs := ?vv) ?hv ?_); (case hv => walk_at "hx"))
  | ((with_reducible refine w_gtup (xs := ?vv) ?hv ?hl ?_); (case hv => walk_at "hx"); (case hl => rfl))
  | with_reducible refine w_for1 ?_
  | with_reducible refine w_for2 ?_
  | with_reducible refine w_for3 ?_
  | with_reducible refine w_forA ?_
  | with_reducible refine w_forE ?_
  | ((with_reducible refine w_aug (x := ?vv) ?hv ?_); (case hv => rfl))
  | with_reducible refine w_op ?_
  | with_reducible refine w_cb ?_
  | with_reducible refine w_acons ?_
  | with_reducible refine w_anil ?_
  | with_reducible refine w_set ?_
  | with_reducible refine w_if ?_
  | with_reducible refine w_test ?_
  | with_reducible refine w_tB ?_
  | with_reducible refine w_bl ?_
  | with_reducible refine w_and ?_
  | with_reducible refine w_or ?_
  | with_reducible refine w_not ?_
  | with_reducible refine w_iteT ?_
  | with_reducible refine w_iteF ?_
  | with_reducible refine w_ret ?_
  | with_reducible refine w_next ?_
  | with_reducible refine w_drop ?_
  | with_reducible refine w_call ?_
  | with_reducible refine w_ifx ?_
  | with_reducible refine w_andV ?_
  | with_reducible refine w_orV ?_
  | with_reducible refine w_notV ?_
  | with_reducible refine w_sl ?_
  | with_reducible refine w_nopart ?_
  | with_reducible refine w_part ?_
  | with_reducible refine w_exint ?_
  | with_reducible refine w_chain ?_
  | with_reducible refine w_par ?_
  | with_reducible refine w_two ?_
  | with_reducible refine w_par3 ?_
  | with_reducible refine w_three ?_
  | with_reducible refine w_asg ?_
  | with_reducible refine w_gset ?_
  | with_reducible refine w_retN ?_
  | with_reducible refine w_brk ?_
  | with_reducible refine w_cont ?_
  | with_reducible refine w_un ?_
  | with_reducible refine w_neg ?_
  | with_reducible refine w_callS ?_
  | with_reducible refine w_tup0 ?_
  | with_reducible refine w_lst0 ?_
  | with_reducible refine w_fld0 ?_
  | with_reducible refine w_sfld ?_
  | with_reducible refine w_gsub ?_
  | with_reducible refine w_iAny ?_
  | with_reducible refine w_iR1 ?_
  | with_reducible refine w_make ?_
  | with_reducible refine w_meth ?_
  | with_reducible refine w_mk1 ?_
  | with_reducible refine w_LZ ?_)
local macro_rules | `(tactic| walk_at "2") => `(tactic| first
  | with_reducible refine w_add_int ?_
  | with_reducible refine w_sub ?_
  | ((with_reducible refine w_add_str ?hl ?_); (case hl => walk_at "len"))
  | ((with_reducible refine w_mod ?hl ?_); (case hl => first | decide | omega))
  | ((with_reducible refine w_fdiv ?h1 ?h2 ?_); (case h1 => first | decide | omega); (case h2 => first | decide | omega))
  | ((with_reducible refine w_mulR ?h1 ?h2 ?_); (case h1 => first | decide | omega); (case h2 => first | decide | omega))
  | ((with_reducible refine w_mulL ?h1 ?h2 ?_); (case h1 => first | decide | omega); (case h2 => first | decide | omega))
  | with_reducible refine w_iadd_int ?_
  | ((with_reducible refine w_iadd_str ?hl ?_); (case hl => walk_at "len"))
  | ((with_reducible refine w_mk ?hl ?_); (case hl => walk_at "len"))
  | with_reducible refine w_lt_int ?_
  | with_reducible refine w_lt_str ?_
  | with_reducible refine w_le_int ?_
  | with_reducible refine w_le_str ?_
  | with_reducible refine w_gt ?_
  | with_reducible refine w_ge ?_
  | with_reducible refine w_eq_int ?_
  | with_reducible refine w_eq_str ?_
  | with_reducible refine w_ne_int ?_
  | with_reducible refine w_ne_str ?_
  | ((with_reducible refine w_isInt (d := ?vd) ?hd ?_); (case hd => walk_at "dp"))
  | ((with_reducible refine w_isBool (d := ?vd) ?hd ?_); (case hd => walk_at "dp"))
  | ((with_reducible refine w_isStr (d := ?vd) ?hd ?_); (case hd => walk_at "dp"))
  | ((with_reducible refine w_isTup (d := ?vd) ?hd ?_); (case hd => walk_at "dp"))
  | ((with_reducible refine w_isLst (d := ?vd) ?hd ?_); (case hd => walk_at "dp"))
  | refine w_in_str ?_
  | refine w_nin_str ?_
  | ((with_reducible refine w_ixL (xs := ?vv) (y := ?vr) ?h ?ha ?_); (case h => walk_at "hx"); (case ha => rfl))
  | with_reducible refine w_is ?_
  | with_reducible refine w_isnot ?_
  | ((with_reducible refine w_len_str ?hl ?_); (case hl => walk_at "len"))
  | ((with_reducible refine w_len (xs := ?vv) ?hl ?_); (case hl => walk_at "hx"))
  | with_reducible refine w_int_int ?_
  | with_reducible refine w_str_str ?_
  | with_reducible refine w_abs ?_
  | ((with_reducible refine w_sl_str ?hl ?_); (case hl => walk_at "len"))
  | ((with_reducible refine w_fldAt (C := ?vC) (dx := ?vdx) (fs := ?vfs) (v := ?vv) ?h1 ?h2 ?h3 ?h4 ?_); (case h1 => walk_at "hx"); (case h2 => assumption); (case h3 => assumption); (case h4 => rfl))
  | ((with_reducible refine w_methAt (dx := ?vdx) (fs := ?vfs) ?h1 ?h2 ?_); (case h1 => walk_at "hx"); (case h2 => rfl))
  | ((with_reducible refine w_iteP ?h1 ?_); (case h1 => walk_at "yes"))
  | ((with_reducible refine w_iteN ?h1 ?_); (case h1 => walk_at "no")))
local macro_rules | `(tactic| walk_at "yes") => `(tactic| first | assumption | ((with_reducible refine bnotT ?_); walk_at "no") | (refine decide_eq_true ?_; first | assumption | omega) | exact rfl)
local macro_rules | `(tactic| walk_at "no") => `(tactic| first | assumption | ((with_reducible refine bnotF ?_); walk_at "yes") | (refine decide_eq_false ?_; first | assumption | omega) | exact rfl)
local macro_rules | `(tactic| walk_at "len") => `(tactic| first | assumption | exact Nat.le_of_ble_eq_true rfl | omega | decide | (simp only [List.length_append, List.length_cons, List.length_nil, List.length_map]; omega) | (simp only [app_len]; omega))
local macro_rules | `(tactic| walk_at "ne") => `(tactic| first | assumption | (refine Ne.symm ?_; assumption))
local macro_rules | `(tactic| walk_at "hx") => `(tactic| first
  | assumption
  | exact upd_same
  | ((with_reducible refine sqa_l ?_); walk_at "hx")
  | ((with_reducible refine sqa_t ?_); walk_at "hx")
  | ((with_reducible refine SqL.of ?_); walk_at "hx")
  | ((with_reducible refine SqT.of ?_); walk_at "hx")
  | ((with_reducible refine at_same (by assumption) ?_); walk_at "hx")
  | ((with_reducible refine at_but (by assumption) ?hne ?_); (case hne => walk_at "ne"); walk_at "hx")
  | ((with_reducible refine Txt.tup (by assumption) _ _ ?_); walk_at "hx")
  | ((with_reducible refine Same.seq (by assumption) ?_); walk_at "hx")
  | ((with_reducible refine Same.seqT (by assumption) ?_); walk_at "hx")
  | ((with_reducible refine Dp.same (by assumption) _ _ ?_); walk_at "hx")
  | ((with_reducible refine DpAll.same (by assumption) _ _ ?_); walk_at "hx"))
local macro_rules | `(tactic| walk_at "go") => `(tactic| repeat (first | walk_at "1" | walk_at "2"))
local macro_rules | `(tactic| walk_at "dp") => `(tactic| first | exact .int _ | exact .str _ | exact .bl _ | exact .non | walk_at "hx")

section
variable {P : Program} {w : World} {K : PySem.W.Frag} {mg : Str → Option Value} {base : Heap} {CM CR CP CK : Addr}
def spLW (K : PySem.W.Frag) : Sp := fun vs H Q _ => ∃ s : Str, vs = [.str s] ∧ s.length ≤ 400000 ∧ ∀ H', Same H H' → Q (.bl (isWordT s.cps.toList)) H'
theorem ok_law_is_word {f : Addr} {fd : FuncData} (T : Fx w K mg CM CP) (F : Fun K "_law_is_word" "_law_is_word" s__law_is_word f fd) : FnOk P w K mg base CX0 1 f fd ["value"] (spLW K) := by
  refine F.ok sc__law_is_word (fun vs H Q E h => ?_) (fun cdv A outer s H vs Q E hr h => ?_)
  · obtain ⟨z, rfl, _⟩ := h
    rfl
  · obtain ⟨z, rfl, hz, q⟩ := h
    refine ⟨_, (pss_cons (ps_set (i := 1) sc__law_is_word.nd rfl (by first | exact Or.inl rfl | exact Or.inr rfl) pe_str)
    (pss_one (ps_ret (pe_and (pe_chain op_ltA op_ltA pe_int (pe_callB (call_lenA (K := K)) (by rfl) T.b_len (by decide +kernel) (pa_cons (pv 0) pa_nil)) pe_int) (pe_and (pe_cmpR (op_inA (K := K)) (pe_ix (ix_A (K := K)) (pv 0) pe_int (fun _ _ => rfl)) (pv 1) (by rfl)) (pe_one (pe_callB (all_A (K := K) rfl) (by rfl) T.b_all (by decide +kernel) (pa_cons (pe_lc (own := [("sign", 2)]) (g := gName 2) (tt := tYes) rfl sc__law_is_word.nd (pi_A (K := K) (pv 0)) (blkOk_by (N := N__law_is_word) (sc := defScope s__law_is_word) (by decide +kernel)) (fun _ _ _ _ _ => pg_name (i := 2) sc__law_is_word.nd rfl (Or.inl rfl)) (fun _ _ _ _ _ => pts_nil) (fun _ _ _ _ _ => (pe_cmpR (op_inA (K := K)) (pv 2) (pe_op op_addA (pv 1) pe_str) (by rfl)))) pa_nil)))))))), ?_⟩
    try dsimp only [cxOf]
    refine w_start (show _ = [some _, none, none] from rfl) ?_
    have e1 := len_cps z
    have hw : isWordT z.cps.toList = (decide (1 ≤ z.length) && decide (z.length ≤ 12) && isLet (z.cps.toList.headD 0) && z.cps.toList.all fun c => isLet c || isDig c) := by
      unfold isWordT
      rw [e1]
    walk_at "go"
    by_cases h1 : 1 ≤ z.length
    · walk_at "go"
      by_cases h2 : z.length ≤ 12
      · walk_at "go"
        cases hl : z.cps.toList with
        | nil =>
          rw [hl] at e1
          simp at e1
          omega
        | cons c r =>
          refine w_ix_str (z := z) (n := 0) (c := c) (by omega) (by rw [hl]; exact atI_nat (j := 0) rfl) ?_
          have hlm : decide (c ∈ (Str.ofString "abcdefghijklmnopqrstuvwxyz").cps.toList) = isLet c := let_mem c
          have hw2 : isWordT z.cps.toList = (isLet c && z.cps.toList.all fun c => isLet c || isDig c) := by
            rw [hw, decide_eq_true h1, decide_eq_true h2, hl]
            rfl
          walk_at "go"
          rw [hlm]
          cases hc : isLet c with
          | false =>
            walk_at "go"
            have := q H (Same.refl H)
            rw [hw2, hc] at this
            exact this
          | true =>
            walk_at "go"
            refine w_lcS (x := z) (fun c => .bl (isLet c || isDig c)) rfl (by omega) (fun v => rfl) (fun c H1 hc1 e2 R hR => ?_) (fun D H2 n2 e2 hD => ?_)
            · show tOp _ _ _ [some (V.str z), some (.str (Str.ofString "abcdefghijklmnopqrstuvwxyz")), some (.str ⟨#[c]⟩)] H1 R
              walk_at "go"
              have hm : decide (c ∈ (Str.ofString "abcdefghijklmnopqrstuvwxyz" ++ Str.ofString "0123456789").cps.toList) = (isLet c || isDig c) := by
                rw [← let_mem, ← dig_mem, app_l]
                simp only [List.mem_append, Bool.decide_or]
              rw [hm]
              exact hR H1 (Same.refl H1)
            · walk_at "go"
              refine w_all (bs := z.cps.toList.map fun c => isLet c || isDig c) ?_ ?_
              · rw [List.map_map]
                exact SqL.of hD
              · have := q H2 e2
                rw [hw2, hc] at this
                rw [List.all_map]
                exact this
      · walk_at "go"
        have := q H (Same.refl H)
        rw [hw, decide_eq_true h1, decide_eq_false h2] at this
        exact this
    · walk_at "go"
      have := q H (Same.refl H)
      rw [hw, decide_eq_false h1] at this
      exact this
def spLRd (K : PySem.W.Frag) : Sp := fun vs H Q _ => ∃ s : Str, vs = [.str s] ∧ s.length ≤ 400000 ∧ (∀ d, readT s.cps.toList = some d → ∀ p v H', Same H H' → H' p = some (.lst [v]) → Dp K H' v d → Lay.fz d = true → Q (.ref p) H') ∧
  (readT s.cps.toList = none → ∀ p H', Same H H' → H' p = some (.lst []) → Q (.ref p) H')
theorem ok_law_read {f : Addr} {fd : FuncData} (T : Fx w K mg CM CP) (F : Fun K "_law_read" "_law_read" s__law_read f fd) (c_read_data : FnM true P w K mg base 4 "read_data" (spRead K CM)) : FnOk P w K mg base CX0 5 f fd ["text"] (spLRd K) := by
  refine F.ok sc__law_read (fun vs H Q E h => ?_) (fun cdv A outer s H vs Q E hr h => ?_)
  · obtain ⟨z, rfl, _⟩ := h
    rfl
  · obtain ⟨z, rfl, hz, q1, q2⟩ := h
    refine ⟨_, (pss_one (ps_tryPl (c := true) rfl rfl ⟨rfl, by decide, .inl T.g_Malformed⟩ (fun W pn xe tk pw_ => (pss_one (ps_ret (pe_lstG (pa_cons (pe_fcS c_read_data hr (by first | decide | omega) (fun σ => passMAt (c' := true) tk (.inl rfl) σ) (pa_cons (pv 0) pa_nil)) pa_nil))))) (fun a_ oe_ k_ t_ pn_ hz_ hd_ => (pss_one (ps_ret (pe_lstG pa_nil)))))), ?_⟩
    try dsimp only [cxOf]
    refine w_start (show _ = [some _] from rfl) ?_
    show tRet _ _ _ _
    walk_at "go"
    refine ⟨_, _, rfl, .str z, hz, fun d hd v H1 e1 hdp hfz => ?_, fun hn H1 e1 => ?_⟩
    · walk_at "go"
      intro p H2 n2 e2 h2
      exact q1 d hd p v H2 (e1.trans e2) h2 (Dp.same e2 _ _ hdp) hfz
    · refine ⟨T.e_Malformed, fun a na => ?_⟩
      walk_at "go"
      intro p H2 n2 e2 h2
      exact q2 hn p H2 (e1.trans e2) h2
def Eh (CM : Addr) (Q : VK) : XK := fun k t H' => k = .ref CM ∧ ∃ p m, t = some p ∧ H' p = some (.tup [.str m]) ∧ m.length ≤ 2000 ∧ Q (.str (Str.ofString "<" ++ m ++ Str.ofString ">")) H'
theorem wrdi_imp {vs : List V} {H : Hp} {Q : VK} {E E' : XK} (h : ∀ k t H', E k t H' → E' k t H') (s : spWrDi K CM CP vs H Q E) : spWrDi K CM CP vs H Q E' := by
  rcases s with ⟨v, n, a1, a2, a3, a4⟩ | ⟨a, xs, es, a1, a2, a3, a4, a5, a6, a7⟩
  · exact .inl ⟨v, n, a1, a2, a3, fun p m H' e q z => h _ _ _ (a4 p m H' e q z)⟩
  · exact .inr ⟨a, xs, es, a1, a2, a3, a4, a5, a6, fun hn p m H' e q z => h _ _ _ (a7 hn p m H' e q z)⟩
theorem rddi_imp {vs : List V} {H : Hp} {Q : VK} {E E' : XK} (h : ∀ k t H', E k t H' → E' k t H') (s : spRdDi K CM CP vs H Q E) : spRdDi K CM CP vs H Q E' := by
  rcases s with ⟨v, d, a1, a2, a3, a4⟩ | ⟨z, r, a1, a2, a3, a4, a5⟩
  · exact .inl ⟨v, d, a1, a2, a3, fun p H' e q => h _ _ _ (a4 p H' e q)⟩
  · exact .inr ⟨z, r, a1, a2, a3, fun n hn p H' e q => h _ _ _ (a4 n hn p H' e q), a5⟩
def spToldD (K : PySem.W.Frag) (CM CP : Addr) : Sp := fun vs H Q _ => ∃ which v, vs = [.int which, v] ∧ ((which = 0 ∧ spWrDi K CM CP [v] H Q (Eh CM Q)) ∨ (which = 1 ∧ spRdDi K CM CP [v] H Q (Eh CM Q)))
theorem ok_law_told {f : Addr} {fd : FuncData} (T : Fx w K mg CM CP) (ST : StrC K CM) (F : Fun K "_law_told" "_law_told" s__law_told f fd) (c_write_diary : FnM true P w K mg base 5 "write_diary" (spWrDi K CM CP)) (c_read_diary : FnM false P w K mg base 6 "read_diary" (spRdDi K CM CP)) :
    FnOk P w K mg base CX0 7 f fd ["which", "value"] (spToldD K CM CP) := by
  refine F.ok sc__law_told (fun vs H Q E h => ?_) (fun cdv A outer s H vs Q E hr h => ?_)
  · obtain ⟨which, v, rfl, _⟩ := h
    rfl
  · obtain ⟨which, v, rfl, h⟩ := h
    refine ⟨_, (pss_one (ps_tryAs (c := false) (i := 2) rfl rfl sc__law_told.nd rfl rfl ⟨rfl, by decide, .inl T.g_Malformed⟩ (fun W pn xe tk pw_ => (pss_one (ps_ret (pe_ifExp (pt_cmpR (op_eqA (K := K) hr.units) (pv 0) pe_int (nomark _)) (pe_fcS c_write_diary hr (by first | decide | omega) (fun σ => passMAt (c' := true) tk (.inr rfl) σ) (pa_cons (pv 1) pa_nil)) (pe_fcS c_read_diary hr (by first | decide | omega) (fun σ => passMAt (c' := false) tk (.inl rfl) σ) (pa_cons (pv 1) pa_nil)))))) (fun a_ oe_ k_ t_ pn_ hz_ hd_ => (pss_one (ps_ret (pe_op op_addA (pe_op op_addA pe_str (pe_callTy (call_strM hr.units ST hz_ hd_) (by rfl) T.b_str (by decide +kernel) (pa_cons (pv 2) pa_nil))) pe_str)))))), ?_⟩
    try dsimp only [cxOf]
    refine w_start (show _ = [some _, some _, none] from rfl) ?_
    show tRet _ _ _ _
    rcases h with ⟨rfl, h⟩ | ⟨rfl, h⟩
    · walk_at "go"
      refine wrdi_imp (fun k t H' hE => ?_) h
      obtain ⟨rfl, p, m, rfl, hp, hl, q⟩ := hE
      refine ⟨T.e_Malformed, fun a na => ?_⟩
      show tRet _ ⟨_, Q, _, _⟩ [some (V.int 0), some v, some (V.ref a)] H'
      walk_at "go"
      refine ⟨rfl, rfl, p, m, rfl, hp, ?_⟩
      have z1 : (Str.ofString "<").length = 1 := rfl
      have z2 : (Str.ofString ">").length = 1 := rfl
      walk_at "go"
      exact q
    · walk_at "go"
      refine rddi_imp (fun k t H' hE => ?_) h
      obtain ⟨rfl, p, m, rfl, hp, hl, q⟩ := hE
      refine ⟨T.e_Malformed, fun a na => ?_⟩
      show tRet _ ⟨_, Q, _, _⟩ [some (V.int 1), some v, some (V.ref a)] H'
      walk_at "go"
      refine ⟨rfl, rfl, p, m, rfl, hp, ?_⟩
      have z1 : (Str.ofString "<").length = 1 := rfl
      have z2 : (Str.ofString ">").length = 1 := rfl
      walk_at "go"
      exact q
end
end K66

set_option exponentiation.threshold 256
set_option Elab.async false
set_option linter.all false
set_option maxRecDepth 100000
set_option maxHeartbeats 4000000
set_option exponentiation.threshold 10
namespace K66
open PySem PySem.Spec PyProof.Rows L2 Lay DataM
local macro_rules | `(tactic| walk_at "1") => `(tactic| first
  | with_reducible refine w_seq ?_
  | ((with_reducible refine w_var (v := ?vv) ?hv ?_); (case hv => rfl))
  | with_reducible refine w_c ?_
  | with_reducible refine w_m1 ?_
  | with_reducible refine w_isstr ?_
  | with_reducible refine w_bm0 ?_
  | with_reducible refine w_bm ?_
  | with_reducible refine w_gcons ?_
  | with_reducible refine w_gnil ?_
  | ((with_reducible refine w_ty (xs := ?vv) ?hv ?_); (case hv => walk_at "hx"))
  | ((with_reducible refine w_gtup (xs := ?vv) ?hv ?hl ?_); (case hv => walk_at "hx"); (case hl => rfl))
  | with_reducible refine w_for1 ?_
  | with_reducible refine w_for2 ?_
  | with_reducible refine w_for3 ?_
  | with_reducible refine w_forA ?_
  | with_reducible refine w_forE ?_
  | ((with_reducible refine w_aug (x := ?vv) ?hv ?_); (case hv => rfl))
  | with_reducible refine w_op ?_
  | with_reducible refine w_cb ?_
  | with_reducible refine w_acons ?_
  | with_reducible refine w_anil ?_
  | with_reducible refine w_set ?_
  | with_reducible refine w_if ?_
  | with_reducible refine w_test ?_
  | with_reducible refine w_tB ?_
  | with_reducible refine w_bl ?_
  | with_reducible refine w_and ?_
  | with_reducible refine w_or ?_
  | with_reducible refine w_not ?_
  | with_reducible refine w_iteT ?_
  | with_reducible refine w_iteF ?_
  | with_reducible refine w_ret ?_
  | with_reducible refine w_next ?_
  | with_reducible refine w_drop ?_
  | with_reducible refine w_call ?_
  | with_reducible refine w_ifx ?_
  | with_reducible refine w_andV ?_
  | with_reducible refine w_orV ?_
  | with_reducible refine w_notV ?_
  | with_reducible refine w_sl ?_
  | with_reducible refine w_nopart ?_
  | with_reducible refine w_part ?_
  | with_reducible refine w_exint ?_
  | with_reducible refine w_chain ?_
  | with_reducible refine w_par ?_
  | with_reducible refine w_two ?_
  | with_reducible refine w_par3 ?_
  | with_reducible refine w_three ?_
  | with_reducible refine w_asg ?_
  | with_reducible refine w_gset ?_
  | with_reducible refine w_retN ?_
  | with_reducible refine w_brk ?_
  | with_reducible refine w_cont ?_
  | with_reducible refine w_un ?_
  | with_reducible refine w_neg ?_
  | with_reducible refine w_callS ?_
  | with_reducible refine w_tup0 ?_
  | with_reducible refine w_lst0 ?_
  | with_reducible refine w_fld0 ?_
  | with_reducible refine w_sfld ?_
  | with_reducible refine w_gsub ?_
  | with_reducible refine w_iAny ?_
  | with_reducible refine w_iR1 ?_
  | with_reducible refine w_make ?_
  | with_reducible refine w_meth ?_
  | with_reducible refine w_mk1 ?_
  | with_reducible refine w_LZ ?_)
local macro_rules | `(tactic| walk_at "2") => `(tactic| first
  | with_reducible refine w_add_int ?_
  | with_reducible refine w_sub ?_
  | ((with_reducible refine w_add_str ?hl ?_); (case hl => walk_at "len"))
  | ((with_reducible refine w_mod ?hl ?_); (case hl => first | decide | omega))
  | ((with_reducible refine w_fdiv ?h1 ?h2 ?_); (case h1 => first | decide | omega); (case h2 => first | decide | omega))
  | ((with_reducible refine w_mulR ?h1 ?h2 ?_); (case h1 => first | decide | omega); (case h2 => first | decide | omega))
  | ((with_reducible refine w_mulL ?h1 ?h2 ?_); (case h1 => first | decide | omega); (case h2 => first | decide | omega))
  | with_reducible refine w_iadd_int ?_
  | ((with_reducible refine w_iadd_str ?hl ?_); (case hl => walk_at "len"))
  | ((with_reducible refine w_mk ?hl ?_); (case hl => walk_at "len"))
  | with_reducible refine w_lt_int ?_
  | with_reducible refine w_lt_str ?_
  | with_reducible refine w_le_int ?_
  | with_reducible refine w_le_str ?_
  | with_reducible refine w_gt ?_
  | with_reducible refine w_ge ?_
  | with_reducible refine w_eq_int ?_
  | with_reducible refine w_eq_str ?_
  | with_reducible refine w_ne_int ?_
  | with_reducible refine w_ne_str ?_
  | ((with_reducible refine w_isInt (d := ?vd) ?hd ?_); (case hd => walk_at "dp"))
  | ((with_reducible refine w_isBool (d := ?vd) ?hd ?_); (case hd => walk_at "dp"))
  | ((with_reducible refine w_isStr (d := ?vd) ?hd ?_); (case hd => walk_at "dp"))
  | ((with_reducible refine w_isTup (d := ?vd) ?hd ?_); (case hd => walk_at "dp"))
  | ((with_reducible refine w_isLst (d := ?vd) ?hd ?_); (case hd => walk_at "dp"))
  | refine w_in_str ?_
  | refine w_nin_str ?_
  | ((with_reducible refine w_ixL (xs := ?vv) (y := ?vr) ?h ?ha ?_); (case h => walk_at "hx"); (case ha => rfl))
  | with_reducible refine w_is ?_
  | with_reducible refine w_isnot ?_
  | ((with_reducible refine w_len_str ?hl ?_); (case hl => walk_at "len"))
  | ((with_reducible refine w_len (xs := ?vv) ?hl ?_); (case hl => walk_at "hx"))
  | with_reducible refine w_int_int ?_
  | with_reducible refine w_str_str ?_
  | with_reducible refine w_abs ?_
  | ((with_reducible refine w_sl_str ?hl ?_); (case hl => walk_at "len"))
  | ((with_reducible refine w_fldAt (C := ?vC) (dx := ?vdx) (fs := ?vfs) (v := ?vv) ?h1 ?h2 ?h3 ?h4 ?_); (case h1 => walk_at "hx"); (case h2 => assumption); (case h3 => assumption); (case h4 => rfl))
  | ((with_reducible refine w_methAt (dx := ?vdx) (fs := ?vfs) ?h1 ?h2 ?_); (case h1 => walk_at "hx"); (case h2 => rfl))
  | ((with_reducible refine w_iteP ?h1 ?_); (case h1 => walk_at "yes"))
  | ((with_reducible refine w_iteN ?h1 ?_); (case h1 => walk_at "no")))
local macro_rules | `(tactic| walk_at "yes") => `(tactic| first | assumption | ((with_reducible refine bnotT ?_); walk_at "no") | (refine decide_eq_true ?_; first | assumption | omega) | exact rfl)
local macro_rules | `(tactic| walk_at "no") => `(tactic| first | assumption | ((with_reducible refine bnotF ?_); walk_at "yes") | (refine decide_eq_false ?_; first | assumption | omega) | exact rfl)
local macro_rules | `(tactic| walk_at "len") => `(tactic| first | assumption | exact Nat.le_of_ble_eq_true rfl | omega | decide | (simp only [List.length_append, List.length_cons, List.length_nil, List.length_map]; omega) | (simp only [app_len]; omega))
local macro_rules | `(tactic| walk_at "ne") => `(tactic| first | assumption | (refine Ne.symm ?_; assumption))
local macro_rules | `(tactic| walk_at "hx") => `(tactic| first
  | assumption
  | exact upd_same
  | ((with_reducible refine sqa_l ?_); walk_at "hx")
  | ((with_reducible refine sqa_t ?_); walk_at "hx")
  | ((with_reducible refine SqL.of ?_); walk_at "hx")
  | ((with_reducible refine SqT.of ?_); walk_at "hx")
  | ((with_reducible refine at_same (by assumption) ?_); walk_at "hx")
  | ((with_reducible refine at_but (by assumption) ?hne ?_); (case hne => walk_at "ne"); walk_at "hx")
  | ((with_reducible refine Txt.tup (by assumption) _ _ ?_); walk_at "hx")
  | ((with_reducible refine Same.seq (by assumption) ?_); walk_at "hx")
  | ((with_reducible refine Same.seqT (by assumption) ?_); walk_at "hx")
  | ((with_reducible refine Dp.same (by assumption) _ _ ?_); walk_at "hx")
  | ((with_reducible refine DpAll.same (by assumption) _ _ ?_); walk_at "hx"))
local macro_rules | `(tactic| walk_at "go") => `(tactic| repeat (first | walk_at "1" | walk_at "2"))
local macro_rules | `(tactic| walk_at "dp") => `(tactic| first | exact .int _ | exact .str _ | exact .bl _ | exact .non | walk_at "hx")

section
variable {P : Program} {w : World} {K : PySem.W.Frag} {mg : Str → Option Value} {base : Heap} {CM CR CP CK : Addr}
theorem rd0 {l : Tx} (h : l.take 2 = mark 0) : rdPart l 0 = some (.str ⟨(l.drop 2).toArray⟩) := if_pos h
theorem rd1 {l : Tx} (h : l.take 2 = mark 1) : rdPart l 1 = (match TL.par [32] [] (l.drop 2) with | some (a, b) => if isWordT a = true then some (.tuple [.str ⟨a.toArray⟩, .str ⟨b.toArray⟩]) else none | none => none) := if_pos h
theorem rd2 {l : Tx} (h : l.take 2 = mark 2) : rdPart l 2 = (match readT (l.drop 2) with | some (.tuple ds) => some (PyData.tuple ds) | _ => none) := if_pos h
theorem rdN {l : Tx} {k : Nat} (h : ¬ l.take 2 = mark k) : rdPart l k = none := if_neg h
structure DE (K : PySem.W.Frag) (H : Hp) (rows : List Tx) (k : Nat) (v : V) : Prop where
  ex : ∃ T s a b c d, v = .ref T ∧ H T = some (.tup [.str s, .str a, .str b, c]) ∧ pt rows (3 * k) = some (.str s) ∧ pt rows (3 * k + 1) = some (.tuple [.str a, .str b]) ∧ pt rows (3 * k + 2) = some d ∧ Dp K H c d ∧ Lay.fz d = true
theorem DE.txt {H H' : Hp} {rows : List Tx} {k : Nat} {v : V} (t : Txt H H') (g : DE K H rows k v) : DE K H' rows k v := by
  obtain ⟨T, s, a, b, c, d, rfl, h1, h2, h3, h4, h5, h6⟩ := g.ex
  exact ⟨T, s, a, b, c, d, rfl, t.tup _ _ h1, h2, h3, h4, Dp.txt t _ _ h6 h5, h6⟩
def PartOk (rows : List Tx) (i : Nat) (l : List V) : Prop := (i % 3 = 0) ∨ (i % 3 = 1 ∧ ∃ s, l = [.str s] ∧ pt rows (i - 1) = some (.str s)) ∨
  (i % 3 = 2 ∧ ∃ s a b, l = [.str s, .str a, .str b] ∧ pt rows (i - 2) = some (.str s) ∧ pt rows (i - 1) = some (.tuple [.str a, .str b]))
def spDue (K : PySem.W.Frag) : Sp := fun vs H Q _ => ∃ z : Str, ∃ r, vs = [.str z] ∧ z.length ≤ 300000 ∧ Dia (rowsT z) r ∧ (∀ n, r = .inl n → ∀ H', Same H H' → Q (.int (n : Nat)) H') ∧
  ∀ ps, r = .inr ps → ∀ D es H', Same H H' → H' D = some (.lst es) → 3 * es.length = ps.length → (∀ k v, es[k]? = some v → DE K H' (rowsT z) k v) → Q (.ref D) H'
theorem ok_law_due {f : Addr} {fd : FuncData} (T : Fx w K mg CM CP) (F : Fun K "_law_due" "_law_due" s__law_due f fd) (c__law_is_word : Fn0 P w K mg base 1 "_law_is_word" (spLW K)) (c__law_read : Fn0 P w K mg base 5 "_law_read" (spLRd K)) :
    FnOk P w K mg base CX0 6 f fd ["text"] (spDue K) := by
  refine F.ok sc__law_due (fun vs H Q E h => ?_) (fun cdv A outer s H vs Q E hr h => ?_)
  · obtain ⟨z, r, rfl, _⟩ := h
    rfl
  · obtain ⟨z, r, rfl, hz, hdia, qN, q⟩ := h
    refine ⟨_, (pss_cons (ps_par3 (i := 1) (j := 2) (l := 3) rfl sc__law_due.nd rfl rfl rfl (by decide) (by decide) (by decide) rfl rfl rfl (pa_cons (pe_split (pv 0) pe_str) (pa_cons (pe_lstG pa_nil) (pa_cons (pe_lstG pa_nil) pa_nil))) (by rfl))
    (pss_cons (ps_for PassesOwn.never rfl (pi_range1 (by rfl) T.b_range (pa_cons (pe_op op_subA (pe_callB (call_lenA (K := K)) (by rfl) T.b_len (by decide +kernel) (pa_cons (pv 1) pa_nil)) pe_int) pa_nil)) (pg_name (i := 4) sc__law_due.nd rfl (by first | exact Or.inl rfl | exact Or.inr rfl)) (pss_cons (ps_par (i := 5) (j := 6) rfl sc__law_due.nd rfl rfl (by decide) rfl rfl (pa_cons (pe_ix (ix_A (K := K)) (pv 1) (pv 4) (fun _ _ => rfl)) (pa_cons (pe_op op_modA (pe_callTy call_intA (by rfl) T.b_int (by decide +kernel) (pa_cons (pv 4) pa_nil)) pe_int) pa_nil)) (by rfl))
    (pss_cons (ps_if (pt_cmpR (op_neA (K := K) hr.units) (pe_slice (sl_A (K := K)) (pv 5) po_none (po_some pe_int)) (pe_ix (ix_A (K := K)) (pe_lstG (pa_cons pe_str (pa_cons pe_str (pa_cons pe_str pa_nil)))) (pv 6) (fun _ _ => rfl)) (nomark _)) (pss_one (ps_ret (pe_op op_addA (pv 4) pe_int))) pss_nil)
    (pss_one (ps_if (pt_cmpR (op_eqA (K := K) hr.units) (pv 6) pe_int (nomark _)) (pss_one (ps_set (i := 3) sc__law_due.nd rfl (by first | exact Or.inl rfl | exact Or.inr rfl) (pe_lstG (pa_cons (pe_slice (sl_A (K := K)) (pv 5) (po_some pe_int) po_none) pa_nil)))) (pss_one (ps_if (pt_cmpR (op_eqA (K := K) hr.units) (pv 6) pe_int (nomark _)) (pss_cons (ps_asg (pe_partition (pe_slice (sl_A (K := K)) (pv 5) (po_some pe_int) po_none) pe_str) (tup_A (K := K) (n := 3) rfl (pgs_cons (pg_name (i := 7) sc__law_due.nd rfl (by first | exact Or.inl rfl | exact Or.inr rfl)) (pgs_cons (pg_name (i := 8) sc__law_due.nd rfl (by first | exact Or.inl rfl | exact Or.inr rfl)) (pgs_cons (pg_name (i := 9) sc__law_due.nd rfl (by first | exact Or.inl rfl | exact Or.inr rfl)) pgs_nil)))))
    (pss_cons (ps_if (PW.pt (pw_or (pt_cmpR (op_eqA (K := K) hr.units) (pv 8) pe_str (nomark _)) (pw_or1 (pt_not (pt_val (pe_f0 c__law_is_word hr (by first | decide | omega) (pa_cons (pv 7) pa_nil))))))) (pss_one (ps_ret (pe_op op_addA (pv 4) pe_int))) pss_nil)
    (pss_one (ps_set (i := 3) sc__law_due.nd rfl (by first | exact Or.inl rfl | exact Or.inr rfl) (pe_op op_addA (pv 3) (pe_lstG (pa_cons (pv 7) (pa_cons (pv 9) pa_nil)))))))) (pss_cons (ps_set (i := 10) sc__law_due.nd rfl (by first | exact Or.inl rfl | exact Or.inr rfl) (pe_f0 c__law_read hr (by first | decide | omega) (pa_cons (pe_slice (sl_A (K := K)) (pv 5) (po_some pe_int) po_none) pa_nil)))
    (pss_cons (ps_if (PW.pt (pw_or (pt_cmpR (op_eqNil (K := K) hr.units) (pv 10) (pe_lstG pa_nil) (nomark _)) (pw_or1 (pt_not (pt_val (pe_callB (call_isiA (K := K)) (by rfl) T.b_isinstance (by decide +kernel) (pa_cons (pe_ix (ix_A (K := K)) (pv 10) pe_int (fun _ _ => rfl)) (pa_cons (pe_bltn (v := .ty "tuple") (by rfl) T.b_tuple (by decide +kernel) rfl) pa_nil)))))))) (pss_one (ps_ret (pe_op op_addA (pv 4) pe_int))) pss_nil)
    (pss_one (ps_expr (pe_bm PySem.F.plainAttrs_list PySem.F.slot_list_append PySem.F.type_list_append mt_append (pv 2) (pa_cons (pe_callTy (call_tupA (K := K)) (by rfl) T.b_tuple (by decide +kernel) (pa_cons (pe_op op_addA (pv 3) (pv 10)) pa_nil)) pa_nil)))))))))))))
    (pss_one (ps_ret (pe_ifExp (PW.pt (pw_and (pt_cmpR (op_eqA (K := K) hr.units) (pe_ix (ix_A (K := K)) (pv 1) (pe_un un_neg pe_int) (fun _ _ => rfl)) pe_str (nomark _)) (pw_and1 (pt_cmpR (op_eqA (K := K) hr.units) (pe_op op_modA (pe_callTy call_intA (by rfl) T.b_int (by decide +kernel) (pa_cons (pe_op op_subA (pe_callB (call_lenA (K := K)) (by rfl) T.b_len (by decide +kernel) (pa_cons (pv 1) pa_nil)) pe_int) pa_nil)) pe_int) pe_int (nomark _))))) (pv 2) (pe_callB (call_lenA (K := K)) (by rfl) T.b_len (by decide +kernel) (pa_cons (pv 1) pa_nil))))))), ?_⟩
    try dsimp only [cxOf]
    refine w_start (show _ = [some _, none, none, none, none, none, none, none, none, none, none] from rfl) ?_
    walk_at "go"
    refine ⟨_, _, rfl, rfl, rfl, Nat.le_trans (show z.length + 2 ≤ 300002 by omega) (by decide), fun pl n1 => ?_⟩
    have e1 := same_upd (o := .lst ((rowsS z).map V.str)) n1
    have h1 : upd H pl (.lst ((rowsS z).map V.str)) pl = some (.lst ((rowsS z).map V.str)) := upd_same
    show tCons _ _ _ (upd H pl (.lst ((rowsS z).map V.str))) _
    generalize upd H pl (.lst ((rowsS z).map V.str)) = H1 at e1 h1
    walk_at "go"
    intro pf H2 n2 e2 h2
    walk_at "go"
    intro pq H3 n3 e3 h3
    walk_at "go"
    have nrow : (rowsT z).length = (rowsS z).length := List.length_map ..
    have hpos := rows_pos z
    have hcnt := rows_cnt z
    have nH : H pf = none := none_same e1 n2
    have npq : pq ≠ pf := fun y => by
      rw [y, h2] at n3
      cases n3
    have nlf : pl ≠ pf := fun y => by
      rw [← y, h1] at n2
      cases n2
    refine r1_of (n := (rowsS z).length - 1) (by rw [List.length_map]; omega) (by omega) ?_
    refine lp_range (fun i σ' H' => ∃ es pq l, (∃ o1 o2 o3 o4 o5 o6 o7, σ' = [some (.str z), some (.ref pl), some (.ref pf), some (.ref pq), o1, o2, o3, o4, o5, o6, o7]) ∧ Same H H' ∧ H' pl = some (.lst ((rowsS z).map V.str)) ∧ H' pf = some (.lst es) ∧ pq ≠ pf ∧ H' pq = some (.lst l) ∧
        3 * es.length + i % 3 = i ∧ (∀ k v, es[k]? = some v → DE K H' (rowsT z) k v) ∧ PartOk (rowsT z) i l ∧ ∀ j, j < i → ∃ d, pt (rowsT z) j = some d)
      ⟨[], pq, [], ⟨_, _, _, _, _, _, _, rfl⟩, (e1.trans e2).trans e3, e3 _ _ (e2 _ _ h1), e3 _ _ h2, npq, h3, rfl, fun k v hk => by simp at hk, .inl rfl, fun j hj => by omega⟩ (fun i σ' H' hi p => ?_) (fun σ' H' p => ?_)
    · obtain ⟨es, pq, l, ⟨o1, o2, o3, o4, o5, o6, o7, rfl⟩, e, hpl, hpf, npq, hpq, hcn, hes, hpt, hall⟩ := p
      have hi2 : i < (rowsS z).length := by omega
      have hrow : (rowsT z)[i]? = some ((rowsS z)[i].cps.toList) := by
        unfold rowsT
        rw [List.getElem?_map, List.getElem?_eq_getElem hi2]
        rfl
      have hlen : (rowsS z)[i].length ≤ z.length := by
        have := rows_len (List.mem_of_getElem? hrow)
        rwa [len_l] at this
      have hpti : pt (rowsT z) i = rdPart ((rowsS z)[i].cps.toList) (i % 3) := by
        unfold pt
        rw [hrow]
        rfl
      have hget : ((rowsS z).map V.str)[i]? = some (.str (rowsS z)[i]) := by
        rw [List.getElem?_map, List.getElem?_eq_getElem hi2]
        rfl
      generalize hR : (rowsS z)[i] = R at hrow hlen hpti hget
      have stopq : pt (rowsT z) i = none → ∀ Hx, Same H' Hx → Q (.int ((i : Nat) + 1)) Hx := fun hn Hx ex => qN (i + 1) (hdia.stop (by omega) hall hn) Hx (e.trans ex)
      have c2 : (cutS R none (some 2)).cps.toList = R.cps.toList.take 2 := cut_hi R 2
      have c3 : (cutS R (some 2) none).cps.toList = R.cps.toList.drop 2 := cut_lo R 2
      have key : ∀ (m : Str) k, m.cps.toList = mark k → (cutS R none (some 2) = m ↔ R.cps.toList.take 2 = mark k) := fun m k e => by
        rw [← c2, ← e]
        exact ⟨fun h => by rw [h], fun h => str_ext h⟩
      have lR := len_l R
      have lrest : (cutS R (some 2) none).length ≤ 400000 := by
        rw [← len_l, c3, List.length_drop]
        omega
      walk_at "go"
      refine w_ix (.inl (SqL.of hpl)) (atI_nat (j := i) hget) ?_
      walk_at "go"
      intro pm H4 n4 e4 h4
      walk_at "go"
      have hcut : (⟨(R.cps.toList.drop 2).toArray⟩ : Str) = cutS R (some 2) none := (str_ext c3).symm
      have hall2 : ∀ d, pt (rowsT z) i = some d → ∀ j, j < i + 1 → ∃ d, pt (rowsT z) j = some d := fun d hd j hj => by
        by_cases hji : j = i
        · rw [hji]
          exact ⟨d, hd⟩
        · exact hall j (by omega)
      have hpl4 := e4 _ _ hpl
      have hpf4 := e4 _ _ hpf
      have hpq4 := e4 _ _ hpq
      rcases (show i % 3 = 0 ∨ i % 3 = 1 ∨ i % 3 = 2 by omega) with em | em | em
      · rw [em] at hpti
        rw [show ((i : Nat) : Int) % 3 = 0 by omega]
        refine w_ix (.inl (SqL.of h4)) (atI_nat (j := 0) rfl) ?_
        by_cases hm : R.cps.toList.take 2 = mark 0
        · have e0 : decide (cutS R none (some 2) = Str.ofString "> ") = true := decide_eq_true ((key _ 0 rfl).mpr hm)
          have hd := hpti.trans (rd0 hm)
          walk_at "go"
          intro p5 H5 n5 e5 h5
          walk_at "go"
          have e45 := e4.trans e5
          refine ⟨es, p5, _, ⟨_, _, _, _, _, _, _, rfl⟩, e.trans e45, e45 _ _ hpl, e45 _ _ hpf, fun y => ?_, h5, by omega, fun k v hk => (hes k v hk).txt (Txt.same e45), .inr (.inl ⟨by omega, _, rfl, ?_⟩), hall2 _ hd⟩
          · rw [y, hpf4] at n5
            cases n5
          · show pt (rowsT z) i = _
            rw [hd, hcut]
        · have e0 : decide (cutS R none (some 2) = Str.ofString "> ") = false := decide_eq_false fun h => hm ((key _ 0 rfl).mp h)
          walk_at "go"
          exact stopq (hpti.trans (rdN hm)) H4 e4
      · rw [em] at hpti
        rw [show ((i : Nat) : Int) % 3 = 1 by omega]
        refine w_ix (.inl (SqL.of h4)) (atI_nat (j := 1) rfl) ?_
        by_cases hm : R.cps.toList.take 2 = mark 1
        · have e0 : decide (cutS R none (some 2) = Str.ofString "= ") = true := decide_eq_true ((key _ 1 rfl).mpr hm)
          have hd := hpti.trans (rd1 hm)
          walk_at "go"
          refine ⟨_, _, rfl, rfl, rfl, Nat.le_trans lrest (by decide), fun p5 n5 => ?_⟩
          have e5 := same_upd (o := .tup [V.str (Txt.partition (cutS R (some 2) none) " ").1, V.str (Txt.partition (cutS R (some 2) none) " ").2.1, V.str (Txt.partition (cutS R (some 2) none) " ").2.2]) n5
          have h5 : upd H4 p5 (.tup [V.str (Txt.partition (cutS R (some 2) none) " ").1, V.str (Txt.partition (cutS R (some 2) none) " ").2.1, V.str (Txt.partition (cutS R (some 2) none) " ").2.2]) p5 = some _ := upd_same
          generalize hH1 : upd H4 p5 (.tup [V.str (Txt.partition (cutS R (some 2) none) " ").1, V.str (Txt.partition (cutS R (some 2) none) " ").2.1, V.str (Txt.partition (cutS R (some 2) none) " ").2.2]) = H5 at e5 h5
          show gTup _ _ _ _ _ H5 _
          rw [par_sp, c3] at h5
          cases hp : TL.par [32] [] (R.cps.toList.drop 2) with
          | none =>
            rw [hp] at h5 hd
            have e2 : decide (Str.empty = Str.ofString "") = true := by decide
            walk_at "go"
            exact stopq hd H5 (e4.trans e5)
          | some xy =>
            obtain ⟨x, y⟩ := xy
            rw [hp] at h5 hd
            have e2 : decide ((" " : Str) = Str.ofString "") = false := by decide
            have hx := par_len _ _ _ _ hp
            rw [List.length_drop] at hx
            have lx : (⟨x.toArray⟩ : Str).length = x.length := by simp [Str.length]
            walk_at "go"
            refine ⟨_, rfl, (show (⟨x.toArray⟩ : Str).length ≤ 400000 by simp only [List.length_nil, Nat.zero_add] at hx; omega), fun H6 e6 => ?_⟩
            rw [show isWordT (⟨x.toArray⟩ : Str).cps.toList = isWordT x by rw [List.toList_toArray]]
            cases hw : isWordT x with
            | false =>
              walk_at "go"
              refine stopq ?_ H6 ((e4.trans e5).trans e6)
              rw [hd]
              show (if _ then _ else _) = none
              rw [hw]
              rfl
            | true =>
              have hd2 := hd.trans (if_pos hw)
              walk_at "go"
              intro p7 H7 n7 e7 h7
              walk_at "go"
              have e47 := (e4.trans e5).trans (e6.trans e7)
              rcases hpt with h0 | ⟨_, s0, hl, hs0⟩ | ⟨h0, _⟩
              · omega
              · subst hl
                refine w_add_lst (e47 _ _ hpq) h7 (by show 1 + 2 ≤ 1000000; decide) ?_
                intro p8 H8 n8 e8 h8
                walk_at "go"
                have e48 := e47.trans e8
                refine ⟨es, p8, _, ⟨_, _, _, _, _, _, _, rfl⟩, e.trans e48, e48 _ _ hpl, e48 _ _ hpf, fun y => ?_, h8, by omega, fun k v hk => (hes k v hk).txt (Txt.same e48), .inr (.inr ⟨by omega, s0, _, _, rfl, ?_, ?_⟩), hall2 _ hd2⟩
                · rw [y, e47 _ _ hpf] at n8
                  cases n8
                · rw [show i + 1 - 2 = i - 1 by omega]
                  exact hs0
                · show pt (rowsT z) i = _
                  exact hd2
              · omega
        · have e0 : decide (cutS R none (some 2) = Str.ofString "= ") = false := decide_eq_false fun h => hm ((key _ 1 rfl).mp h)
          walk_at "go"
          exact stopq (hpti.trans (rdN hm)) H4 e4
      · rw [em] at hpti
        rw [show ((i : Nat) : Int) % 3 = 2 by omega]
        refine w_ix (.inl (SqL.of h4)) (atI_nat (j := 2) rfl) ?_
        by_cases hm : R.cps.toList.take 2 = mark 2
        · have e0 : decide (cutS R none (some 2) = Str.ofString "# ") = true := decide_eq_true ((key _ 2 rfl).mpr hm)
          have hd := hpti.trans (rd2 hm)
          rw [← c3] at hd
          walk_at "go"
          refine ⟨_, rfl, lrest, fun d hd2 p5 v H5 e5 h5 hdp hfz => ?_, fun hn p5 H5 e5 h5 => ?_⟩
          · rw [hd2] at hd
            walk_at "go"
            intro p6 H6 n6 e6 h6
            walk_at "go"
            refine ⟨p5, p6, [v], rfl, rfl, SqL.of (e6 _ _ h5), SqL.of h6, ?_⟩
            have hdp6 := Dp.same e6 _ _ hdp
            walk_at "go"
            cases ht : isTupD d with
            | false =>
              walk_at "go"
              refine stopq ?_ H6 ((e4.trans e5).trans e6)
              rw [hd]
              cases d <;> first | rfl | cases ht
            | true =>
              cases d with
              | tuple ds =>
                walk_at "go"
                have e46 := (e4.trans e5).trans e6
                rcases hpt with h0 | ⟨h0, _⟩ | ⟨_, s0, a0, b0, hl, hs0, hab⟩
                · omega
                · omega
                · subst hl
                  refine w_add_lst (e46 _ _ hpq) (e6 _ _ h5) (by show 3 + 1 ≤ 1000000; decide) ?_
                  intro p7 H7 n7 e7 h7
                  refine w_tupL (SqL.of h7) ?_
                  intro T H8 n8 e8 h8
                  walk_at "go"
                  have e48 := (e46.trans e7).trans e8
                  refine w_appG (e48 _ _ hpf) (by omega) fun H9 b9 t9 h9 => ?_
                  have t49 := (Txt.same e48).trans t9
                  refine ⟨es ++ [.ref T], pq, _, ⟨_, _, _, _, _, _, _, rfl⟩, same_but (e.trans e48) b9 nH, b9 _ _ nlf (e48 _ _ hpl), h9, npq, b9 _ _ npq (e48 _ _ hpq), by simp; omega, fun k v2 hk => ?_, .inl (by omega), hall2 _ hd⟩
                  by_cases hk2 : k < es.length
                  · rw [List.getElem?_append_left hk2] at hk
                    exact (hes k v2 hk).txt t49
                  · have hk3 : k = es.length := by
                      have := (List.getElem?_eq_some_iff.mp hk).1
                      simp at this
                      omega
                    subst hk3
                    rw [List.getElem?_append_right (by omega), Nat.sub_self] at hk
                    cases hk
                    refine ⟨T, s0, a0, b0, v, .tuple ds, rfl, t9.tup _ _ h8, ?_, ?_, ?_, Dp.txt ((Txt.same (e6.trans (e7.trans e8))).trans t9) _ _ hfz hdp, hfz⟩
                    · rw [show 3 * es.length = i - 2 by omega]
                      exact hs0
                    · rw [show 3 * es.length + 1 = i - 1 by omega]
                      exact hab
                    · rw [show 3 * es.length + 2 = i by omega]
                      exact hd
              | _ => cases ht
          · rw [hn] at hd
            walk_at "go"
            intro p6 H6 n6 e6 h6
            walk_at "go"
            refine ⟨p5, p6, [], rfl, rfl, SqL.of (e6 _ _ h5), SqL.of h6, ?_⟩
            walk_at "go"
            exact stopq hd H6 ((e4.trans e5).trans e6)
        · have e0 : decide (cutS R none (some 2) = Str.ofString "# ") = false := decide_eq_false fun h => hm ((key _ 2 rfl).mp h)
          walk_at "go"
          exact stopq (hpti.trans (rdN hm)) H4 e4
    · obtain ⟨es, pq, l, ⟨o1, o2, o3, o4, o5, o6, o7, rfl⟩, e, hpl, hpf, npq, hpq, hcn, hes, hpt, hall⟩ := p
      have hne : rowsS z ≠ [] := fun y => by
        have h0 : (rowsT z).length = 0 := by
          rw [nrow, y]
          rfl
        omega
      have hrl := (List.dropLast_concat_getLast hne).symm
      generalize hLs : (rowsS z).getLast hne = last at hrl
      have hla : (rowsS z).map V.str = ((rowsS z).dropLast.map V.str) ++ [V.str last] := by
        rw [hrl]
        simp
      have hlt : (rowsT z).getLast? = some last.cps.toList := by
        unfold rowsT
        rw [hrl]
        simp
      have lastE : (rowsT z).getLast? = some [] ↔ last = Str.ofString "" := by
        rw [hlt]
        constructor
        · intro y
          exact str_ext (Option.some.inj y)
        · intro y
          rw [y]
          rfl
      obtain ⟨ps, hl, hp⟩ := pts_ex (rowsT z) _ hall
      walk_at "go"
      refine w_ix (v := .str last) (.inl (SqL.of hpl)) (by rw [hla]; exact atI_last _ _) ?_
      walk_at "go"
      have hlm : (((rowsS z).map V.str).length : Int) = ((rowsT z).length : Nat) := by
        rw [List.length_map, nrow]
      rcases hdia.fine hpos ps (by omega) hp with ⟨hbad, hr0⟩ | ⟨⟨hg1, hg2⟩, hr0⟩
      · by_cases hlast : last = Str.ofString ""
        · have hmod : ¬ ((rowsT z).length - 1) % 3 = 0 := fun y => hbad ⟨lastE.mpr hlast, y⟩
          walk_at "go"
          rw [hlm]
          exact qN _ hr0 H' e
        · walk_at "go"
          rw [hlm]
          exact qN _ hr0 H' e
      · have hlast := lastE.mp hg1
        walk_at "go"
        exact q ps hr0 pf es H' e hpf (by omega) hes
end
end K66

set_option exponentiation.threshold 256
set_option Elab.async false
set_option linter.all false
set_option maxRecDepth 100000
set_option maxHeartbeats 4000000
set_option exponentiation.threshold 10
namespace K66
open PySem PySem.Spec PyProof.Rows L2 Lay DataM
local macro_rules | `(tactic| walk_at "1") => `(tactic| first
  | with_reducible refine w_seq ?_
  | ((with_reducible refine w_var (v := ?vv) ?hv ?_); (case hv => rfl))
  | with_reducible refine w_c ?_
  | with_reducible refine w_m1 ?_
  | with_reducible refine w_isstr ?_
  | with_reducible refine w_bm0 ?_
  | with_reducible refine w_bm ?_
  | with_reducible refine w_gcons ?_
  | with_reducible refine w_gnil ?_
  | ((with_reducible refine w_ty (xs := ?vv) ?hv ?_); (case hv => walk_at "hx"))
  | ((with_reducible refine w_gtup (xs := ?vv) ?hv ?hl ?_); (case hv => walk_at "hx"); (case hl => rfl))
  | with_reducible refine w_for1 ?_
  | with_reducible refine w_for2 ?_
  | with_reducible refine w_for3 ?_
  | with_reducible refine w_forA ?_
  | with_reducible refine w_forE ?_
  | ((with_reducible refine w_aug (x := ?vv) ?hv ?_); (case hv => rfl))
  | with_reducible refine w_op ?_
  | with_reducible refine w_cb ?_
  | with_reducible refine w_acons ?_
  | with_reducible refine w_anil ?_
  | with_reducible refine w_set ?_
  | with_reducible refine w_if ?_
  | with_reducible refine w_test ?_
  | with_reducible refine w_tB ?_
  | with_reducible refine w_bl ?_
  | with_reducible refine w_and ?_
  | with_reducible refine w_or ?_
  | with_reducible refine w_not ?_
  | with_reducible refine w_iteT ?_
  | with_reducible refine w_iteF ?_
  | with_reducible refine w_ret ?_
  | with_reducible refine w_next ?_
  | with_reducible refine w_drop ?_
  | with_reducible refine w_call ?_
  | with_reducible refine w_ifx ?_
  | with_reducible refine w_andV ?_
  | with_reducible refine w_orV ?_
  | with_reducible refine w_notV ?_
  | with_reducible refine w_sl ?_
  | with_reducible refine w_nopart ?_
  | with_reducible refine w_part ?_
  | with_reducible refine w_exint ?_
  | with_reducible refine w_chain ?_
  | with_reducible refine w_par ?_
  | with_reducible refine w_two ?_
  | with_reducible refine w_par3 ?_
  | with_reducible refine w_three ?_
  | with_reducible refine w_asg ?_
  | with_reducible refine w_gset ?_
  | with_reducible refine w_retN ?_
  | with_reducible refine w_brk ?_
  | with_reducible refine w_cont ?_
  | with_reducible refine w_un ?_
  | with_reducible refine w_neg ?_
  | with_reducible refine w_callS ?_
  | with_reducible refine w_tup0 ?_
  | with_reducible refine w_lst0 ?_
  | with_reducible refine w_fld0 ?_
  | with_reducible refine w_sfld ?_
  | with_reducible refine w_gsub ?_
  | with_reducible refine w_iAny ?_
  | with_reducible refine w_iR1 ?_
  | with_reducible refine w_make ?_
  | with_reducible refine w_meth ?_
  | with_reducible refine w_mk1 ?_
  | with_reducible refine w_LZ ?_)
local macro_rules | `(tactic| walk_at "2") => `(tactic| first
  | with_reducible refine w_add_int ?_
  | with_reducible refine w_sub ?_
  | ((with_reducible refine w_add_str ?hl ?_); (case hl => walk_at "len"))
  | ((with_reducible refine w_mod ?hl ?_); (case hl => first | decide | omega))
  | ((with_reducible refine w_fdiv ?h1 ?h2 ?_); (case h1 => first | decide | omega); (case h2 => first | decide | omega))
  | ((with_reducible refine w_mulR ?h1 ?h2 ?_); (case h1 => first | decide | omega); (case h2 => first | decide | omega))
  | ((with_reducible refine w_mulL ?h1 ?h2 ?_); (case h1 => first | decide | omega); (case h2 => first | decide | omega))
  | with_reducible refine w_iadd_int ?_
  | ((with_reducible refine w_iadd_str ?hl ?_); (case hl => walk_at "len"))
  | ((with_reducible refine w_mk ?hl ?_); (case hl => walk_at "len"))
  | with_reducible refine w_lt_int ?_
  | with_reducible refine w_lt_str ?_
  | with_reducible refine w_le_int ?_
  | with_reducible refine w_le_str ?_
  | with_reducible refine w_gt ?_
  | with_reducible refine w_ge ?_
  | with_reducible refine w_eq_int ?_
  | with_reducible refine w_eq_str ?_
  | with_reducible refine w_ne_int ?_
  | with_reducible refine w_ne_str ?_
  | ((with_reducible refine w_isInt (d := ?vd) ?hd ?_); (case hd => walk_at "dp"))
  | ((with_reducible refine w_isBool (d := ?vd) ?hd ?_); (case hd => walk_at "dp"))
  | ((with_reducible refine w_isStr (d := ?vd) ?hd ?_); (case hd => walk_at "dp"))
  | ((with_reducible refine w_isTup (d := ?vd) ?hd ?_); (case hd => walk_at "dp"))
  | ((with_reducible refine w_isLst (d := ?vd) ?hd ?_); (case hd => walk_at "dp"))
  | refine w_in_str ?_
  | refine w_nin_str ?_
  | ((with_reducible refine w_ixL (xs := ?vv) (y := ?vr) ?h ?ha ?_); (case h => walk_at "hx"); (case ha => rfl))
  | with_reducible refine w_is ?_
  | with_reducible refine w_isnot ?_
  | ((with_reducible refine w_len_str ?hl ?_); (case hl => walk_at "len"))
  | ((with_reducible refine w_len (xs := ?vv) ?hl ?_); (case hl => walk_at "hx"))
  | with_reducible refine w_int_int ?_
  | with_reducible refine w_str_str ?_
  | with_reducible refine w_abs ?_
  | ((with_reducible refine w_sl_str ?hl ?_); (case hl => walk_at "len"))
  | ((with_reducible refine w_fldAt (C := ?vC) (dx := ?vdx) (fs := ?vfs) (v := ?vv) ?h1 ?h2 ?h3 ?h4 ?_); (case h1 => walk_at "hx"); (case h2 => assumption); (case h3 => assumption); (case h4 => rfl))
  | ((with_reducible refine w_methAt (dx := ?vdx) (fs := ?vfs) ?h1 ?h2 ?_); (case h1 => walk_at "hx"); (case h2 => rfl))
  | ((with_reducible refine w_iteP ?h1 ?_); (case h1 => walk_at "yes"))
  | ((with_reducible refine w_iteN ?h1 ?_); (case h1 => walk_at "no")))
local macro_rules | `(tactic| walk_at "yes") => `(tactic| first | assumption | ((with_reducible refine bnotT ?_); walk_at "no") | (refine decide_eq_true ?_; first | assumption | omega) | exact rfl)
local macro_rules | `(tactic| walk_at "no") => `(tactic| first | assumption | ((with_reducible refine bnotF ?_); walk_at "yes") | (refine decide_eq_false ?_; first | assumption | omega) | exact rfl)
local macro_rules | `(tactic| walk_at "len") => `(tactic| first | assumption | exact Nat.le_of_ble_eq_true rfl | omega | decide | (simp only [List.length_append, List.length_cons, List.length_nil, List.length_map]; omega) | (simp only [app_len]; omega))
local macro_rules | `(tactic| walk_at "ne") => `(tactic| first | assumption | (refine Ne.symm ?_; assumption))
local macro_rules | `(tactic| walk_at "hx") => `(tactic| first
  | assumption
  | exact upd_same
  | ((with_reducible refine sqa_l ?_); walk_at "hx")
  | ((with_reducible refine sqa_t ?_); walk_at "hx")
  | ((with_reducible refine SqL.of ?_); walk_at "hx")
  | ((with_reducible refine SqT.of ?_); walk_at "hx")
  | ((with_reducible refine at_same (by assumption) ?_); walk_at "hx")
  | ((with_reducible refine at_but (by assumption) ?hne ?_); (case hne => walk_at "ne"); walk_at "hx")
  | ((with_reducible refine Txt.tup (by assumption) _ _ ?_); walk_at "hx")
  | ((with_reducible refine Same.seq (by assumption) ?_); walk_at "hx")
  | ((with_reducible refine Same.seqT (by assumption) ?_); walk_at "hx")
  | ((with_reducible refine Dp.same (by assumption) _ _ ?_); walk_at "hx")
  | ((with_reducible refine DpAll.same (by assumption) _ _ ?_); walk_at "hx"))
local macro_rules | `(tactic| walk_at "go") => `(tactic| repeat (first | walk_at "1" | walk_at "2"))
local macro_rules | `(tactic| walk_at "dp") => `(tactic| first | exact .int _ | exact .str _ | exact .bl _ | exact .non | walk_at "hx")

section
variable {P : Program} {w : World} {K : PySem.W.Frag} {mg : Str → Option Value} {base : Heap} {CM CR CP CK : Addr}
def tolds (n : Nat) : Str := Str.ofString "<" ++ rowMsg n ++ Str.ofString ">"
def spFits (K : PySem.W.Frag) (CP : Addr) : Sp := fun vs H Q _ => (∃ n, vs = [.str (tolds n), .int (n : Nat)] ∧ n ≤ 1000000 ∧ ∀ H', Same H H' → Q (.bl true) H') ∨
  (∃ D1 D2 es fs ps rows, vs = [.ref D1, .ref D2] ∧ H D1 = some (.lst es) ∧ H D2 = some (.lst fs) ∧ es.length = fs.length ∧ fs.length ≤ 1000000 ∧ (∀ k v, es[k]? = some v → GE K CP H ps k v) ∧ (∀ k v, fs[k]? = some v → DE K H rows k v) ∧
    (∀ (j : Nat) d, ps[j]? = some d → pt rows j = some d) ∧ (∀ j d, pt rows j = some d → siz d ≤ 800000) ∧ ∀ H', Same H H' → Q (.bl true) H')
theorem w_isIntL {a : Addr} {xs : List V} {H : Hp} {Q : VK} (h : SqL K H a xs) (q : Q (.bl false) H) : rIsiA K [.ref a, .ty "int"] H Q := w_isi (.lst h) (show _ = some false by decide +kernel) q
theorem ok_law_fits {f : Addr} {fd : FuncData} (T : Fx w K mg CM CP) (F : Fun K "_law_fits" "_law_fits" s__law_fits f fd) (c_Reply___init__ : MkC P w K mg base 1 "Reply" CP (spRpI K CP)) (EQ : EqC P w K mg base 2 CP (RpS K CP)) :
    FnOk P w K mg base CX0 4 f fd ["told", "due"] (spFits K CP) := by
  refine F.ok sc__law_fits (fun vs H Q E h => ?_) (fun cdv A outer s H vs Q E hr h => ?_)
  · rcases h with ⟨n, rfl, _⟩ | ⟨D1, D2, es, fs, ps, rows, rfl, _⟩ <;> rfl
  · rcases h with ⟨n, rfl, hn, q⟩ | ⟨D1, D2, es, fs, ps, rows, rfl, h1, h2, hl, hlf, hge, hde, hp, hsz, q⟩
    · refine ⟨_, (pss_cons (ps_if (pt_val (pe_callB (call_isiA (K := K)) (by rfl) T.b_isinstance (by decide +kernel) (pa_cons (pv 1) (pa_cons (pe_bltn (v := .ty "int") (by rfl) T.b_int (by decide +kernel) rfl) pa_nil)))) (pss_one (ps_ret (pe_cmpR (op_eqA (K := K) hr.units) (pv 0) (pe_op op_addA (pe_op op_addA pe_str (pe_callTy (call_strA rfl T.digits) (by rfl) T.b_str (by decide +kernel) (pa_cons (pv 1) pa_nil))) pe_str) (nomark _)))) pss_nil)
    (pss_cons (ps_if (PW.pt (pw_or (pt_not (pt_val (pe_callB (call_isiA (K := K)) (by rfl) T.b_isinstance (by decide +kernel) (pa_cons (pv 0) (pa_cons (pe_bltn (v := .ty "list") (by rfl) T.b_list (by decide +kernel) rfl) pa_nil))))) (pw_or1 (pt_cmpR (op_neA (K := K) hr.units) (pe_callB (call_lenA (K := K)) (by rfl) T.b_len (by decide +kernel) (pa_cons (pv 0) pa_nil)) (pe_callB (call_lenA (K := K)) (by rfl) T.b_len (by decide +kernel) (pa_cons (pv 1) pa_nil)) (nomark _))))) (pss_one (ps_ret pe_bl)) pss_nil)
    (pss_one (ps_ret (pe_callB (all_A (K := K) rfl) (by rfl) T.b_all (by decide +kernel) (pa_cons (pe_lc (own := [("k", 2)]) (g := gName 2) (tt := tYes) rfl sc__law_fits.nd (pi_range1 (by rfl) T.b_range (pa_cons (pe_callB (call_lenA (K := K)) (by rfl) T.b_len (by decide +kernel) (pa_cons (pv 1) pa_nil)) pa_nil)) (blkOk_by (N := N__law_fits) (sc := defScope s__law_fits) (by decide +kernel)) (fun _ _ _ _ _ => pg_name (i := 2) sc__law_fits.nd rfl (Or.inl rfl)) (fun _ _ _ _ _ => pts_nil) (fun _ _ _ _ _ => (pe_and (pe_cmpR (op_eqA (K := K) hr.units) (pe_ix (ix_A (K := K)) (pe_ix (ix_A (K := K)) (pv 0) (pv 2) (fun _ _ => rfl)) pe_int (fun _ _ => rfl)) (pe_ix (ix_A (K := K)) (pe_ix (ix_A (K := K)) (pv 1) (pv 2) (fun _ _ => rfl)) pe_int (fun _ _ => rfl)) (nomark _)) (pe_and (pe_cmpR (op_eqOwn EQ hr (by first | decide | omega)) (pe_ix (ix_A (K := K)) (pe_ix (ix_A (K := K)) (pv 0) (pv 2) (fun _ _ => rfl)) pe_int (fun _ _ => rfl)) (pe_newG c_Reply___init__ hr (by first | decide | omega) (pa_cons (pe_ix (ix_A (K := K)) (pe_ix (ix_A (K := K)) (pv 1) (pv 2) (fun _ _ => rfl)) pe_int (fun _ _ => rfl)) (pa_cons (pe_ix (ix_A (K := K)) (pe_ix (ix_A (K := K)) (pv 1) (pv 2) (fun _ _ => rfl)) pe_int (fun _ _ => rfl)) (pa_cons (pe_ix (ix_A (K := K)) (pe_ix (ix_A (K := K)) (pv 1) (pv 2) (fun _ _ => rfl)) pe_int (fun _ _ => rfl)) pa_nil)))) (nomark _)) (pe_one (pe_cmpR (op_eqA (K := K) hr.units) (pe_callB (call_lenA (K := K)) (by rfl) T.b_len (by decide +kernel) (pa_cons (pe_ix (ix_A (K := K)) (pv 0) (pv 2) (fun _ _ => rfl)) pa_nil)) pe_int (nomark _))))))) pa_nil)))))), ?_⟩
      try dsimp only [cxOf]
      refine w_start (show _ = [some _, some _, none] from rfl) ?_
      have ln : (Str.ofString (toString ((n : Nat) : Int))).length ≤ 9 := by
        rw [← len_l]
        have := nats_len n 9 (by decide) (by omega)
        rw [← digs_nat] at this
        exact this
      have hi : isIntD (.int ((n : Nat) : Int)) = true := rfl
      have l5 : (Str.ofString "<row ").length = 5 := rfl
      have l1 : (Str.ofString ">").length = 1 := rfl
      have he : decide (tolds n = Str.ofString "<row " ++ Str.ofString (toString ((n : Nat) : Int)) ++ Str.ofString ">") = true := decide_eq_true (str_ext (by
        unfold tolds rowMsg
        simp only [app_l]
        rfl))
      walk_at "go"
      refine w_str_int (Nat.lt_of_lt_of_le (show _ < 10 ^ 9 by omega) (Nat.pow_le_pow_right (by decide) (by decide))) ?_
      walk_at "go"
      rw [he]
      exact q H (Same.refl H)
    · refine ⟨_, (pss_cons (ps_if (pt_val (pe_callB (call_isiA (K := K)) (by rfl) T.b_isinstance (by decide +kernel) (pa_cons (pv 1) (pa_cons (pe_bltn (v := .ty "int") (by rfl) T.b_int (by decide +kernel) rfl) pa_nil)))) (pss_one (ps_ret (pe_cmpR (op_eqA (K := K) hr.units) (pv 0) (pe_op op_addA (pe_op op_addA pe_str (pe_callTy (call_strA rfl T.digits) (by rfl) T.b_str (by decide +kernel) (pa_cons (pv 1) pa_nil))) pe_str) (nomark _)))) pss_nil)
    (pss_cons (ps_if (PW.pt (pw_or (pt_not (pt_val (pe_callB (call_isiA (K := K)) (by rfl) T.b_isinstance (by decide +kernel) (pa_cons (pv 0) (pa_cons (pe_bltn (v := .ty "list") (by rfl) T.b_list (by decide +kernel) rfl) pa_nil))))) (pw_or1 (pt_cmpR (op_neA (K := K) hr.units) (pe_callB (call_lenA (K := K)) (by rfl) T.b_len (by decide +kernel) (pa_cons (pv 0) pa_nil)) (pe_callB (call_lenA (K := K)) (by rfl) T.b_len (by decide +kernel) (pa_cons (pv 1) pa_nil)) (nomark _))))) (pss_one (ps_ret pe_bl)) pss_nil)
    (pss_one (ps_ret (pe_callB (all_A (K := K) rfl) (by rfl) T.b_all (by decide +kernel) (pa_cons (pe_lc (own := [("k", 2)]) (g := gName 2) (tt := tYes) rfl sc__law_fits.nd (pi_range1 (by rfl) T.b_range (pa_cons (pe_callB (call_lenA (K := K)) (by rfl) T.b_len (by decide +kernel) (pa_cons (pv 1) pa_nil)) pa_nil)) (blkOk_by (N := N__law_fits) (sc := defScope s__law_fits) (by decide +kernel)) (fun _ _ _ _ _ => pg_name (i := 2) sc__law_fits.nd rfl (Or.inl rfl)) (fun _ _ _ _ _ => pts_nil) (fun _ _ _ _ _ => (pe_and (pe_cmpR (op_eqA (K := K) hr.units) (pe_ix (ix_A (K := K)) (pe_ix (ix_A (K := K)) (pv 0) (pv 2) (fun _ _ => rfl)) pe_int (fun _ _ => rfl)) (pe_ix (ix_A (K := K)) (pe_ix (ix_A (K := K)) (pv 1) (pv 2) (fun _ _ => rfl)) pe_int (fun _ _ => rfl)) (nomark _)) (pe_and (pe_cmpR (op_eqOwn EQ hr (by first | decide | omega)) (pe_ix (ix_A (K := K)) (pe_ix (ix_A (K := K)) (pv 0) (pv 2) (fun _ _ => rfl)) pe_int (fun _ _ => rfl)) (pe_newG c_Reply___init__ hr (by first | decide | omega) (pa_cons (pe_ix (ix_A (K := K)) (pe_ix (ix_A (K := K)) (pv 1) (pv 2) (fun _ _ => rfl)) pe_int (fun _ _ => rfl)) (pa_cons (pe_ix (ix_A (K := K)) (pe_ix (ix_A (K := K)) (pv 1) (pv 2) (fun _ _ => rfl)) pe_int (fun _ _ => rfl)) (pa_cons (pe_ix (ix_A (K := K)) (pe_ix (ix_A (K := K)) (pv 1) (pv 2) (fun _ _ => rfl)) pe_int (fun _ _ => rfl)) pa_nil)))) (nomark _)) (pe_one (pe_cmpR (op_eqA (K := K) hr.units) (pe_callB (call_lenA (K := K)) (by rfl) T.b_len (by decide +kernel) (pa_cons (pe_ix (ix_A (K := K)) (pv 0) (pv 2) (fun _ _ => rfl)) pa_nil)) pe_int (nomark _))))))) pa_nil)))))), ?_⟩
      try dsimp only [cxOf]
      refine w_start (show _ = [some _, some _, none] from rfl) ?_
      walk_at "go"
      refine w_isIntL (SqL.of h2) ?_
      walk_at "go"
      refine w_isLstY (SqL.of h1) ?_
      walk_at "go"
      refine w_lcI ?_
      walk_at "go"
      refine lr1_of (n := fs.length) rfl (by omega) ?_
      refine lcR (fun v => rfl) fun D nD => ⟨fun i acc Hx => i ≤ fs.length ∧ acc = List.replicate i (V.bl true) ∧ Same H Hx, fun H2 e2 h2 => ⟨Nat.zero_le _, rfl, e2⟩, fun _ _ _ _ => trivial, fun i y acc Hx R hy p hD hR => ?_, fun acc Hx p hD => ?_⟩
      · obtain ⟨hi, rfl⟩ := hy
        obtain ⟨p1, rfl, p3⟩ := p
        obtain ⟨T, x, p, dx, a, b, c, da, db, d0, d2, g0, g1, g2, g3, g4, g5, g6, g7, g8, g9⟩ := ((hge i _ (List.getElem?_eq_getElem (by omega : i < es.length))).same p3).ex
        obtain ⟨T', s0, a0, b0, c0, dd, f0, f1, f2, f3, f4, f5, f6⟩ := ((hde i _ (List.getElem?_eq_getElem hi)).txt (Txt.same p3)).ex
        have y3 := hp _ _ g3
        have y4 := hp _ _ g4
        have y5 := hp _ _ g5
        rw [f2] at y3
        rw [f3] at y4
        rw [f4] at y5
        cases y3
        cases y4
        cases y5
        cases g6
        cases g7
        cases g8
        have k1 : es[i]? = some (.ref T) := by rw [List.getElem?_eq_getElem (by omega : i < es.length), g0]
        have k2 : fs[i]? = some (.ref T') := by rw [List.getElem?_eq_getElem hi, f0]
        have h1x := p3 _ _ h1
        have h2x := p3 _ _ h2
        show tAndV _ _ [some (V.ref D1), some (V.ref D2), some (V.int (i : Nat))] Hx R
        have es0 : decide (s0 = s0) = true := decide_eq_true rfl
        have sz := hsz _ _ f4
        walk_at "go"
        refine w_ix (.inl (SqL.of h1x)) (atI_nat (j := i) k1) ?_
        walk_at "go"
        refine w_ix (.inr (SqT.of g1)) (atI_nat (j := 0) rfl) ?_
        walk_at "go"
        refine w_ix (.inl (SqL.of h2x)) (atI_nat (j := i) k2) ?_
        walk_at "go"
        refine w_ix (.inr (SqT.of f1)) (atI_nat (j := 0) rfl) ?_
        walk_at "go"
        refine w_ix (.inl (SqL.of h1x)) (atI_nat (j := i) k1) ?_
        walk_at "go"
        refine w_ix (.inr (SqT.of g1)) (atI_nat (j := 1) rfl) ?_
        walk_at "go"
        refine w_ix (.inl (SqL.of h2x)) (atI_nat (j := i) k2) ?_
        walk_at "go"
        refine w_ix (.inr (SqT.of f1)) (atI_nat (j := 1) rfl) ?_
        walk_at "go"
        refine w_ix (.inl (SqL.of h2x)) (atI_nat (j := i) k2) ?_
        walk_at "go"
        refine w_ix (.inr (SqT.of f1)) (atI_nat (j := 2) rfl) ?_
        walk_at "go"
        refine w_ix (.inl (SqL.of h2x)) (atI_nat (j := i) k2) ?_
        walk_at "go"
        refine w_ix (.inr (SqT.of f1)) (atI_nat (j := 3) rfl) ?_
        walk_at "go"
        intro q5 dx5 H5 n5 h5 e5
        refine ⟨q5, dx5, .str a0, .str b0, c0, rfl, h5, fun H6 b6 t6 h6 => ⟨rfl, ?_⟩⟩
        have e6 : Same Hx H6 := same_but e5 b6 n5
        refine ⟨⟨p, q5, dx, dx5, _, _, rfl, rfl, e6 _ _ g2, h6, dx, dx5, _, _, _, _, _, _, .str a0, .str b0, _, e6 _ _ g2, h6, .str _, .str _, .str _, .str _, Dp.same e6 _ _ g9, Dp.same e6 _ _ f5, rfl, rfl, f6, Nat.le_of_ble_eq_true rfl, Nat.le_of_ble_eq_true rfl, by omega⟩, fun H7 e7' => ?_⟩
        have e7 : Same H6 H7 := fun c o hh => e7' c o hh
        have e67 := e6.trans e7
        walk_at "go"
        refine w_ix (.inl (SqL.of (e67 _ _ h1x))) (atI_nat (j := i) k1) ?_
        have g17 := e67 _ _ g1
        walk_at "go"
        refine hR _ H7 (e67 _ _ hD) (by rw [List.length_replicate]; omega) fun H8 b8 t8 h8 => ⟨by omega, ?_, same_but (p3.trans e67) b8 nD⟩
        rw [List.replicate_succ']
        rfl
      · obtain ⟨p1, rfl, p3⟩ := p
        walk_at "go"
        refine w_all (bs := List.replicate fs.length true) ?_ ?_
        · rw [List.map_replicate]
          exact SqL.of hD
        · rw [show (List.replicate fs.length true).all id = true by simp]
          exact q Hx p3
end
end K66

set_option exponentiation.threshold 256
set_option Elab.async false
set_option linter.all false
set_option maxRecDepth 100000
set_option maxHeartbeats 4000000
set_option exponentiation.threshold 10
namespace K66
open PySem PySem.Spec PyProof.Rows L2 Lay DataM PySem.NumText
theorem word_no {p : Tx} (h : isWordT p = true) : 10 ∉ p ∧ 32 ∉ p ∧ p.length ≤ 12 := by
  unfold isWordT at h
  simp only [Bool.and_eq_true, decide_eq_true_eq, List.all_eq_true, Bool.or_eq_true] at h
  have key : ∀ c ∈ p, 48 ≤ c := fun c hc => by
    have := h.2 c hc
    unfold isLet isDig at this
    simp only [decide_eq_true_eq] at this
    omega
  refine ⟨fun hc => ?_, fun hc => ?_, h.1.1.2⟩
  · have := key _ hc
    omega
  · have := key _ hc
    omega
mutual
theorem wr_no10 : ∀ (d : PyData) (l : Tx), DataM.wr d = some l → 10 ∉ l
  | .tuple ds, l, h => by
    simp only [DataM.wr] at h
    cases hx : wrj ds with
    | none =>
      rw [hx] at h
      cases h
    | some x =>
      rw [hx] at h
      cases h
      have ih := wrj_no10 ds x hx
      show 10 ∉ 91 :: (x ++ [93])
      simp only [List.mem_cons, List.mem_append, List.not_mem_nil, not_or, or_false]
      exact ⟨by decide, ih, by decide⟩
  | .str s, l, h => by
    simp only [DataM.wr] at h
    split at h
    · rename_i hw
      cases h
      exact (word_no hw).1
    · split at h
      · cases h
        decide
      · cases h
  | .bool b, l, h => by
    simp only [DataM.wr] at h
    cases h
    cases b <;> decide
  | .int i, l, h => by
    simp only [DataM.wr] at h
    cases h
    cases i with
    | ofNat m =>
      rw [show Int.ofNat m = (m : Int) from rfl, digs_nat]
      exact fun hc => by have := nats_all m _ hc; omega
    | negSucc m =>
      rw [digs_neg]
      intro hc
      rcases List.mem_cons.mp hc with hc | hc
      · cases hc
      · have := nats_all (m + 1) _ hc
        omega
  | .none, _, h | .list _, _, h | .dict _, _, h => by cases h
theorem wrj_no10 : ∀ (ds : List PyData) (l : Tx), wrj ds = some l → 10 ∉ l
  | [], l, h => by
    simp only [wrj] at h
    cases h
    exact List.not_mem_nil
  | d :: ds, l, h => by
    simp only [wrj] at h
    cases ha : DataM.wr d with
    | none =>
      rw [ha] at h
      cases h
    | some a =>
      cases hb : wrj ds with
      | none =>
        rw [ha, hb] at h
        cases h
      | some b =>
        have i1 := wr_no10 d a ha
        have i2 := wrj_no10 ds b hb
        rw [ha, hb] at h
        cases h
        split
        · exact i1
        · simp only [List.mem_cons, List.mem_append, not_or]
          exact ⟨i1, by decide, i2⟩
end
structure LE where
  l : Str
  t : Str
  m : Str
  ds : List PyData
  x : Tx
structure LE.ok (e : LE) : Prop where
  l : 10 ∉ e.l.cps.toList
  t : isWordT e.t.cps.toList = true
  m : 10 ∉ e.m.cps.toList
  wr : DataM.wr (.tuple e.ds) = some e.x
  oi : okI (.tuple e.ds)
  dp : dep (.tuple e.ds) ≤ 10
  ll : e.l.length ≤ 20
  lm : e.m.length ≤ 20
  lx : e.x.length ≤ 4000
def r1 (e : LE) : Tx := 62 :: 32 :: e.l.cps.toList
def r2 (e : LE) : Tx := 61 :: 32 :: (e.t.cps.toList ++ 32 :: e.m.cps.toList)
def r3 (e : LE) : Tx := 35 :: 32 :: e.x
def rowsL : List LE → List Tx
  | [] => []
  | e :: es => r1 e :: r2 e :: r3 e :: rowsL es
def LE.en (e : LE) : EnD := .pair (.str e.l) (some (.str e.t, .str e.m, .tuple e.ds))
theorem LE.enL {e : LE} (h : e.ok) : K66.enL e.en = some [r1 e, r2 e, r3 e] := by
  have h1 : isText (.str e.l) = true := by
    show (!decide (10 ∈ e.l.cps.toList)) = true
    rw [decide_eq_false h.l]
    rfl
  have h2 : isWord (.str e.t) = true := h.t
  have h3 : isText (.str e.m) = true := by
    show (!decide (10 ∈ e.m.cps.toList)) = true
    rw [decide_eq_false h.m]
    rfl
  have h4 := wr_wrd _ _ 1 h.wr h.oi (by have := h.dp; omega)
  show (if _ then (if _ then (if _ then _ else _) else _) else _) = _
  rw [if_pos h1, if_pos h2, if_pos h3, h4]
  rfl
theorem outs_le : ∀ {es : List LE}, (∀ e ∈ es, e.ok) → outs (es.map LE.en) = some (rowsL es)
  | [], _ => rfl
  | e :: es, h => by
    simp only [List.map_cons, outs]
    rw [LE.enL (h e List.mem_cons_self), outs_le fun q hq => h q (List.mem_cons_of_mem _ hq)]
    rfl
theorem LE.fit {e : LE} (h : e.ok) : EnFit e.en := by
  obtain ⟨f1, f2, _⟩ := wr_fit _ _ h.wr
  have h0 := (word_no h.t).2.2
  have := h.ll
  have := h.lm
  have := h.lx
  have lt := len_l e.t
  refine ⟨(show e.l.length ≤ 1000 by omega), fun k t d he => ?_⟩
  cases he
  refine ⟨(show e.t.length ≤ 1000 by omega), (show e.m.length ≤ 1000 by omega), f1, by omega, fun l hl => ?_⟩
  rw [wr_wrd _ _ 1 h.wr h.oi (by have := h.dp; omega)] at hl
  cases hl
  omega
theorem rows_no {es : List LE} (h : ∀ e ∈ es, e.ok) : ∀ r ∈ rowsL es, 10 ∉ r := by
  induction es with
  | nil => intro r hr; cases hr
  | cons e es ih =>
    have he := h e List.mem_cons_self
    intro r hr
    simp only [rowsL, List.mem_cons] at hr
    rcases hr with rfl | rfl | rfl | hr
    · simp only [r1, List.mem_cons, not_or]
      exact ⟨by decide, by decide, he.l⟩
    · simp only [r2, List.mem_cons, List.mem_append, not_or]
      exact ⟨by decide, by decide, (word_no he.t).1, by decide, he.m⟩
    · simp only [r3, List.mem_cons, not_or]
      exact ⟨by decide, by decide, wr_no10 _ _ he.wr⟩
    · exact ih (fun q hq => h q (List.mem_cons_of_mem _ hq)) r hr
theorem spl_glue : ∀ rows : List Tx, (∀ r ∈ rows, 10 ∉ r) → TL.spl [10] 0 [] (glue rows) = rows ++ [[]]
  | [], _ => rfl
  | r :: rows, h => by
    have e : glue (r :: rows) = r ++ ([10] ++ glue rows) := by simp [glue]
    rw [e, TL.spl_part1 (h r List.mem_cons_self), spl_glue rows fun q hq => h q (List.mem_cons_of_mem _ hq)]
    rfl
theorem rows_glue {es : List LE} (h : ∀ e ∈ es, e.ok) {z : Str} (hz : z.cps.toList = glue (rowsL es)) : rowsT z = rowsL es ++ [[]] := by
  rw [rowsT_eq, hz, spl_glue _ (rows_no h)]
theorem rowsL_len : ∀ es : List LE, (rowsL es).length = 3 * es.length
  | [] => rfl
  | e :: es => by
    simp only [rowsL, List.length_cons, rowsL_len es]
    omega
theorem rowsL_get : ∀ (es : List LE) (k : Nat), (rowsL es)[3 * k]? = es[k]?.map r1 ∧ (rowsL es)[3 * k + 1]? = es[k]?.map r2 ∧ (rowsL es)[3 * k + 2]? = es[k]?.map r3
  | [], k => by simp [rowsL]
  | e :: es, 0 => by simp [rowsL]
  | e :: es, k + 1 => by
    have := rowsL_get es k
    rw [show 3 * (k + 1) = 3 * k + 1 + 1 + 1 by omega]
    simp only [rowsL, List.getElem?_cons_succ]
    exact this
theorem pt_le {es : List LE} (h : ∀ e ∈ es, e.ok) (j : Nat) (hj : j < 3 * es.length) : ∃ d, pt (rowsL es ++ [[]]) j = some d := by
  have hl := rowsL_len es
  have hk : j / 3 < es.length := by omega
  obtain ⟨g0, g1, g2⟩ := rowsL_get es (j / 3)
  rw [List.getElem?_eq_getElem hk] at g0 g1 g2
  have he := h _ (List.getElem_mem hk)
  generalize es[j / 3] = e at g0 g1 g2 he
  unfold pt
  rw [List.getElem?_append_left (by omega)]
  rcases (show j % 3 = 0 ∨ j % 3 = 1 ∨ j % 3 = 2 by omega) with em | em | em
  · rw [show j = 3 * (j / 3) by omega, g0, show (3 * (j / 3)) % 3 = 0 by omega]
    exact ⟨_, rd0 rfl⟩
  · rw [show j = 3 * (j / 3) + 1 by omega, g1, show (3 * (j / 3) + 1) % 3 = 1 by omega]
    refine ⟨.tuple [.str ⟨e.t.cps.toList.toArray⟩, .str ⟨e.m.cps.toList.toArray⟩], ?_⟩
    show rdPart (r2 e) 1 = _
    rw [rd1 rfl]
    have hp : TL.par [32] [] ((r2 e).drop 2) = some (e.t.cps.toList, e.m.cps.toList) := by
      show TL.par [32] [] (e.t.cps.toList ++ ([32] ++ e.m.cps.toList)) = _
      rw [TL.par_part1 (word_no he.t).2.1]
      rfl
    rw [hp]
    exact if_pos he.t
  · rw [show j = 3 * (j / 3) + 2 by omega, g2, show (3 * (j / 3) + 2) % 3 = 2 by omega]
    refine ⟨.tuple e.ds, ?_⟩
    show rdPart (r3 e) 2 = _
    rw [rd2 rfl]
    rw [show readT ((r3 e).drop 2) = some (.tuple e.ds) from wr_read he.wr he.oi (by have := he.dp; omega)]
theorem dia_le {es : List LE} (h : ∀ e ∈ es, e.ok) {z : Str} (hz : z.cps.toList = glue (rowsL es)) : ∃ ps, ps.length = 3 * es.length ∧ Dia (rowsT z) (.inr ps) := by
  have hl := rowsL_len es
  rw [rows_glue h hz]
  obtain ⟨ps, h1, h2⟩ := pts_ex (rowsL es ++ [[]]) (3 * es.length) fun j hj => pt_le h j hj
  refine ⟨ps, h1, .good ps ?_ h2 ⟨by simp, ?_⟩⟩
  · rw [List.length_append, hl, h1]
    rfl
  · rw [List.length_append, hl]
    simp
theorem pt_siz {z : Str} (hz : z.length ≤ 300000) (j : Nat) (d : PyData) (h : pt (rowsT z) j = some d) : siz d ≤ 800000 := by
  rcases (show j % 3 = 0 ∨ j % 3 = 1 ∨ j % 3 = 2 by omega) with em | em | em
  · obtain ⟨s, rfl⟩ := pt0 h em
    simp [siz]
  · obtain ⟨a, b, rfl⟩ := pt1 h em
    simp [siz, sizs]
  · unfold pt at h
    rw [em] at h
    obtain ⟨r, h1, h2⟩ := Option.bind_eq_some_iff.mp h
    have hr := rows_len (List.mem_of_getElem? h1)
    by_cases hm : r.take 2 = mark 2
    · rw [rd2 hm] at h2
      cases hp : readT (r.drop 2) with
      | none =>
        rw [hp] at h2
        cases h2
      | some d2 =>
        rw [hp] at h2
        have hw := read_wr hp
        obtain ⟨_, f2, _⟩ := wr_fit _ _ hw
        rw [List.length_drop] at f2
        cases d2 <;> first | (cases h2; omega) | cases h2
    · rw [rdN hm] at h2
      cases h2
theorem glue_len (es : List LE) (h : ∀ e ∈ es, e.ok) : (glue (rowsL es)).length ≤ 5000 * es.length := by
  induction es with
  | nil => simp [glue, rowsL]
  | cons e es ih =>
    have he := h e List.mem_cons_self
    have i := ih fun q hq => h q (List.mem_cons_of_mem _ hq)
    have h0 := (word_no he.t).2.2
    have := he.ll
    have := he.lm
    have := he.lx
    have ll := len_l e.l
    have lm := len_l e.m
    have e1 : glue (rowsL (e :: es)) = (r1 e ++ [10]) ++ ((r2 e ++ [10]) ++ ((r3 e ++ [10]) ++ glue (rowsL es))) := by simp [glue, rowsL]
    rw [e1]
    simp only [List.length_append, List.length_cons, List.length_nil, r1, r2, r3]
    omega
theorem glue_snoc (es : List LE) (e : LE) : glue (rowsL (es ++ [e])) = glue (rowsL es) ++ ((r1 e ++ [10]) ++ ((r2 e ++ [10]) ++ (r3 e ++ [10]))) := by
  induction es with
  | nil => simp [glue, rowsL]
  | cons a es ih =>
    have e1 : ∀ es, glue (rowsL (a :: es)) = (r1 a ++ [10]) ++ ((r2 a ++ [10]) ++ ((r3 a ++ [10]) ++ glue (rowsL es))) := fun es => by simp [glue, rowsL]
    rw [List.cons_append, e1, e1, ih]
    simp only [List.append_assoc]
end K66

set_option exponentiation.threshold 256
set_option Elab.async false
set_option linter.all false
set_option maxRecDepth 100000
set_option maxHeartbeats 4000000
set_option exponentiation.threshold 10
namespace K66
open PySem PySem.Spec PyProof.Rows L2 Lay DataM
section
variable {P : Program} {w : World} {K : PySem.W.Frag} {mg : Str → Option Value} {base : Heap} {CM CR CP CK : Addr}
structure Nl (H H' : Hp) : Prop where
  keep : ∀ a o, H a = some o → (∀ xs, o ≠ .lst xs) → H' a = some o
  txt : Txt H H'
theorem Nl.refl (H : Hp) : Nl H H := ⟨fun _ _ h _ => h, Txt.refl H⟩
theorem Nl.trans {H H1 H2 : Hp} (a : Nl H H1) (b : Nl H1 H2) : Nl H H2 := ⟨fun x o h n => b.keep x o (a.keep x o h n) n, a.txt.trans b.txt⟩
theorem Nl.same {H H' : Hp} (e : Same H H') : Nl H H' := ⟨fun a o h _ => e a o h, Txt.same e⟩
theorem Nl.but {H H' : Hp} {D : Addr} {l : List V} (hD : H D = some (.lst l)) (b : But D H H') (t : Txt H H') : Nl H H' := ⟨fun a o h n => b a o (fun e => by
  subst e
  rw [hD] at h
  cases h
  exact n l rfl) h, t⟩
structure EnG (K : PySem.W.Frag) (CP : Addr) (H : Hp) (T : Addr) (e : LE) : Prop where
  ex : ∃ p dx c, H T = some (.tup [.str e.l, .ref p]) ∧ H p = some (.ins CP dx (rpFs (.str e.t) (.str e.m) c)) ∧ Dp K H c (.tuple e.ds) ∧ Lay.fz (.tuple e.ds) = true
theorem EnG.nl {H H' : Hp} {T : Addr} {e : LE} (n : Nl H H') (g : EnG K CP H T e) : EnG K CP H' T e := by
  obtain ⟨p, dx, c, h1, h2, h3, h4⟩ := g.ex
  exact ⟨p, dx, c, n.keep _ _ h1 (fun _ h => nomatch h), n.keep _ _ h2 (fun _ h => nomatch h), Dp.txt n.txt _ _ h4 h3, h4⟩
theorem EnG.env {H : Hp} {T : Addr} {e : LE} (g : EnG K CP H T e) : EnV K CP H (.ref T) e.en := by
  obtain ⟨p, dx, c, h1, h2, h3, h4⟩ := g.ex
  exact .pair (SqT.of h1) (.str _) (.ins h2 (.str _) (.str _) h3)
theorem envs {H : Hp} : ∀ {ts : List Addr} {es : List LE}, Paired (EnG K CP H) ts es → Paired (EnV K CP H) (ts.map V.ref) (es.map LE.en)
  | _, _, .nil => .nil
  | _, _, .cons h t => .cons h.env (envs t)
theorem told0_yes {H : Hp} {Q : VK} {E : XK} {D : Addr} {ts : List Addr} {es : List LE} (hD : H D = some (.lst (ts.map V.ref))) (hp : Paired (EnG K CP H) ts es) (hok : ∀ e ∈ es, e.ok) (hl : es.length ≤ 3)
    (q : ∀ H', Same H H' → Q (.str ⟨(glue (rowsL es)).toArray⟩) H') : spToldD K CM CP [.int 0, .ref D] H Q E :=
  ⟨0, _, rfl, .inl ⟨rfl, .inr ⟨D, _, _, rfl, SqL.of hD, envs hp, fun x hx => by
    obtain ⟨e, he, rfl⟩ := List.mem_map.mp hx
    exact LE.fit (hok e he), by rw [List.length_map]; omega, (fun rows hr H' e => by
    rw [outs_le hok] at hr
    cases hr
    exact q H' e), fun hn => by
    rw [outs_le hok] at hn
    cases hn⟩⟩⟩
theorem told0_no {H : Hp} {Q : VK} {E : XK} {D : Addr} {vs : List V} {es : List EnD} (hD : H D = some (.lst vs)) (hp : Paired (EnV K CP H) vs es) (hfit : ∀ e ∈ es, EnFit e) (hl : es.length ≤ 10) (hn : outs es = none)
    (q : ∀ (m : Str) H', Same H H' → m.length ≤ 2000 → Q (.str (Str.ofString "<" ++ m ++ Str.ofString ">")) H') : spToldD K CM CP [.int 0, .ref D] H Q E :=
  ⟨0, _, rfl, .inl ⟨rfl, .inr ⟨D, _, _, rfl, SqL.of hD, hp, hfit, hl, (fun rows hr => by
    rw [hn] at hr
    cases hr), fun _ p m H' e q1 q2 => ⟨rfl, p, m, rfl, q1, by omega, q m H' e (by omega)⟩⟩⟩⟩
theorem told0_ty {H : Hp} {Q : VK} {E : XK} {v : V} {n : String} (hv : TyN K H v n) (hn : n ≠ "list") (q : ∀ (m : Str) H', Same H H' → m.length ≤ 2000 → Q (.str (Str.ofString "<" ++ m ++ Str.ofString ">")) H') : spToldD K CM CP [.int 0, v] H Q E :=
  ⟨0, _, rfl, .inl ⟨rfl, .inl ⟨v, n, rfl, hv, hn, fun p m H' e q1 q2 => ⟨rfl, p, m, rfl, q1, by omega, q m H' e (by omega)⟩⟩⟩⟩
theorem Dia.le {rows : List Tx} {r : Sum Nat (List PyData)} {n : Nat} (h : Dia rows r) (e : r = .inl n) : n ≤ rows.length := by
  subst e
  cases h <;> omega
theorem told1_dia {H : Hp} {Q : VK} {E : XK} {z : Str} {r : Sum Nat (List PyData)} (hz : z.length ≤ 300000) (hd : Dia (rowsT z) r) (qn : ∀ n, r = .inl n → ∀ H', Same H H' → Q (.str (tolds n)) H')
    (q : ∀ ps, r = .inr ps → ∀ D es H', Same H H' → H' D = some (.lst es) → 3 * es.length = ps.length → (∀ k v, es[k]? = some v → GE K CP H' ps k v) → Q (.ref D) H') : spToldD K CM CP [.int 1, .str z] H Q E :=
  ⟨1, _, rfl, .inr ⟨rfl, .inr ⟨z, r, rfl, hz, hd, fun n hn p H' e q1 => ⟨rfl, p, _, rfl, q1, by
    have h0 := hd.le hn
    have h1 := rows_cnt z
    have ln : (Str.ofString (toString ((n : Nat) : Int))).length ≤ 9 := by
      rw [← len_l]
      have := nats_len n 9 (by decide) (by omega)
      rw [← digs_nat] at this
      exact this
    unfold rowMsg
    rw [app_len]
    have : (Str.ofString "row ").length = 4 := rfl
    omega, qn n hn H' e⟩, q⟩⟩⟩
theorem told1_no {H : Hp} {Q : VK} {E : XK} {v : V} {d : PyData} (hv : Dp K H v d) (hs : isStrD d = false) (q : ∀ H', Same H H' → Q (.str (Str.ofString "<" ++ Str.ofString "no text" ++ Str.ofString ">")) H') : spToldD K CM CP [.int 1, v] H Q E :=
  ⟨1, _, rfl, .inr ⟨rfl, .inl ⟨v, d, rfl, hv, hs, fun p H' e q1 => ⟨rfl, p, _, rfl, q1, by decide, q H' e⟩⟩⟩⟩
end
end K66

set_option exponentiation.threshold 256
set_option Elab.async false
set_option linter.all false
set_option maxRecDepth 100000
set_option maxHeartbeats 4000000
set_option exponentiation.threshold 10
namespace K66
open PySem PySem.Spec PyProof.Rows L2 Lay DataM
local macro_rules | `(tactic| walk_at "1") => `(tactic| first
  | with_reducible refine w_seq ?_
  | ((with_reducible refine w_var (v := ?vv) ?hv ?_); (case hv => rfl))
  | with_reducible refine w_c ?_
  | with_reducible refine w_m1 ?_
  | with_reducible refine w_isstr ?_
  | with_reducible refine w_bm0 ?_
  | with_reducible refine w_bm ?_
  | with_reducible refine w_gcons ?_
  | with_reducible refine w_gnil ?_
  | ((with_reducible refine w_ty (xs := ?vv) ?hv ?_); (case hv => walk_at "hx"))
  | ((with_reducible refine w_gtup (xs := ?vv) ?hv ?hl ?_); (case hv => walk_at "hx"); (case hl => rfl))
  | with_reducible refine w_for1 ?_
  | with_reducible refine w_for2 ?_
  | with_reducible refine w_for3 ?_
  | with_reducible refine w_forA ?_
  | with_reducible refine w_forE ?_
  | ((with_reducible refine w_aug (x := ?vv) ?hv ?_); (case hv => rfl))
  | with_reducible refine w_op ?_
  | with_reducible refine w_cb ?_
  | with_reducible refine w_acons ?_
  | with_reducible refine w_anil ?_
  | with_reducible refine w_set ?_
  | with_reducible refine w_if ?_
  | with_reducible refine w_test ?_
  | with_reducible refine w_tB ?_
  | with_reducible refine w_bl ?_
  | with_reducible refine w_and ?_
  | with_reducible refine w_or ?_
  | with_reducible refine w_not ?_
  | with_reducible refine w_iteT ?_
  | with_reducible refine w_iteF ?_
  | with_reducible refine w_ret ?_
  | with_reducible refine w_next ?_
  | with_reducible refine w_drop ?_
  | with_reducible refine w_call ?_
  | with_reducible refine w_ifx ?_
  | with_reducible refine w_andV ?_
  | with_reducible refine w_orV ?_
  | with_reducible refine w_notV ?_
  | with_reducible refine w_sl ?_
  | with_reducible refine w_nopart ?_
  | with_reducible refine w_part ?_
  | with_reducible refine w_exint ?_
  | with_reducible refine w_chain ?_
  | with_reducible refine w_par ?_
  | with_reducible refine w_two ?_
  | with_reducible refine w_par3 ?_
  | with_reducible refine w_three ?_
  | with_reducible refine w_asg ?_
  | with_reducible refine w_gset ?_
  | with_reducible refine w_retN ?_
  | with_reducible refine w_brk ?_
  | with_reducible refine w_cont ?_
  | with_reducible refine w_un ?_
  | with_reducible refine w_neg ?_
  | with_reducible refine w_callS ?_
  | with_reducible refine w_tup0 ?_
  | with_reducible refine w_lst0 ?_
  | with_reducible refine w_fld0 ?_
  | with_reducible refine w_sfld ?_
  | with_reducible refine w_gsub ?_
  | with_reducible refine w_iAny ?_
  | with_reducible refine w_iR1 ?_
  | with_reducible refine w_make ?_
  | with_reducible refine w_meth ?_
  | with_reducible refine w_mk1 ?_
  | with_reducible refine w_LZ ?_)
local macro_rules | `(tactic| walk_at "2") => `(tactic| first
  | with_reducible refine w_add_int ?_
  | with_reducible refine w_sub ?_
  | ((with_reducible refine w_add_str ?hl ?_); (case hl => walk_at "len"))
  | ((with_reducible refine w_mod ?hl ?_); (case hl => first | decide | omega))
  | ((with_reducible refine w_fdiv ?h1 ?h2 ?_); (case h1 => first | decide | omega); (case h2 => first | decide | omega))
  | ((with_reducible refine w_mulR ?h1 ?h2 ?_); (case h1 => first | decide | omega); (case h2 => first | decide | omega))
  | ((with_reducible refine w_mulL ?h1 ?h2 ?_); (case h1 => first | decide | omega); (case h2 => first | decide | omega))
  | with_reducible refine w_iadd_int ?_
  | ((with_reducible refine w_iadd_str ?hl ?_); (case hl => walk_at "len"))
  | ((with_reducible refine w_mk ?hl ?_); (case hl => walk_at "len"))
  | with_reducible refine w_lt_int ?_
  | with_reducible refine w_lt_str ?_
  | with_reducible refine w_le_int ?_
  | with_reducible refine w_le_str ?_
  | with_reducible refine w_gt ?_
  | with_reducible refine w_ge ?_
  | with_reducible refine w_eq_int ?_
  | with_reducible refine w_eq_str ?_
  | with_reducible refine w_ne_int ?_
  | with_reducible refine w_ne_str ?_
  | ((with_reducible refine w_isInt (d := ?vd) ?hd ?_); (case hd => walk_at "dp"))
  | ((with_reducible refine w_isBool (d := ?vd) ?hd ?_); (case hd => walk_at "dp"))
  | ((with_reducible refine w_isStr (d := ?vd) ?hd ?_); (case hd => walk_at "dp"))
  | ((with_reducible refine w_isTup (d := ?vd) ?hd ?_); (case hd => walk_at "dp"))
  | ((with_reducible refine w_isLst (d := ?vd) ?hd ?_); (case hd => walk_at "dp"))
  | refine w_in_str ?_
  | refine w_nin_str ?_
  | ((with_reducible refine w_ixL (xs := ?vv) (y := ?vr) ?h ?ha ?_); (case h => walk_at "hx"); (case ha => rfl))
  | with_reducible refine w_is ?_
  | with_reducible refine w_isnot ?_
  | ((with_reducible refine w_len_str ?hl ?_); (case hl => walk_at "len"))
  | ((with_reducible refine w_len (xs := ?vv) ?hl ?_); (case hl => walk_at "hx"))
  | with_reducible refine w_int_int ?_
  | with_reducible refine w_str_str ?_
  | with_reducible refine w_abs ?_
  | ((with_reducible refine w_sl_str ?hl ?_); (case hl => walk_at "len"))
  | ((with_reducible refine w_fldAt (C := ?vC) (dx := ?vdx) (fs := ?vfs) (v := ?vv) ?h1 ?h2 ?h3 ?h4 ?_); (case h1 => walk_at "hx"); (case h2 => assumption); (case h3 => assumption); (case h4 => rfl))
  | ((with_reducible refine w_methAt (dx := ?vdx) (fs := ?vfs) ?h1 ?h2 ?_); (case h1 => walk_at "hx"); (case h2 => rfl))
  | ((with_reducible refine w_iteP ?h1 ?_); (case h1 => walk_at "yes"))
  | ((with_reducible refine w_iteN ?h1 ?_); (case h1 => walk_at "no")))
local macro_rules | `(tactic| walk_at "yes") => `(tactic| first | assumption | ((with_reducible refine bnotT ?_); walk_at "no") | (refine decide_eq_true ?_; first | assumption | omega) | exact rfl)
local macro_rules | `(tactic| walk_at "no") => `(tactic| first | assumption | ((with_reducible refine bnotF ?_); walk_at "yes") | (refine decide_eq_false ?_; first | assumption | omega) | exact rfl)
local macro_rules | `(tactic| walk_at "len") => `(tactic| first | assumption | exact Nat.le_of_ble_eq_true rfl | omega | decide | (simp only [List.length_append, List.length_cons, List.length_nil, List.length_map]; omega) | (simp only [app_len]; omega))
local macro_rules | `(tactic| walk_at "ne") => `(tactic| first | assumption | (refine Ne.symm ?_; assumption))
local macro_rules | `(tactic| walk_at "hx") => `(tactic| first
  | assumption
  | exact upd_same
  | ((with_reducible refine sqa_l ?_); walk_at "hx")
  | ((with_reducible refine sqa_t ?_); walk_at "hx")
  | ((with_reducible refine SqL.of ?_); walk_at "hx")
  | ((with_reducible refine SqT.of ?_); walk_at "hx")
  | ((with_reducible refine at_same (by assumption) ?_); walk_at "hx")
  | ((with_reducible refine at_but (by assumption) ?hne ?_); (case hne => walk_at "ne"); walk_at "hx")
  | ((with_reducible refine Txt.tup (by assumption) _ _ ?_); walk_at "hx")
  | ((with_reducible refine Same.seq (by assumption) ?_); walk_at "hx")
  | ((with_reducible refine Same.seqT (by assumption) ?_); walk_at "hx")
  | ((with_reducible refine Dp.same (by assumption) _ _ ?_); walk_at "hx")
  | ((with_reducible refine DpAll.same (by assumption) _ _ ?_); walk_at "hx"))
local macro_rules | `(tactic| walk_at "go") => `(tactic| repeat (first | walk_at "1" | walk_at "2"))
local macro_rules | `(tactic| walk_at "dp") => `(tactic| first | exact .int _ | exact .str _ | exact .bl _ | exact .non | walk_at "hx")

section
variable {P : Program} {w : World} {K : PySem.W.Frag} {mg : Str → Option Value} {base : Heap} {CM CR CP CK T0 : Addr}
theorem w_fits {σ : L2.St} {n : Nat} {z : Str} {H : Hp} {Q : VK} (hv : σ[n]? = some (some (.str z))) (hz : z.length ≤ 300000) (q : ∀ H', Same H H' → Q (.bl true) H') :
    tCall (spFits K CP) [] E0 (tCons (tCall (spToldD K CM CP) [] E0 (tCons (tC (V.int 1)) (tCons (tVar n) tNil))) (tCons (tCall (spDue K) [] E0 (tCons (tVar n) tNil)) tNil)) σ H Q := by
  have hrow := rows_cnt z
  obtain ⟨r, hd⟩ := dia_ex (rowsT z) (rows_pos z)
  walk_at "go"
  refine w_var hv ?_
  walk_at "go"
  refine told1_dia hz hd (fun n1 hn H1 e1 => ?_) (fun ps hps D es H1 e1 hD hl hge => ?_)
  · walk_at "go"
    refine w_var hv ?_
    walk_at "go"
    have hle := hd.le hn
    refine ⟨z, r, rfl, hz, hd, fun n2 hn2 H2 e2 => ?_, fun ps hps => by rw [hn] at hps; cases hps⟩
    rw [hn] at hn2
    cases hn2
    walk_at "go"
    exact .inl ⟨n1, rfl, by omega, fun H3 e3 => q H3 ((e1.trans e2).trans e3)⟩
  · walk_at "go"
    refine w_var hv ?_
    walk_at "go"
    refine ⟨z, r, rfl, hz, hd, (fun n2 hn2 => by rw [hps] at hn2; cases hn2), fun ps2 hps2 D2 es2 H2 e2 hD2 hl2 hde => ?_⟩
    rw [hps] at hps2
    cases hps2
    have hps3 : ps.length ≤ (rowsT z).length := by
      rw [hps] at hd
      cases hd
      omega
    have hpp : ∀ (j : Nat) d, ps[j]? = some d → pt (rowsT z) j = some d := by
      rw [hps] at hd
      cases hd
      assumption
    walk_at "go"
    exact .inr ⟨D, D2, es, es2, ps, rowsT z, rfl, e2 _ _ hD, hD2, by omega, by omega, fun k v hk => (hge k v hk).same e2, hde, hpp, fun j d => pt_siz hz j d, fun H3 e3 => q H3 ((e1.trans e2).trans e3)⟩
end
end K66

set_option exponentiation.threshold 256
set_option Elab.async false
set_option linter.all false
set_option maxRecDepth 100000
set_option maxHeartbeats 4000000
set_option exponentiation.threshold 10
namespace K66
open PySem PySem.Spec PyProof.Rows L2 Lay DataM
local macro_rules | `(tactic| walk_at "1") => `(tactic| first
  | with_reducible refine w_seq ?_
  | ((with_reducible refine w_var (v := ?vv) ?hv ?_); (case hv => rfl))
  | with_reducible refine w_c ?_
  | with_reducible refine w_m1 ?_
  | with_reducible refine w_isstr ?_
  | with_reducible refine w_bm0 ?_
  | with_reducible refine w_bm ?_
  | with_reducible refine w_gcons ?_
  | with_reducible refine w_gnil ?_
  | ((with_reducible refine w_ty (xs := ?vv) ?hv ?_); (case hv => walk_at "hx"))
  | ((with_reducible refine w_gtup (xs := ?vv) ?hv ?hl ?_); (case hv => walk_at "hx"); (case hl => rfl))
  | with_reducible refine w_for1 ?_
  | with_reducible refine w_for2 ?_
  | with_reducible refine w_for3 ?_
  | with_reducible refine w_forA ?_
  | with_reducible refine w_forE ?_
  | ((with_reducible refine w_aug (x := ?vv) ?hv ?_); (case hv => rfl))
  | with_reducible refine w_op ?_
  | with_reducible refine w_cb ?_
  | with_reducible refine w_acons ?_
  | with_reducible refine w_anil ?_
  | with_reducible refine w_set ?_
  | with_reducible refine w_if ?_
  | with_reducible refine w_test ?_
  | with_reducible refine w_tB ?_
  | with_reducible refine w_bl ?_
  | with_reducible refine w_and ?_
  | with_reducible refine w_or ?_
  | with_reducible refine w_not ?_
  | with_reducible refine w_iteT ?_
  | with_reducible refine w_iteF ?_
  | with_reducible refine w_ret ?_
  | with_reducible refine w_next ?_
  | with_reducible refine w_drop ?_
  | with_reducible refine w_call ?_
  | with_reducible refine w_ifx ?_
  | with_reducible refine w_andV ?_
  | with_reducible refine w_orV ?_
  | with_reducible refine w_notV ?_
  | with_reducible refine w_sl ?_
  | with_reducible refine w_nopart ?_
  | with_reducible refine w_part ?_
  | with_reducible refine w_exint ?_
  | with_reducible refine w_chain ?_
  | with_reducible refine w_par ?_
  | with_reducible refine w_two ?_
  | with_reducible refine w_par3 ?_
  | with_reducible refine w_three ?_
  | with_reducible refine w_asg ?_
  | with_reducible refine w_gset ?_
  | with_reducible refine w_retN ?_
  | with_reducible refine w_brk ?_
  | with_reducible refine w_cont ?_
  | with_reducible refine w_un ?_
  | with_reducible refine w_neg ?_
  | with_reducible refine w_callS ?_
  | with_reducible refine w_tup0 ?_
  | with_reducible refine w_lst0 ?_
  | with_reducible refine w_fld0 ?_
  | with_reducible refine w_sfld ?_
  | with_reducible refine w_gsub ?_
  | with_reducible refine w_iAny ?_
  | with_reducible refine w_iR1 ?_
  | with_reducible refine w_make ?_
  | with_reducible refine w_makeD ?_
  | with_reducible refine w_meth ?_
  | with_reducible refine w_mk1 ?_
  | with_reducible refine w_LZ ?_)
local macro_rules | `(tactic| walk_at "2") => `(tactic| first
  | with_reducible refine w_add_int ?_
  | with_reducible refine w_sub ?_
  | ((with_reducible refine w_add_str ?hl ?_); (case hl => walk_at "len"))
  | ((with_reducible refine w_mod ?hl ?_); (case hl => first | decide | omega))
  | ((with_reducible refine w_fdiv ?h1 ?h2 ?_); (case h1 => first | decide | omega); (case h2 => first | decide | omega))
  | ((with_reducible refine w_mulR ?h1 ?h2 ?_); (case h1 => first | decide | omega); (case h2 => first | decide | omega))
  | ((with_reducible refine w_mulL ?h1 ?h2 ?_); (case h1 => first | decide | omega); (case h2 => first | decide | omega))
  | with_reducible refine w_iadd_int ?_
  | ((with_reducible refine w_iadd_str ?hl ?_); (case hl => walk_at "len"))
  | ((with_reducible refine w_mk ?hl ?_); (case hl => walk_at "len"))
  | with_reducible refine w_lt_int ?_
  | with_reducible refine w_lt_str ?_
  | with_reducible refine w_le_int ?_
  | with_reducible refine w_le_str ?_
  | with_reducible refine w_gt ?_
  | with_reducible refine w_ge ?_
  | with_reducible refine w_eq_int ?_
  | with_reducible refine w_eq_str ?_
  | with_reducible refine w_ne_int ?_
  | with_reducible refine w_ne_str ?_
  | ((with_reducible refine w_isInt (d := ?vd) ?hd ?_); (case hd => walk_at "dp"))
  | ((with_reducible refine w_isBool (d := ?vd) ?hd ?_); (case hd => walk_at "dp"))
  | ((with_reducible refine w_isStr (d := ?vd) ?hd ?_); (case hd => walk_at "dp"))
  | ((with_reducible refine w_isTup (d := ?vd) ?hd ?_); (case hd => walk_at "dp"))
  | ((with_reducible refine w_isLst (d := ?vd) ?hd ?_); (case hd => walk_at "dp"))
  | refine w_in_str ?_
  | refine w_nin_str ?_
  | ((with_reducible refine w_ixL (xs := ?vv) (y := ?vr) ?h ?ha ?_); (case h => walk_at "hx"); (case ha => rfl))
  | with_reducible refine w_is ?_
  | with_reducible refine w_isnot ?_
  | ((with_reducible refine w_len_str ?hl ?_); (case hl => walk_at "len"))
  | ((with_reducible refine w_len (xs := ?vv) ?hl ?_); (case hl => walk_at "hx"))
  | with_reducible refine w_int_int ?_
  | with_reducible refine w_str_str ?_
  | with_reducible refine w_abs ?_
  | ((with_reducible refine w_sl_str ?hl ?_); (case hl => walk_at "len"))
  | ((with_reducible refine w_fldAt (C := ?vC) (dx := ?vdx) (fs := ?vfs) (v := ?vv) ?h1 ?h2 ?h3 ?h4 ?_); (case h1 => walk_at "hx"); (case h2 => assumption); (case h3 => assumption); (case h4 => rfl))
  | ((with_reducible refine w_methAt (dx := ?vdx) (fs := ?vfs) ?h1 ?h2 ?_); (case h1 => walk_at "hx"); (case h2 => rfl))
  | ((with_reducible refine w_iteP ?h1 ?_); (case h1 => walk_at "yes"))
  | ((with_reducible refine w_iteN ?h1 ?_); (case h1 => walk_at "no")))
local macro_rules | `(tactic| walk_at "yes") => `(tactic| first | assumption | ((with_reducible refine bnotT ?_); walk_at "no") | (refine decide_eq_true ?_; first | assumption | omega) | exact rfl)
local macro_rules | `(tactic| walk_at "no") => `(tactic| first | assumption | ((with_reducible refine bnotF ?_); walk_at "yes") | (refine decide_eq_false ?_; first | assumption | omega) | exact rfl)
local macro_rules | `(tactic| walk_at "len") => `(tactic| first | assumption | exact Nat.le_of_ble_eq_true rfl | omega | decide | (simp only [List.length_append, List.length_cons, List.length_nil, List.length_map]; omega) | (simp only [app_len]; omega))
local macro_rules | `(tactic| walk_at "ne") => `(tactic| first | assumption | (refine Ne.symm ?_; assumption))
local macro_rules | `(tactic| walk_at "hx") => `(tactic| first
  | assumption
  | exact upd_same
  | ((with_reducible refine sqa_l ?_); walk_at "hx")
  | ((with_reducible refine sqa_t ?_); walk_at "hx")
  | ((with_reducible refine SqL.of ?_); walk_at "hx")
  | ((with_reducible refine SqT.of ?_); walk_at "hx")
  | ((with_reducible refine at_same (by assumption) ?_); walk_at "hx")
  | ((with_reducible refine at_but (by assumption) ?hne ?_); (case hne => walk_at "ne"); walk_at "hx")
  | ((with_reducible refine Txt.tup (by assumption) _ _ ?_); walk_at "hx")
  | ((with_reducible refine Same.seq (by assumption) ?_); walk_at "hx")
  | ((with_reducible refine Same.seqT (by assumption) ?_); walk_at "hx")
  | ((with_reducible refine Dp.same (by assumption) _ _ ?_); walk_at "hx")
  | ((with_reducible refine DpAll.same (by assumption) _ _ ?_); walk_at "hx"))
local macro_rules | `(tactic| walk_at "go") => `(tactic| repeat (first | walk_at "1" | walk_at "2"))
local macro_rules | `(tactic| walk_at "dp") => `(tactic| first | exact .int _ | exact .str _ | exact .bl _ | exact .non | walk_at "hx")

section
variable {P : Program} {w : World} {K : PySem.W.Frag} {mg : Str → Option Value} {base : Heap} {CM CR CP CK T0 : Addr}
def S19 (σ : L2.St) : Prop := ∃ a0 a1 a2 a3 a4 a5 a6 a7 a8 a9 a10 a11 a12 a13 a14 a15 a16 a17 a18, σ = [a0, a1, a2, a3, a4, a5, a6, a7, a8, a9, a10, a11, a12, a13, a14, a15, a16, a17, a18]
theorem mk_rp {H1 : Hp} {k t d : V} {Q : Addr → Hp → Prop} (q : ∀ a dx H2, Same H1 H2 → H1 a = none → H2 a = some (.ins CP dx (rpFs k t d)) → Q a H2) :
    ∀ a dx H2, H1 a = none → H2 a = some (.ins CP dx []) → Same H1 H2 → spRpI K CP [.ref a, k, t, d] H2 (fun v H3 => v = .non ∧ Q a H3) E0 := fun a dx H2 n h e =>
  ⟨a, dx, k, t, d, rfl, h, fun H3 b t3 h3 => ⟨rfl, q a dx H3 (same_but e b n) n h3⟩⟩
theorem cut_lt (m : Str) : cutS (Str.ofString "<" ++ m ++ Str.ofString ">") none (some 1) = Str.ofString "<" := str_ext (by
  rw [show (1 : Int) = ((1 : Nat) : Int) from rfl, cut_hi, app_l, app_l]
  rfl)
theorem shaped_of {d : PyData} (h1 : d.canLay0 = true) (h2 : d.depth ≤ 64) : SeqAt.shaped d = true := by
  unfold SeqAt.shaped
  rw [h1, decide_eq_true h2]
  rfl
theorem same3 {H : Hp} {p p2 : Addr} {x : Str} (h1 : H p = some (.lst [.str x, .str x, .str x])) (h2 : H p2 = some (.lst [.str x, .str x, .str x])) (hx : ∀ c ∈ x.cps.toList, c < 1114112) :
    ∃ d, Dp K H (.ref p) d ∧ Dp K H (.ref p2) d ∧ SeqAt.shaped d = true ∧ PyData.eqv d d = true := by
  have hc : (PyData.str x).canLay0 = true := by
    show PyData.strOk x = true
    unfold PyData.strOk
    rw [← Array.all_toList, List.all_eq_true]
    exact fun c hc => decide_eq_true (hx c hc)
  refine ⟨.list [.str x, .str x, .str x], .lst (SqL.of h1) (.cons (.str _) (.cons (.str _) (.cons (.str _) .nil))), .lst (SqL.of h2) (.cons (.str _) (.cons (.str _) (.cons (.str _) .nil))), ?_, ?_⟩
  · exact shaped_of (by simp only [PyData.canLay0, PyData.canLayAll0]; exact (by rw [show PyData.strOk x = true from hc]; rfl)) (by simp [PyData.depth, PyData.depthAll])
  · simp [PyData.eqv, PyData.eqvAll]
def enG : EnD := .pair (.str "") (some (.str "done", .str "", .tuple []))
def enBs : List EnD := [.bad, .bad, .bad, .pair .none (some (.str "a", .str "", .tuple [])), .pair (.str "a\n") (some (.str "a", .str "", .tuple [])), .pair (.str "") none, .pair (.str "") (some (.str "A", .str "", .tuple [])),
  .pair (.str "") (some (.str "a", .none, .tuple [])), .pair (.str "") (some (.str "a", .str "\n", .tuple [])), .pair (.str "") (some (.str "a", .str "", .list [])), .pair (.str "") (some (.str "a", .str "", .tuple [.none]))]
theorem wrd_nil : wrd (.tuple []) 1 = some [91, 93] := by
  simp only [wrd, wrdj]
  rfl
theorem wrd_non : wrd (.tuple [.none]) 1 = none := by
  simp only [wrd, wrdj]
  rfl
theorem wrd_lst : wrd (.list []) 1 = none := by
  first | rfl | simp only [wrd]
theorem fit_of {x k t d : PyData} (h1 : shB x) (h2 : shB k) (h3 : shB t) (h4 : fitS d ∧ siz d ≤ 100000 ∧ ∀ l, wrd d 1 = some l → l.length ≤ 100000) : EnFit (.pair x (some (k, t, d))) := ⟨h1, fun a b c e => by
  cases e
  exact ⟨h2, h3, h4⟩⟩
theorem fit_nil : fitS (.tuple []) ∧ siz (.tuple []) ≤ 100000 ∧ ∀ l, wrd (.tuple []) 1 = some l → l.length ≤ 100000 := ⟨by simp only [fitS, fitSs], by simp [siz, sizs], fun l h => by
  rw [wrd_nil] at h
  cases h
  decide⟩
theorem sB {s : Str} (h : Nat.ble s.length 1000 = true := by rfl) : shB (.str s) := Nat.le_of_ble_eq_true h
theorem fit_G : EnFit enG := fit_of sB sB sB fit_nil
theorem fit_B : ∀ en ∈ enBs, EnFit en ∧ enL en = none := by
  intro en h
  simp only [enBs, List.mem_cons, List.not_mem_nil, or_false] at h
  rcases h with rfl | rfl | rfl | rfl | rfl | rfl | rfl | rfl | rfl | rfl | rfl
  · exact ⟨trivial, rfl⟩
  · exact ⟨trivial, rfl⟩
  · exact ⟨trivial, rfl⟩
  · exact ⟨fit_of trivial sB sB fit_nil, rfl⟩
  · exact ⟨fit_of sB sB sB fit_nil, rfl⟩
  · exact ⟨⟨sB, fun a b c e => nomatch e⟩, rfl⟩
  · exact ⟨fit_of sB sB sB fit_nil, rfl⟩
  · exact ⟨fit_of sB sB trivial fit_nil, rfl⟩
  · exact ⟨fit_of sB sB sB fit_nil, rfl⟩
  · exact ⟨fit_of sB sB sB ⟨by simp [fitS, fitSs], by simp [siz, sizs], fun l h => by
      rw [wrd_lst] at h
      cases h⟩, rfl⟩
  · exact ⟨fit_of sB sB sB ⟨by simp [fitS, fitSs], by simp [siz, sizs], fun l h => by
      rw [wrd_non] at h
      cases h⟩, by simp [enL, wrd_non]⟩
theorem law_b {σ : L2.St} {H : Hp} {Q : VK} (hS : S19 σ) (hT0 : ∀ H, SqT K H T0 []) (q : ∀ H', Q (.bl true) H') :
  tSeq
    (tAsg
      (tTupG
        (tCons (tC (V.str (Str.ofString "")))
          (tCons
            (tMakeD CP (spRpI K CP) [V.str (Str.ofString ""), V.ref T0] E0
              (tCons (tC (V.str (Str.ofString "done"))) tNil))
            tNil)))
      (gName 15))
    (tSeq
      (tAsg
        (tLstG
          (tCons (tC V.non)
            (tCons (tTupG (tCons (tC (V.str (Str.ofString ""))) tNil))
              (tCons
                (tLstG
                  (tCons (tC (V.str (Str.ofString "")))
                    (tCons
                      (tMakeD CP (spRpI K CP) [V.str (Str.ofString ""), V.ref T0] E0
                        (tCons (tC (V.str (Str.ofString "a"))) tNil))
                      tNil)))
                (tCons
                  (tTupG
                    (tCons (tC V.non)
                      (tCons
                        (tMakeD CP (spRpI K CP) [V.str (Str.ofString ""), V.ref T0] E0
                          (tCons (tC (V.str (Str.ofString "a"))) tNil))
                        tNil)))
                  (tCons
                    (tTupG
                      (tCons (tC (V.str (Str.ofString "a\n")))
                        (tCons
                          (tMakeD CP (spRpI K CP) [V.str (Str.ofString ""), V.ref T0] E0
                            (tCons (tC (V.str (Str.ofString "a"))) tNil))
                          tNil)))
                    (tCons
                      (tTupG
                        (tCons (tC (V.str (Str.ofString "")))
                          (tCons
                            (tTupG
                              (tCons (tC (V.str (Str.ofString "a")))
                                (tCons (tC (V.str (Str.ofString ""))) (tCons (tTupG tNil) tNil))))
                            tNil)))
                      (tCons
                        (tTupG
                          (tCons (tC (V.str (Str.ofString "")))
                            (tCons
                              (tMakeD CP (spRpI K CP) [V.str (Str.ofString ""), V.ref T0] E0
                                (tCons (tC (V.str (Str.ofString "A"))) tNil))
                              tNil)))
                        tNil))))))))
        (gName 16))
      (tSeq
        (tAsg
          (tOp rAddA (tVar 16)
            (tLstG
              (tCons
                (tTupG
                  (tCons (tC (V.str (Str.ofString "")))
                    (tCons
                      (tMakeD CP (spRpI K CP) [V.ref T0] E0
                        (tCons (tC (V.str (Str.ofString "a"))) (tCons (tC V.non) tNil)))
                      tNil)))
                (tCons
                  (tTupG
                    (tCons (tC (V.str (Str.ofString "")))
                      (tCons
                        (tMakeD CP (spRpI K CP) [V.ref T0] E0
                          (tCons (tC (V.str (Str.ofString "a"))) (tCons (tC (V.str (Str.ofString "\n"))) tNil)))
                        tNil)))
                  (tCons
                    (tTupG
                      (tCons (tC (V.str (Str.ofString "")))
                        (tCons
                          (tMakeG CP (spRpI K CP) E0
                            (tCons (tC (V.str (Str.ofString "a")))
                              (tCons (tC (V.str (Str.ofString ""))) (tCons (tLstG tNil) tNil))))
                          tNil)))
                    (tCons
                      (tTupG
                        (tCons (tC (V.str (Str.ofString "")))
                          (tCons
                            (tMakeG CP (spRpI K CP) E0
                              (tCons (tC (V.str (Str.ofString "a")))
                                (tCons (tC (V.str (Str.ofString ""))) (tCons (tTupG (tCons (tC V.non) tNil)) tNil))))
                            tNil)))
                      tNil))))))
          (gName 16))
        (tSeq
          (tIfS
            (tOr
              (tB
                (tCB (rAny K)
                  (tCons
                    (tLc (iAny K (tVar 16)) (gName 17) tYes
                      (tOp (rNeA K)
                        (tSl (rSlA' K)
                          (tCall (spToldD K CM CP) [] E0
                            (tCons (tC (V.int 0)) (tCons (tLstG (tCons (tVar 15) (tCons (tVar 17) tNil))) tNil)))
                          tNoPart (tPart (tC (V.int 1))))
                        (tC (V.str (Str.ofString "<"))))
                      (List.map (fun x => x.snd) [(Str.ofString "bad", 17)]))
                    tNil)))
              (tTest
                (tOp (rNeA K)
                  (tLc (iAny K (tLstG (tCons (tC V.non) (tCons (tC (V.int 5)) (tCons (tTupG tNil) tNil))))) (gName 18)
                    tYes
                    (tSl (rSlA' K) (tCall (spToldD K CM CP) [] E0 (tCons (tC (V.int 0)) (tCons (tVar 18) tNil))) tNoPart
                      (tPart (tC (V.int 1))))
                    (List.map (fun x => x.snd) [(Str.ofString "value", 18)]))
                  (tOp rMulA (tLstG (tCons (tC (V.str (Str.ofString "<"))) tNil)) (tC (V.int 3))))))
            (tRet (tC (V.bl false))) tNext)
          (tSeq
            (tIfS
              (tOr
                (tTest
                  (tOp (rNeA K) (tCall (spToldD K CM CP) [] E0 (tCons (tC (V.int 0)) (tCons (tLstG tNil) tNil)))
                    (tC (V.str (Str.ofString "")))))
                (tTest
                  (tOp (rNeRefs K)
                    (tCall (spToldD K CM CP) [] E0 (tCons (tC (V.int 1)) (tCons (tC (V.str (Str.ofString ""))) tNil)))
                    (tLstG tNil))))
              (tRet (tC (V.bl false))) tNext)
            (tRet
              (tOp (rEqA K)
                (tLc
                  (iAny K
                    (tLstG
                      (tCons (tC V.non)
                        (tCons (tC (V.int 5)) (tCons (tLstG (tCons (tC (V.str (Str.ofString ""))) tNil)) tNil)))))
                  (gName 18) tYes (tCall (spToldD K CM CP) [] E0 (tCons (tC (V.int 1)) (tCons (tVar 18) tNil)))
                  (List.map (fun x => x.snd) [(Str.ofString "value", 18)]))
                (tOp rMulA (tLstG (tCons (tC (V.str (Str.ofString "<no text>"))) tNil)) (tC (V.int 3)))))))))
    { nx := fun x H' => Q V.non H', rt := Q } σ H := by
  obtain ⟨a0, a1, a2, a3, a4, a5, a6, a7, a8, a9, a10, a11, a12, a13, a14, a15, a16, a17, a18, rfl⟩ := hS
  walk_at "go"
  refine mk_rp fun p1 dx1 H1 e1 n1 h1 => ?_
  walk_at "go"
  intro p2 H2 n2 e2 h2
  walk_at "go"
  intro p3 H3 n3 e3 h3
  walk_at "go"
  refine mk_rp fun p4 dx4 H4 e4 n4 h4 => ?_
  walk_at "go"
  intro p5 H5 n5 e5 h5
  walk_at "go"
  refine mk_rp fun p6 dx6 H6 e6 n6 h6 => ?_
  walk_at "go"
  intro p7 H7 n7 e7 h7
  walk_at "go"
  refine mk_rp fun p8 dx8 H8 e8 n8 h8 => ?_
  walk_at "go"
  intro p9 H9 n9 e9 h9
  walk_at "go"
  intro p10 H10 n10 e10 h10
  walk_at "go"
  intro p11 H11 n11 e11 h11
  walk_at "go"
  intro p12 H12 n12 e12 h12
  walk_at "go"
  refine mk_rp fun p13 dx13 H13 e13 n13 h13 => ?_
  walk_at "go"
  intro p14 H14 n14 e14 h14
  walk_at "go"
  intro p15 H15 n15 e15 h15
  walk_at "go"
  refine mk_rp fun p16 dx16 H16 e16 n16 h16 => ?_
  walk_at "go"
  intro p17 H17 n17 e17 h17
  walk_at "go"
  refine mk_rp fun p18 dx18 H18 e18 n18 h18 => ?_
  walk_at "go"
  intro p19 H19 n19 e19 h19
  walk_at "go"
  intro p20 H20 n20 e20 h20
  walk_at "go"
  refine mk_rp fun p21 dx21 H21 e21 n21 h21 => ?_
  walk_at "go"
  intro p22 H22 n22 e22 h22
  walk_at "go"
  intro p23 H23 n23 e23 h23
  walk_at "go"
  refine mk_rp fun p24 dx24 H24 e24 n24 h24 => ?_
  walk_at "go"
  intro p25 H25 n25 e25 h25
  walk_at "go"
  intro p26 H26 n26 e26 h26
  walk_at "go"
  refine w_add_lst (e26 _ _ (e25 _ _ (e24 _ _ (e23 _ _ (e22 _ _ (e21 _ _ (e20 _ _ (e19 _ _ (e18 _ _ (e17 _ _ (e16 _ _ h15))))))))))) h26 (Nat.le_of_ble_eq_true rfl) ?_
  intro p27 H27 n27 e27 h27
  walk_at "go"
  have f26 : Same H26 H27 := e27
  have f25 : Same H25 H27 := e26.trans f26
  have f24 : Same H24 H27 := e25.trans f25
  have f23 : Same H23 H27 := e24.trans f24
  have f22 : Same H22 H27 := e23.trans f23
  have f21 : Same H21 H27 := e22.trans f22
  have f20 : Same H20 H27 := e21.trans f21
  have f19 : Same H19 H27 := e20.trans f20
  have f18 : Same H18 H27 := e19.trans f19
  have f17 : Same H17 H27 := e18.trans f18
  have f16 : Same H16 H27 := e17.trans f17
  have f15 : Same H15 H27 := e16.trans f16
  have f14 : Same H14 H27 := e15.trans f15
  have f13 : Same H13 H27 := e14.trans f14
  have f12 : Same H12 H27 := e13.trans f13
  have f11 : Same H11 H27 := e12.trans f12
  have f10 : Same H10 H27 := e11.trans f11
  have f9 : Same H9 H27 := e10.trans f10
  have f8 : Same H8 H27 := e9.trans f9
  have f7 : Same H7 H27 := e8.trans f8
  have f6 : Same H6 H27 := e7.trans f7
  have f5 : Same H5 H27 := e6.trans f6
  have f4 : Same H4 H27 := e5.trans f5
  have f3 : Same H3 H27 := e4.trans f4
  have f2 : Same H2 H27 := e3.trans f3
  have f1 : Same H1 H27 := e2.trans f2
  have nilT : Dp K H27 (.ref T0) (.tuple []) := .tup (hT0 H27) .nil
  have vG : EnV K CP H27 (.ref p2) enG := .pair (SqT.of (f2 _ _ h2)) (.str _) (.ins (f1 _ _ h1) (.str _) (.str _) nilT)
  have vB : Paired (EnV K CP H27) [V.non, .ref p3, .ref p5, .ref p7, .ref p9, .ref p12, .ref p14, .ref p17, .ref p19, .ref p22, .ref p25] enBs :=
    .cons (.nt .non (by decide)) (.cons (.short (SqT.of (f3 _ _ h3)) (by decide)) (.cons (.nt (.lst (SqL.of (f5 _ _ h5))) (by decide))
    (.cons (.pair (SqT.of (f7 _ _ h7)) .non (.ins (f6 _ _ h6) (.str _) (.str _) nilT))
    (.cons (.pair (SqT.of (f9 _ _ h9)) (.str _) (.ins (f8 _ _ h8) (.str _) (.str _) nilT))
    (.cons (.pair (SqT.of (f12 _ _ h12)) (.str _) (.tup (SqT.of (f11 _ _ h11))))
    (.cons (.pair (SqT.of (f14 _ _ h14)) (.str _) (.ins (f13 _ _ h13) (.str _) (.str _) nilT))
    (.cons (.pair (SqT.of (f17 _ _ h17)) (.str _) (.ins (f16 _ _ h16) (.str _) .non nilT))
    (.cons (.pair (SqT.of (f19 _ _ h19)) (.str _) (.ins (f18 _ _ h18) (.str _) (.str _) nilT))
    (.cons (.pair (SqT.of (f22 _ _ h22)) (.str _) (.ins (f21 _ _ h21) (.str _) (.str _) (.lst (SqL.of (f20 _ _ h20)) .nil)))
    (.cons (.pair (SqT.of (f25 _ _ h25)) (.str _) (.ins (f24 _ _ h24) (.str _) (.str _) (.tup (SqT.of (f23 _ _ h23)) (.cons .non .nil)))) .nil))))))))))
  refine w_lcI ?_
  walk_at "go"
  refine lcL (fun v => rfl) (SqL.of h27) (LcS.mapI (zs := List.replicate 11 (V.bl false)) rfl (Nat.le_of_ble_eq_true rfl) (fun H' e => SqL.of (e _ _ h27)) (fun i y z HB hy hz eB R hR => ?_) (fun D HB nB eB hB => ?_))
  · obtain ⟨en, hen, hv⟩ := Paired.getX vB hy
    have hf := fit_B en (List.mem_of_getElem? hen)
    obtain rfl : z = V.bl false := List.eq_of_mem_replicate (List.mem_of_getElem? hz)
    show tOp _ _ _ [a0, a1, a2, a3, a4, a5, a6, a7, a8, a9, a10, a11, a12, a13, a14, some (.ref p2), some (.ref p27), some y, a18] HB R
    walk_at "go"
    intro pg HC nC eC hC
    walk_at "go"
    have eBC := eB.trans eC
    refine told0_no hC (.cons (vG.same eBC) (.cons (hv.same eBC) .nil)) (fun x hx => ?_) (by simp) (outs_none (i := 1) rfl hf.2) fun m HD eD hm => ?_
    · rcases List.mem_cons.mp hx with rfl | hx
      · exact fit_G
      · rw [List.mem_singleton.mp hx]
        exact hf.1
    · have z1 : (Str.ofString "<").length = 1 := rfl
      have z2 : (Str.ofString ">").length = 1 := rfl
      walk_at "go"
      rw [cut_lt, decide_eq_true rfl]
      exact hR HD (eC.trans eD)
  · walk_at "go"
    refine w_any (bs := List.replicate 11 false) (by rw [List.map_replicate]; exact SqL.of hB) ?_
    walk_at "go"
    refine w_lcI ?_
    walk_at "go"
    intro p28 H28 n28 e28 h28
    walk_at "go"
    intro p29 H29 n29 e29 h29
    refine lcL (fun v => rfl) (SqL.of h29) (LcS.mapI (zs := List.replicate 3 (V.str (Str.ofString "<"))) rfl (Nat.le_of_ble_eq_true rfl) (fun H' e => SqL.of (e _ _ h29)) (fun i y z HC hy hz eC R hR => ?_) (fun D3 HC nC eC hC => ?_))
    · obtain rfl : z = V.str (Str.ofString "<") := List.eq_of_mem_replicate (List.mem_of_getElem? hz)
      show tSl _ _ _ _ [a0, a1, a2, a3, a4, a5, a6, a7, a8, a9, a10, a11, a12, a13, a14, some (.ref p2), some (.ref p27), a17, some y] HC R
      have hy2 : ∃ n, TyN K HC y n ∧ n ≠ "list" := by
        have := List.mem_of_getElem? hy
        simp only [List.mem_cons, List.not_mem_nil, or_false] at this
        rcases this with rfl | rfl | rfl
        · exact ⟨_, .non, by decide⟩
        · exact ⟨_, .int _, by decide⟩
        · exact ⟨_, .tup (SqT.of (eC _ _ (e29 _ _ h28))), by decide⟩
      obtain ⟨n, hn1, hn2⟩ := hy2
      walk_at "go"
      refine told0_ty hn1 hn2 fun m HD eD hm => ?_
      have z1 : (Str.ofString "<").length = 1 := rfl
      have z2 : (Str.ofString ">").length = 1 := rfl
      walk_at "go"
      rw [cut_lt]
      exact hR HD eD
    · walk_at "go"
      intro p30 H30 n30 e30 h30
      walk_at "go"
      refine ⟨p30, 3, [.str "<"], rfl, rfl, h30, by decide, by decide, by decide, fun pr nr => ?_⟩
      have er : Same H30 (upd H30 pr (.lst (List.replicate (3 : Int).toNat [V.str (Str.ofString "<")]).flatten)) := same_upd nr
      have hr1 : (upd H30 pr (.lst (List.replicate (3 : Int).toNat [V.str (Str.ofString "<")]).flatten)) pr = some (.lst [V.str (Str.ofString "<"), V.str (Str.ofString "<"), V.str (Str.ofString "<")]) := upd_same
      obtain ⟨d3, y1, y2, y3, y4⟩ := same3 (K := K) (er _ _ (e30 _ _ hC)) hr1 (by decide)
      refine Or.inr ⟨d3, d3, y1, y2, y3, y3, ?_⟩
      rw [y4]
      walk_at "go"
      intro p31 H31 n31 e31 h31
      walk_at "go"
      refine told0_yes (ts := []) (es := []) h31 .nil (fun e he => nomatch he) (by decide) fun H32 e32 => ?_
      walk_at "go"
      obtain ⟨ps, hpl, hdia⟩ := dia_le (es := []) (z := Str.ofString "") (fun e he => nomatch he) rfl
      refine told1_dia (by decide) hdia (fun n hn => nomatch hn) (fun ps2 hps D4 es2 H33 e33 hD33 hl2 hge => ?_)
      cases hps
      obtain rfl : es2 = [] := List.length_eq_zero_iff.mp (by rw [hpl, List.length_nil] at hl2; omega)
      walk_at "go"
      intro p34 H34 n34 e34 h34
      walk_at "go"
      refine ⟨D4, p34, [], rfl, rfl, SqL.of (e34 _ _ hD33), SqL.of h34, ?_⟩
      walk_at "go"
      refine w_lcI ?_
      walk_at "go"
      intro p35 H35 n35 e35 h35
      walk_at "go"
      intro p36 H36 n36 e36 h36
      refine lcL (fun v => rfl) (SqL.of h36) (LcS.mapI (zs := List.replicate 3 (V.str (Str.ofString "<no text>"))) rfl (Nat.le_of_ble_eq_true rfl) (fun H' e => SqL.of (e _ _ h36)) (fun i y z HC hy hz eC R hR => ?_) (fun D5 HC nC eC hC => ?_))
      · obtain rfl : z = V.str (Str.ofString "<no text>") := List.eq_of_mem_replicate (List.mem_of_getElem? hz)
        show tCall _ _ _ _ [a0, a1, a2, a3, a4, a5, a6, a7, a8, a9, a10, a11, a12, a13, a14, some (.ref p2), some (.ref p27), a17, some y] HC R
        have hy2 : ∃ d, Dp K HC y d ∧ isStrD d = false := by
          have := List.mem_of_getElem? hy
          simp only [List.mem_cons, List.not_mem_nil, or_false] at this
          rcases this with rfl | rfl | rfl
          · exact ⟨_, .non, rfl⟩
          · exact ⟨_, .int _, rfl⟩
          · exact ⟨_, .lst (SqL.of (eC _ _ (e36 _ _ h35))) (.cons (.str _) .nil), rfl⟩
        obtain ⟨d, hd1, hd2⟩ := hy2
        walk_at "go"
        refine told1_no hd1 hd2 fun HD eD => ?_
        have eN : Str.ofString "<" ++ Str.ofString "no text" ++ Str.ofString ">" = Str.ofString "<no text>" := str_ext (by
          simp only [app_l]
          rfl)
        rw [eN]
        exact hR HD eD
      · walk_at "go"
        intro p37 H37 n37 e37 h37
        walk_at "go"
        refine ⟨p37, 3, [.str "<no text>"], rfl, rfl, h37, by decide, by decide, by decide, fun pr2 nr2 => ?_⟩
        have er2 : Same H37 (upd H37 pr2 (.lst (List.replicate (3 : Int).toNat [V.str (Str.ofString "<no text>")]).flatten)) := same_upd nr2
        have hr2 : (upd H37 pr2 (.lst (List.replicate (3 : Int).toNat [V.str (Str.ofString "<no text>")]).flatten)) pr2 = some (.lst [V.str (Str.ofString "<no text>"), V.str (Str.ofString "<no text>"), V.str (Str.ofString "<no text>")]) := upd_same
        obtain ⟨d5, y1, y2, y3, y4⟩ := same3 (K := K) (er2 _ _ (e37 _ _ hC)) hr2 (by decide)
        refine Or.inr ⟨d5, d5, y1, y2, y3, y3, ?_⟩
        rw [y4]
        exact q _
end
end K66

set_option exponentiation.threshold 256
set_option Elab.async false
set_option linter.all false
set_option maxRecDepth 100000
set_option maxHeartbeats 4000000
set_option exponentiation.threshold 10
namespace K66
open PySem PySem.Spec PyProof.Rows L2 Lay DataM
local macro_rules | `(tactic| walk_at "1") => `(tactic| first
  | with_reducible refine w_seq ?_
  | ((with_reducible refine w_var (v := ?vv) ?hv ?_); (case hv => rfl))
  | with_reducible refine w_c ?_
  | with_reducible refine w_m1 ?_
  | with_reducible refine w_isstr ?_
  | with_reducible refine w_bm0 ?_
  | with_reducible refine w_bm ?_
  | with_reducible refine w_gcons ?_
  | with_reducible refine w_gnil ?_
  | ((with_reducible refine w_ty (xs := ?vv) ?hv ?_); (case hv => walk_at "hx"))
  | ((with_reducible refine w_gtup (xs := ?vv) ?hv ?hl ?_); (case hv => walk_at "hx"); (case hl => rfl))
  | with_reducible refine w_for1 ?_
  | with_reducible refine w_for2 ?_
  | with_reducible refine w_for3 ?_
  | with_reducible refine w_forA ?_
  | with_reducible refine w_forE ?_
  | ((with_reducible refine w_aug (x := ?vv) ?hv ?_); (case hv => rfl))
  | with_reducible refine w_op ?_
  | with_reducible refine w_cb ?_
  | with_reducible refine w_acons ?_
  | with_reducible refine w_anil ?_
  | with_reducible refine w_set ?_
  | with_reducible refine w_if ?_
  | with_reducible refine w_test ?_
  | with_reducible refine w_tB ?_
  | with_reducible refine w_bl ?_
  | with_reducible refine w_and ?_
  | with_reducible refine w_or ?_
  | with_reducible refine w_not ?_
  | with_reducible refine w_iteT ?_
  | with_reducible refine w_iteF ?_
  | with_reducible refine w_ret ?_
  | with_reducible refine w_next ?_
  | with_reducible refine w_drop ?_
  | with_reducible refine w_call ?_
  | with_reducible refine w_ifx ?_
  | with_reducible refine w_andV ?_
  | with_reducible refine w_orV ?_
  | with_reducible refine w_notV ?_
  | with_reducible refine w_sl ?_
  | with_reducible refine w_nopart ?_
  | with_reducible refine w_part ?_
  | with_reducible refine w_exint ?_
  | with_reducible refine w_chain ?_
  | with_reducible refine w_par ?_
  | with_reducible refine w_two ?_
  | with_reducible refine w_par3 ?_
  | with_reducible refine w_three ?_
  | with_reducible refine w_asg ?_
  | with_reducible refine w_gset ?_
  | with_reducible refine w_retN ?_
  | with_reducible refine w_brk ?_
  | with_reducible refine w_cont ?_
  | with_reducible refine w_un ?_
  | with_reducible refine w_neg ?_
  | with_reducible refine w_callS ?_
  | with_reducible refine w_tup0 ?_
  | with_reducible refine w_lst0 ?_
  | with_reducible refine w_fld0 ?_
  | with_reducible refine w_sfld ?_
  | with_reducible refine w_gsub ?_
  | with_reducible refine w_iAny ?_
  | with_reducible refine w_iR1 ?_
  | with_reducible refine w_make ?_
  | with_reducible refine w_makeD ?_
  | with_reducible refine w_meth ?_
  | with_reducible refine w_mk1 ?_
  | with_reducible refine w_LZ ?_)
local macro_rules | `(tactic| walk_at "2") => `(tactic| first
  | with_reducible refine w_add_int ?_
  | with_reducible refine w_sub ?_
  | ((with_reducible refine w_add_str ?hl ?_); (case hl => walk_at "len"))
  | ((with_reducible refine w_mod ?hl ?_); (case hl => first | decide | omega))
  | ((with_reducible refine w_fdiv ?h1 ?h2 ?_); (case h1 => first | decide | omega); (case h2 => first | decide | omega))
  | ((with_reducible refine w_mulR ?h1 ?h2 ?_); (case h1 => first | decide | omega); (case h2 => first | decide | omega))
  | ((with_reducible refine w_mulL ?h1 ?h2 ?_); (case h1 => first | decide | omega); (case h2 => first | decide | omega))
  | with_reducible refine w_iadd_int ?_
  | ((with_reducible refine w_iadd_str ?hl ?_); (case hl => walk_at "len"))
  | ((with_reducible refine w_mk ?hl ?_); (case hl => walk_at "len"))
  | with_reducible refine w_lt_int ?_
  | with_reducible refine w_lt_str ?_
  | with_reducible refine w_le_int ?_
  | with_reducible refine w_le_str ?_
  | with_reducible refine w_gt ?_
  | with_reducible refine w_ge ?_
  | with_reducible refine w_eq_int ?_
  | with_reducible refine w_eq_str ?_
  | with_reducible refine w_ne_int ?_
  | with_reducible refine w_ne_str ?_
  | ((with_reducible refine w_isInt (d := ?vd) ?hd ?_); (case hd => walk_at "dp"))
  | ((with_reducible refine w_isBool (d := ?vd) ?hd ?_); (case hd => walk_at "dp"))
  | ((with_reducible refine w_isStr (d := ?vd) ?hd ?_); (case hd => walk_at "dp"))
  | ((with_reducible refine w_isTup (d := ?vd) ?hd ?_); (case hd => walk_at "dp"))
  | ((with_reducible refine w_isLst (d := ?vd) ?hd ?_); (case hd => walk_at "dp"))
  | refine w_in_str ?_
  | refine w_nin_str ?_
  | ((with_reducible refine w_ixL (xs := ?vv) (y := ?vr) ?h ?ha ?_); (case h => walk_at "hx"); (case ha => rfl))
  | with_reducible refine w_is ?_
  | with_reducible refine w_isnot ?_
  | ((with_reducible refine w_len_str ?hl ?_); (case hl => walk_at "len"))
  | ((with_reducible refine w_len (xs := ?vv) ?hl ?_); (case hl => walk_at "hx"))
  | with_reducible refine w_int_int ?_
  | with_reducible refine w_str_str ?_
  | with_reducible refine w_abs ?_
  | ((with_reducible refine w_sl_str ?hl ?_); (case hl => walk_at "len"))
  | ((with_reducible refine w_fldAt (C := ?vC) (dx := ?vdx) (fs := ?vfs) (v := ?vv) ?h1 ?h2 ?h3 ?h4 ?_); (case h1 => walk_at "hx"); (case h2 => assumption); (case h3 => assumption); (case h4 => rfl))
  | ((with_reducible refine w_methAt (dx := ?vdx) (fs := ?vfs) ?h1 ?h2 ?_); (case h1 => walk_at "hx"); (case h2 => rfl))
  | ((with_reducible refine w_iteP ?h1 ?_); (case h1 => walk_at "yes"))
  | ((with_reducible refine w_iteN ?h1 ?_); (case h1 => walk_at "no")))
local macro_rules | `(tactic| walk_at "yes") => `(tactic| first | assumption | ((with_reducible refine bnotT ?_); walk_at "no") | (refine decide_eq_true ?_; first | assumption | omega) | exact rfl)
local macro_rules | `(tactic| walk_at "no") => `(tactic| first | assumption | ((with_reducible refine bnotF ?_); walk_at "yes") | (refine decide_eq_false ?_; first | assumption | omega) | exact rfl)
local macro_rules | `(tactic| walk_at "len") => `(tactic| first | assumption | exact Nat.le_of_ble_eq_true rfl | omega | decide | (simp only [List.length_append, List.length_cons, List.length_nil, List.length_map]; omega) | (simp only [app_len]; omega))
local macro_rules | `(tactic| walk_at "ne") => `(tactic| first | assumption | (refine Ne.symm ?_; assumption))
local macro_rules | `(tactic| walk_at "hx") => `(tactic| first
  | assumption
  | exact upd_same
  | ((with_reducible refine sqa_l ?_); walk_at "hx")
  | ((with_reducible refine sqa_t ?_); walk_at "hx")
  | ((with_reducible refine SqL.of ?_); walk_at "hx")
  | ((with_reducible refine SqT.of ?_); walk_at "hx")
  | ((with_reducible refine at_same (by assumption) ?_); walk_at "hx")
  | ((with_reducible refine at_but (by assumption) ?hne ?_); (case hne => walk_at "ne"); walk_at "hx")
  | ((with_reducible refine Txt.tup (by assumption) _ _ ?_); walk_at "hx")
  | ((with_reducible refine Same.seq (by assumption) ?_); walk_at "hx")
  | ((with_reducible refine Same.seqT (by assumption) ?_); walk_at "hx")
  | ((with_reducible refine Dp.same (by assumption) _ _ ?_); walk_at "hx")
  | ((with_reducible refine DpAll.same (by assumption) _ _ ?_); walk_at "hx"))
local macro_rules | `(tactic| walk_at "go") => `(tactic| repeat (first | walk_at "1" | walk_at "2"))
local macro_rules | `(tactic| walk_at "dp") => `(tactic| first | exact .int _ | exact .str _ | exact .bl _ | exact .non | walk_at "hx")

local macro_rules | `(tactic| walk_at "1") => `(tactic| ((with_reducible refine w_fits (z := ?zz) ?hv ?hz fun _ _ => ?_); (case hv => rfl); (case hz => assumption)))
section
variable {P : Program} {w : World} {K : PySem.W.Frag} {mg : Str → Option Value} {base : Heap} {CM CR CP CK T0 : Addr}
def spLaw (K : PySem.W.Frag) : Sp := fun vs H Q _ => ∃ a, ∃ ns : List Int, vs = [.ref a] ∧ SqL K H a (ns.map V.int) ∧ ns.length ≤ 1000 ∧ ∀ H', Q (.bl true) H'
theorem Dr.lst {H : Hp} {pd pc : Addr} {c : Nat} (d : Dr H pd pc c) : ∃ l, H pd = some (.lst l) := by
  obtain ⟨c0, cells, i, x, k, s, hl, D⟩ := d
  exact ⟨_, D.obj⟩
theorem Nl.dr {H H' : Hp} {pd pc : Addr} {c : Nat} (d : Dr H pd pc c) (b : But pd H H') (t : Txt H H') : Nl H H' := by
  obtain ⟨l, h⟩ := Dr.lst d
  exact .but h b t
theorem pick4 (i : Nat) (h : (i : Int) < 4) : ∃ l : Str, [V.str (Str.ofString ""), V.str (Str.ofString "reckon"), V.str (Str.ofString "# a"), V.str (Str.ofString "> x")][i]? = some (.str l) ∧ 10 ∉ l.cps.toList ∧ l.length ≤ 20 := by
  rcases (show i = 0 ∨ i = 1 ∨ i = 2 ∨ i = 3 by omega) with rfl | rfl | rfl | rfl <;> exact ⟨_, rfl, by decide, by decide⟩
theorem pickT (i : Nat) (h : (i : Int) < 3) : ∃ l : Str, [V.str (Str.ofString "a"), V.str (Str.ofString "error"), V.str (Str.ofString "x9")][i]? = some (.str l) ∧ isWordT l.cps.toList = true := by
  rcases (show i = 0 ∨ i = 1 ∨ i = 2 by omega) with rfl | rfl | rfl <;> exact ⟨_, rfl, by decide⟩
theorem pickM (i : Nat) (h : (i : Int) < 3) : ∃ l : Str, [V.str (Str.ofString ""), V.str (Str.ofString "no"), V.str (Str.ofString " 1 2")][i]? = some (.str l) ∧ 10 ∉ l.cps.toList ∧ l.length ≤ 20 := by
  rcases (show i = 0 ∨ i = 1 ∨ i = 2 by omega) with rfl | rfl | rfl <;> exact ⟨_, rfl, by decide, by decide⟩
theorem pick8 (i : Nat) (h : (i : Int) < 8) : ∃ l : Str, [V.str (Str.ofString "x"), V.str (Str.ofString "\n"), V.str (Str.ofString " "), V.str (Str.ofString ">"), V.str (Str.ofString "="), V.str (Str.ofString "#"), V.str (Str.ofString "["), V.str (Str.ofString "A")][i]? = some (.str l) ∧ l.length ≤ 1 := by
  rcases (show i = 0 ∨ i = 1 ∨ i = 2 ∨ i = 3 ∨ i = 4 ∨ i = 5 ∨ i = 6 ∨ i = 7 by omega) with rfl | rfl | rfl | rfl | rfl | rfl | rfl | rfl <;> exact ⟨_, rfl, by decide⟩
theorem cut_le (z : Str) (lo hi : Option Int) : (cutS z lo hi).length ≤ z.length := by
  rw [← len_l, cut_l, List.length_take, List.length_drop, len_l]
  omega
theorem ok_law {f : Addr} {fd : FuncData} (T : Fx w K mg CM CP) (F : Fun K "law" "law" s_law f fd) (c__law_draw : Fn0 P w K mg base 1 "_law_draw" (spDraw K)) (c__law_take : Fn0 P w K mg base 1 "_law_take" (spTakeN K))
    (c__law_data : Fn0 P w K mg base 5 "_law_data" (spData K 3)) (c_write_data : FnM true P w K mg base 4 "write_data" (spWrite K CM)) (c__law_told : Fn0 P w K mg base 7 "_law_told" (spToldD K CM CP))
    (c__law_due : Fn0 P w K mg base 6 "_law_due" (spDue K)) (c__law_fits : Fn0 P w K mg base 4 "_law_fits" (spFits K CP)) (c_Reply___init__ : MkC P w K mg base 1 "Reply" CP (spRpI K CP))
    (c_Reply_1 : MkD P w K mg base 1 "Reply" CP (spRpI K CP) [.str "", .ref T0]) (c_Reply_2 : MkD P w K mg base 1 "Reply" CP (spRpI K CP) [.ref T0]) (hT0 : ∀ H, SqT K H T0 []) :
    FnOk P w K mg base CX0 8 f fd ["script"] (spLaw K) := by
  refine F.ok sc_law (fun vs H Q E h => ?_) (fun cdv A outer s H vs Q E hr h => ?_)
  · obtain ⟨a, ns, rfl, _⟩ := h
    rfl
  · obtain ⟨a, ns, rfl, hs, hn, q⟩ := h
    refine ⟨_, (pss_cons (ps_set (i := 1) sc_law.nd rfl (by first | exact Or.inl rfl | exact Or.inr rfl) (pe_f0 c__law_draw hr (by first | decide | omega) (pa_cons (pv 0) pa_nil)))
    (pss_mid (ps_for PassesOwn.never rfl (pi_range1 (by rfl) T.b_range (pa_cons pe_int pa_nil)) (pg_name (i := 2) sc_law.nd rfl (by first | exact Or.inl rfl | exact Or.inr rfl)) (pss_cons (ps_par (i := 3) (j := 4) rfl sc_law.nd rfl rfl (by decide) rfl rfl (pa_cons (pe_lstG pa_nil) (pa_cons pe_str pa_nil)) (by rfl))
    (pss_cons (ps_for PassesOwn.never rfl (pi_range1 (by rfl) T.b_range (pa_cons (pe_f0 c__law_take hr (by first | decide | omega) (pa_cons (pv 1) (pa_cons pe_int pa_nil))) pa_nil)) (pg_name (i := 5) sc_law.nd rfl (by first | exact Or.inl rfl | exact Or.inr rfl)) (pss_cons (ps_par3 (i := 6) (j := 7) (l := 8) rfl sc_law.nd rfl rfl rfl (by decide) (by decide) (by decide) rfl rfl rfl (pa_cons (pe_ix (ix_A (K := K)) (pe_lstG (pa_cons pe_str (pa_cons pe_str (pa_cons pe_str (pa_cons pe_str pa_nil))))) (pe_f0 c__law_take hr (by first | decide | omega) (pa_cons (pv 1) (pa_cons pe_int pa_nil))) (fun _ _ => rfl)) (pa_cons (pe_ix (ix_A (K := K)) (pe_lstG (pa_cons pe_str (pa_cons pe_str (pa_cons pe_str pa_nil)))) (pe_f0 c__law_take hr (by first | decide | omega) (pa_cons (pv 1) (pa_cons pe_int pa_nil))) (fun _ _ => rfl)) (pa_cons (pe_ix (ix_A (K := K)) (pe_lstG (pa_cons pe_str (pa_cons pe_str (pa_cons pe_str pa_nil)))) (pe_f0 c__law_take hr (by first | decide | omega) (pa_cons (pv 1) (pa_cons pe_int pa_nil))) (fun _ _ => rfl)) pa_nil))) (by rfl))
    (pss_cons (ps_set (i := 9) sc_law.nd rfl (by first | exact Or.inl rfl | exact Or.inr rfl) (pe_callTy (call_tupA (K := K)) (by rfl) T.b_tuple (by decide +kernel) (pa_cons (pe_lc (own := [("i", 12)]) (g := gName 12) (tt := tYes) rfl sc_law.nd (pi_range1 (by rfl) T.b_range (pa_cons (pe_f0 c__law_take hr (by first | decide | omega) (pa_cons (pv 1) (pa_cons pe_int pa_nil))) pa_nil)) (blkOk_by (N := N_law) (sc := defScope s_law) (by decide +kernel)) (fun _ _ _ _ _ => pg_name (i := 12) sc_law.nd rfl (Or.inl rfl)) (fun _ _ _ _ _ => pts_nil) (fun _ _ _ _ _ => (pe_f0 c__law_data hr (by first | decide | omega) (pa_cons (pv 1) (pa_cons pe_int pa_nil))))) pa_nil)))
    (pss_cons (ps_expr (pe_bm PySem.F.plainAttrs_list PySem.F.slot_list_append PySem.F.type_list_append mt_append (pv 3) (pa_cons (pe_tupG (pa_cons (pv 6) (pa_cons (pe_newG c_Reply___init__ hr (by first | decide | omega) (pa_cons (pv 7) (pa_cons (pv 8) (pa_cons (pv 9) pa_nil)))) pa_nil))) pa_nil)))
    (pss_one (ps_set (i := 4) sc_law.nd rfl (by first | exact Or.inl rfl | exact Or.inr rfl) (pe_op op_addA (pe_op op_addA (pe_op op_addA (pe_op op_addA (pe_op op_addA (pe_op op_addA (pe_op op_addA (pe_op op_addA (pe_op op_addA (pv 4) pe_str) (pv 6)) pe_str) (pv 7)) pe_str) (pv 8)) pe_str) (pe_fc c_write_data hr (by first | decide | omega) passNo (pa_cons (pv 9) pa_nil))) pe_str)))))))
    (pss_cons (ps_set (i := 10) sc_law.nd rfl (by first | exact Or.inl rfl | exact Or.inr rfl) (pe_op op_addA (pv 3) (pe_lstG pa_nil)))
    (pss_cons (ps_if (PW.pt (pw_or (pt_cmpR (op_neA (K := K) hr.units) (pe_f0 c__law_told hr (by first | decide | omega) (pa_cons pe_int (pa_cons (pv 3) pa_nil))) (pv 4) (nomark _)) (pw_or (pt_not (pt_val (pe_f0 c__law_fits hr (by first | decide | omega) (pa_cons (pe_f0 c__law_told hr (by first | decide | omega) (pa_cons pe_int (pa_cons (pv 4) pa_nil))) (pa_cons (pe_f0 c__law_due hr (by first | decide | omega) (pa_cons (pv 4) pa_nil)) pa_nil))))) (pw_or (pt_cmpR (op_neA (K := K) hr.units) (pe_callB (call_lenA (K := K)) (by rfl) T.b_len (by decide +kernel) (pa_cons (pe_f0 c__law_told hr (by first | decide | omega) (pa_cons pe_int (pa_cons (pv 4) pa_nil))) pa_nil)) (pe_callB (call_lenA (K := K)) (by rfl) T.b_len (by decide +kernel) (pa_cons (pv 3) pa_nil)) (nomark _)) (pw_or1 (pt_cmpR (op_neRefs (K := K) hr.units) (pv 3) (pv 10) (nomark _))))))) (pss_one (ps_ret pe_bl)) pss_nil)
    (pss_one (ps_for PassesOwn.never rfl (pi_range1 (by rfl) T.b_range (pa_cons pe_int pa_nil)) (pg_name (i := 11) sc_law.nd rfl (by first | exact Or.inl rfl | exact Or.inr rfl)) (pss_cons (ps_par (i := 12) (j := 13) rfl sc_law.nd rfl rfl (by decide) rfl rfl (pa_cons (pe_f0 c__law_take hr (by first | decide | omega) (pa_cons (pv 1) (pa_cons (pe_op op_addA (pe_callB (call_lenA (K := K)) (by rfl) T.b_len (by decide +kernel) (pa_cons (pv 4) pa_nil)) pe_int) pa_nil))) (pa_cons (pe_ix (ix_A (K := K)) (pe_lstG (pa_cons pe_str (pa_cons pe_str (pa_cons pe_str (pa_cons pe_str (pa_cons pe_str (pa_cons pe_str (pa_cons pe_str (pa_cons pe_str pa_nil))))))))) (pe_f0 c__law_take hr (by first | decide | omega) (pa_cons (pv 1) (pa_cons pe_int pa_nil))) (fun _ _ => rfl)) pa_nil)) (by rfl))
    (pss_one (ps_for PassesOwn.never rfl (pi_A (K := K) (pe_lstG (pa_cons (pe_op op_addA (pe_op op_addA (pe_slice (sl_A (K := K)) (pv 4) po_none (po_some (pv 12))) (pv 13)) (pe_slice (sl_A (K := K)) (pv 4) (po_some (pv 12)) po_none)) (pa_cons (pe_op op_addA (pe_slice (sl_A (K := K)) (pv 4) po_none (po_some (pv 12))) (pe_slice (sl_A (K := K)) (pv 4) (po_some (pe_op op_addA (pv 12) pe_int)) po_none)) (pa_cons (pe_slice (sl_A (K := K)) (pv 4) po_none (po_some (pv 12))) (pa_cons (pe_op op_addA (pv 4) pe_str) (pa_cons (pe_op op_addA (pv 4) pe_str) pa_nil))))))) (pg_name (i := 14) sc_law.nd rfl (by first | exact Or.inl rfl | exact Or.inr rfl)) (pss_one (ps_if (pt_not (pt_val (pe_f0 c__law_fits hr (by first | decide | omega) (pa_cons (pe_f0 c__law_told hr (by first | decide | omega) (pa_cons pe_int (pa_cons (pv 14) pa_nil))) (pa_cons (pe_f0 c__law_due hr (by first | decide | omega) (pa_cons (pv 14) pa_nil)) pa_nil))))) (pss_one (ps_ret pe_bl)) pss_nil))))))))))))
    (pss_cons (ps_set (i := 15) sc_law.nd rfl (by first | exact Or.inl rfl | exact Or.inr rfl) (pe_tupG (pa_cons pe_str (pa_cons (pe_newD c_Reply_1 hr (by first | decide | omega) (pa_cons pe_str pa_nil)) pa_nil))))
    (pss_cons (ps_set (i := 16) sc_law.nd rfl (by first | exact Or.inl rfl | exact Or.inr rfl) (pe_lstG (pa_cons pe_non (pa_cons (pe_tupG (pa_cons pe_str pa_nil)) (pa_cons (pe_lstG (pa_cons pe_str (pa_cons (pe_newD c_Reply_1 hr (by first | decide | omega) (pa_cons pe_str pa_nil)) pa_nil))) (pa_cons (pe_tupG (pa_cons pe_non (pa_cons (pe_newD c_Reply_1 hr (by first | decide | omega) (pa_cons pe_str pa_nil)) pa_nil))) (pa_cons (pe_tupG (pa_cons pe_str (pa_cons (pe_newD c_Reply_1 hr (by first | decide | omega) (pa_cons pe_str pa_nil)) pa_nil))) (pa_cons (pe_tupG (pa_cons pe_str (pa_cons (pe_tupG (pa_cons pe_str (pa_cons pe_str (pa_cons (pe_tupG pa_nil) pa_nil)))) pa_nil))) (pa_cons (pe_tupG (pa_cons pe_str (pa_cons (pe_newD c_Reply_1 hr (by first | decide | omega) (pa_cons pe_str pa_nil)) pa_nil))) pa_nil)))))))))
    (pss_cons (ps_set (i := 16) sc_law.nd rfl (by first | exact Or.inl rfl | exact Or.inr rfl) (pe_op op_addA (pv 16) (pe_lstG (pa_cons (pe_tupG (pa_cons pe_str (pa_cons (pe_newD c_Reply_2 hr (by first | decide | omega) (pa_cons pe_str (pa_cons pe_non pa_nil))) pa_nil))) (pa_cons (pe_tupG (pa_cons pe_str (pa_cons (pe_newD c_Reply_2 hr (by first | decide | omega) (pa_cons pe_str (pa_cons pe_str pa_nil))) pa_nil))) (pa_cons (pe_tupG (pa_cons pe_str (pa_cons (pe_newG c_Reply___init__ hr (by first | decide | omega) (pa_cons pe_str (pa_cons pe_str (pa_cons (pe_lstG pa_nil) pa_nil)))) pa_nil))) (pa_cons (pe_tupG (pa_cons pe_str (pa_cons (pe_newG c_Reply___init__ hr (by first | decide | omega) (pa_cons pe_str (pa_cons pe_str (pa_cons (pe_tupG (pa_cons pe_non pa_nil)) pa_nil)))) pa_nil))) pa_nil)))))))
    (pss_cons (ps_if (PW.pt (pw_or (pt_val (pe_callB (any_A (K := K) rfl) (by rfl) T.b_any (by decide +kernel) (pa_cons (pe_lc (own := [("bad", 17)]) (g := gName 17) (tt := tYes) rfl sc_law.nd (pi_A (K := K) (pv 16)) (blkOk_by (N := N_law) (sc := defScope s_law) (by decide +kernel)) (fun _ _ _ _ _ => pg_name (i := 17) sc_law.nd rfl (Or.inl rfl)) (fun _ _ _ _ _ => pts_nil) (fun _ _ _ _ _ => (pe_cmpR (op_neA (K := K) hr.units) (pe_slice (sl_A (K := K)) (pe_f0 c__law_told hr (by first | decide | omega) (pa_cons pe_int (pa_cons (pe_lstG (pa_cons (pv 15) (pa_cons (pv 17) pa_nil))) pa_nil))) po_none (po_some pe_int)) pe_str (nomark _)))) pa_nil))) (pw_or1 (pt_cmpR (op_neA (K := K) hr.units) (pe_lc (own := [("value", 18)]) (g := gName 18) (tt := tYes) rfl sc_law.nd (pi_A (K := K) (pe_lstG (pa_cons pe_non (pa_cons pe_int (pa_cons (pe_tupG pa_nil) pa_nil))))) (blkOk_by (N := N_law) (sc := defScope s_law) (by decide +kernel)) (fun _ _ _ _ _ => pg_name (i := 18) sc_law.nd rfl (Or.inl rfl)) (fun _ _ _ _ _ => pts_nil) (fun _ _ _ _ _ => (pe_slice (sl_A (K := K)) (pe_f0 c__law_told hr (by first | decide | omega) (pa_cons pe_int (pa_cons (pv 18) pa_nil))) po_none (po_some pe_int)))) (pe_op op_mulA (pe_lstG (pa_cons pe_str pa_nil)) pe_int) (nomark _))))) (pss_one (ps_ret pe_bl)) pss_nil)
    (pss_cons (ps_if (PW.pt (pw_or (pt_cmpR (op_neA (K := K) hr.units) (pe_f0 c__law_told hr (by first | decide | omega) (pa_cons pe_int (pa_cons (pe_lstG pa_nil) pa_nil))) pe_str (nomark _)) (pw_or1 (pt_cmpR (op_neRefs (K := K) hr.units) (pe_f0 c__law_told hr (by first | decide | omega) (pa_cons pe_int (pa_cons pe_str pa_nil))) (pe_lstG pa_nil) (nomark _))))) (pss_one (ps_ret pe_bl)) pss_nil)
    (pss_one (ps_ret (pe_cmpR (op_eqA (K := K) hr.units) (pe_lc (own := [("value", 18)]) (g := gName 18) (tt := tYes) rfl sc_law.nd (pi_A (K := K) (pe_lstG (pa_cons pe_non (pa_cons pe_int (pa_cons (pe_lstG (pa_cons pe_str pa_nil)) pa_nil))))) (blkOk_by (N := N_law) (sc := defScope s_law) (by decide +kernel)) (fun _ _ _ _ _ => pg_name (i := 18) sc_law.nd rfl (Or.inl rfl)) (fun _ _ _ _ _ => pts_nil) (fun _ _ _ _ _ => (pe_f0 c__law_told hr (by first | decide | omega) (pa_cons pe_int (pa_cons (pv 18) pa_nil))))) (pe_op op_mulA (pe_lstG (pa_cons pe_str pa_nil)) pe_int) (nomark _))))))))))), ?_⟩
    try dsimp only [cxOf]
    refine w_start (show _ = [some _, none, none, none, none, none, none, none, none, none, none, none, none, none, none, none, none, none, none] from rfl) ?_
    walk_at "go"
    refine ⟨a, ns, rfl, hs, hn, fun pd pc H1 npd npc e1 D1 => ?_⟩
    walk_at "go"
    refine w_mid (fun σ' _ => S19 σ') ?_ ?_
    · walk_at "go"
      refine r1_of (n := 4) rfl (by decide) ?_
      refine lp_range (fun t σ' H' => (∃ o2 o3 o4 o5 o6 o7 o8 o9 o10 o11 o12 o13 o14 o15 o16 o17 o18, σ' = [some (.ref a), some (.ref pd), o2, o3, o4, o5, o6, o7, o8, o9, o10, o11, o12, o13, o14, o15, o16, o17, o18]) ∧ Dr H' pd pc (t * 1000)) ⟨⟨none, none, none, none, none, none, none, none, none, none, none, none, none, none, none, none, none, rfl⟩, D1⟩ (fun t σ' H2 ht p => ?_) (fun σ' H2 p => ?_)
      · obtain ⟨⟨o2, o3, o4, o5, o6, o7, o8, o9, o10, o11, o12, o13, o14, o15, o16, o17, o18, rfl⟩, D2⟩ := p
        walk_at "go"
        intro pe H3 n3 e3 h3
        obtain ⟨nd, nc⟩ := D2.new n3
        walk_at "go"
        refine ⟨pd, pc, t * 1000, 4, rfl, by decide, by decide, D2.same e3, by omega, fun m H4 hm b4 t4 D4 => ?_⟩
        walk_at "go"
        refine r1_of (n := m) rfl (by omega) ?_
        refine lp_range (fun i σ' H' => ∃ (ts : List Addr) (es : List LE) (z : Str), (∃ o5 o6 o7 o8 o9 o10 o11 o12 o13 o14 o15 o16 o17 o18, σ' = [some (.ref a), some (.ref pd), some (.int (t : Nat)), some (.ref pe), some (.str z), o5, o6, o7, o8, o9, o10, o11, o12, o13, o14, o15, o16, o17, o18]) ∧ H' pe = some (.lst (ts.map V.ref)) ∧ Paired (EnG K CP H') ts es ∧ (∀ e ∈ es, e.ok) ∧ es.length = i ∧ z.cps.toList = glue (rowsL es) ∧ Dr H' pd pc (t * 1000 + 1 + i * 200))
          ⟨[], [], "", ⟨o5, o6, o7, o8, o9, o10, o11, o12, o13, o14, o15, o16, o17, o18, rfl⟩, b4 _ _ (Ne.symm nd) h3, .nil, (fun e he => nomatch he), rfl, rfl, D4⟩ (fun i σ' H5 hi p => ?_) (fun σ' H5 p => ?_)
        · obtain ⟨ts, es, z, ⟨o5, o6, o7, o8, o9, o10, o11, o12, o13, o14, o15, o16, o17, o18, rfl⟩, h5, hp, hok, hel, hz, D5⟩ := p
          have hzl : z.length ≤ 15000 := by
            have := glue_len es hok
            rw [← hz, len_l] at this
            omega
          walk_at "go"
          intro L1 H6 n6 e6 h6
          walk_at "go"
          refine ⟨pd, pc, t * 1000 + 1 + i * 200, 4, rfl, by decide, by decide, D5.same e6, by omega, fun i1 H7 hi1 b7 t7 D7 => ?_⟩
          obtain ⟨sl, g1, g2, g3⟩ := pick4 i1 hi1
          walk_at "go"
          refine w_ix (.inl (SqL.of (b7 _ _ (Ne.symm (D5.new n6).1) h6))) (atI_nat (j := i1) g1) ?_
          walk_at "go"
          intro L2 H8 n8 e8 h8
          walk_at "go"
          refine ⟨pd, pc, t * 1000 + 1 + i * 200 + 1, 3, rfl, by decide, by decide, D7.same e8, by omega, fun i2 H9 hi2 b9 t9 D9 => ?_⟩
          obtain ⟨st, g4, g5⟩ := pickT i2 hi2
          walk_at "go"
          refine w_ix (.inl (SqL.of (b9 _ _ (Ne.symm (D7.new n8).1) h8))) (atI_nat (j := i2) g4) ?_
          walk_at "go"
          intro L3 H10 n10 e10 h10
          walk_at "go"
          refine ⟨pd, pc, t * 1000 + 1 + i * 200 + 2, 3, rfl, by decide, by decide, D9.same e10, by omega, fun i3 H11 hi3 b11 t11 D11 => ?_⟩
          obtain ⟨sm, g6, g7, g8⟩ := pickM i3 hi3
          walk_at "go"
          refine w_ix (.inl (SqL.of (b11 _ _ (Ne.symm (D9.new n10).1) h10))) (atI_nat (j := i3) g6) ?_
          walk_at "go"
          refine w_lcI ?_
          walk_at "go"
          refine ⟨pd, pc, t * 1000 + 1 + i * 200 + 3, 3, rfl, by decide, by decide, D11, by omega, fun j H12 hj b12 t12 D12 => ?_⟩
          have b512 : But pd H5 H12 := (((((((But.same e6).trans b7).trans (But.same e8)).trans b9).trans (But.same e10)).trans b11).trans b12)
          have t512 : Txt H5 H12 := (((((((Txt.same e6).trans t7).trans (Txt.same e8)).trans t9).trans (Txt.same e10)).trans t11).trans t12)
          walk_at "go"
          refine lr1_of (n := j) rfl (by omega) ?_
          have hcs : costB 3 = 93 := rfl
          refine lcR (fun v => rfl) (fun L nL => ⟨fun i' acc H' => i' ≤ j ∧ acc.length = i' ∧ But pd H12 H' ∧ Txt H12 H' ∧ Dr H' pd pc (t * 1000 + 1 + i * 200 + 4 + i' * 93) ∧ ∃ ds, DpAll K H' acc ds ∧ fzAll ds = true ∧ ds.length = i' ∧ ∀ d ∈ ds, ∃ l, Fine 3 (lenB 3) d l,
            fun H3 e3 h3 => ⟨Nat.zero_le _, rfl, But.same e3, Txt.same e3, (D12.same e3).mono (by omega), [], .nil, rfl, rfl, fun d hd => by cases hd⟩, fun _ _ _ _ => trivial, fun i' y acc H3 R hy p hL hR => ?_, fun acc H13 p hL => ?_⟩)
          · obtain ⟨hij, rfl⟩ := hy
            obtain ⟨p1, p2, p3, p4, p5, ds, p6, p7, p8, p9⟩ := p
            have hnew := D12.new nL
            show tCall _ _ _ _ [_, some (V.ref pd), _, _, _, _, _, _, _, _, _, _, _, _, _, _, _, _, _] H3 R
            walk_at "go"
            refine ⟨pd, pc, t * 1000 + 1 + i * 200 + 4 + i' * 93, rfl, p5, by omega, fun v d l H4 fd hv hfz b4 t4 D4 => ?_⟩
            refine hR v H4 (b4 _ _ (Ne.symm hnew.1) hL) (by omega) fun H5 b5 t5 h5 => ?_
            have hds := DpAll.txt t4 _ _ p7 p6
            refine ⟨hij, by simp [p2], but_new (p3.trans b4) nL b5, (p4.trans t4).trans t5, (D4.but b5 hnew.1 hnew.2).mono (by omega), ds ++ [d], DpAll.append (DpAll.txt t5 _ _ p7 hds) (.cons (Dp.txt t5 d v hfz hv) .nil), fzAll_app p7 (fzAll_one hfz), by simp [p8], fun x hx => ?_⟩
            rcases List.mem_append.mp hx with hx | hx
            · exact p9 x hx
            · rw [List.mem_singleton.mp hx]
              exact ⟨l, fd⟩
          · obtain ⟨p1, p2, p3, p4, p5_, ds, p6, p7, p8, p9⟩ := p
            walk_at "go"
            refine w_tupL (SqL.of hL) ?_
            intro pt H14 n14 e14 h14
            obtain ⟨lx, hf⟩ := fine_tup p9 (by omega)
            have hD14 : Dp K H14 (.ref pt) (.tuple ds) := .tup (SqT.of h14) (DpAll.same e14 _ _ p6)
            have b514 : But pd H5 H14 := (b512.trans p3).trans (But.same e14)
            have t514 : Txt H5 H14 := (t512.trans p4).trans (Txt.same e14)
            walk_at "go"
            intro p5 dx5 H15 n15 h15 e15
            refine ⟨p5, dx5, .str st, .str sm, .ref pt, rfl, h15, fun H16 b16 t16 h16 => ⟨rfl, ?_⟩⟩
            have e16 : Same H14 H16 := same_but e15 b16 n15
            walk_at "go"
            intro T H17 n17 e17 h17
            walk_at "go"
            have b517 : But pd H5 H17 := (b514.trans (But.same e16)).trans (But.same e17)
            have t517 : Txt H5 H17 := (t514.trans (Txt.same e16)).trans (Txt.same e17)
            have hlt : ts.length = es.length := hp.length
            refine w_appG (b517 _ _ (Ne.symm nd) h5) (by rw [List.length_map]; omega) fun H18 b18 t18 h18 => ?_
            have hLE : LE.ok ⟨sl, st, sm, ds, lx⟩ := ⟨g2, g5, g7, hf.wr, hf.ok, by have := hf.dep; show dep (.tuple ds) ≤ 10; omega, g3, g8, by have := hf.len; show lx.length ≤ 4000; have e : 3 * lenB 3 + 6 = 3642 := rfl; omega⟩
            have hpn : pt ≠ pe := fun e => by
              rw [← e] at h5
              have := b514 _ _ (fun e2 => by rw [e2] at e; exact nd e) h5
              rw [h14] at this
              cases this
            have hfz : Lay.fz (.tuple ds) = true := by simp only [Lay.fz]; exact p7
            have t1418 : Txt H14 H18 := ((Txt.same e16).trans (Txt.same e17)).trans t18
            have hD18 : Dp K H18 (.ref pt) (.tuple ds) := Dp.txt t1418 _ _ hfz hD14
            have hwrd : wrd (.tuple ds) 1 = some lx := wr_wrd _ _ 1 hf.wr hf.ok (by have := hf.dep; omega)
            obtain ⟨ff1, ff2, ff3⟩ := wr_fit _ _ hf.wr
            have hlx : lx.length ≤ 4000 := hLE.lx
            have hst := (word_no g5).2.2
            have lst_ := len_l st
            have k1 : (Str.ofString "> ").length = 2 := rfl
            have k2 : (Str.ofString "\n= ").length = 3 := rfl
            have k3 : (Str.ofString " ").length = 1 := rfl
            have k4 : (Str.ofString "\n# ").length = 3 := rfl
            have k5 : (Str.ofString "\n").length = 1 := rfl
            have big : (100000 : Nat) ≤ 1000000 := by decide
            walk_at "go"
            repeat
              refine w_add_str ?hl ?_
              case hl =>
                refine Nat.le_trans (m := 100000) ?_ (by decide)
                try simp only [app_len]
                omega
              walk_at "go"
            refine ⟨.ref pt, .tuple ds, rfl, hD18, ff1, by omega, (fun l hl => by
              rw [hwrd] at hl
              cases hl
              omega), (fun l hl H19 e19 => ?_), fun hn => by
              rw [hwrd] at hn
              cases hn⟩
            rw [hwrd] at hl
            cases hl
            walk_at "go"
            have kx : (⟨lx.toArray⟩ : Str).length = lx.length := by rw [← len_l]
            repeat
              refine w_add_str ?hl ?_
              case hl =>
                refine Nat.le_trans (m := 100000) ?_ (by decide)
                try simp only [app_len]
                omega
              walk_at "go"
            have n519 : Nl H5 H19 := (((Nl.dr D5 b514 t514).trans (Nl.same (e16.trans e17))).trans (Nl.but (b517 _ _ (Ne.symm nd) h5) b18 t18)).trans (Nl.same e19)
            have n1619 : Nl H16 H19 := ((Nl.same e17).trans (Nl.but (b517 _ _ (Ne.symm nd) h5) b18 t18)).trans (Nl.same e19)
            have n1719 : Nl H17 H19 := (Nl.but (b517 _ _ (Ne.symm nd) h5) b18 t18).trans (Nl.same e19)
            refine ⟨ts ++ [T], es ++ [⟨sl, st, sm, ds, lx⟩], _, ⟨_, _, _, _, _, _, _, _, _, _, _, _, _, _, rfl⟩, ?_, paired_app (Paired.mapP hp fun _ _ g => g.nl n519) (.cons ⟨⟨p5, dx5, .ref pt, n1719.keep _ _ h17 (fun _ h => nomatch h), n1619.keep _ _ h16 (fun _ h => nomatch h), Dp.same e19 _ _ hD18, hfz⟩⟩ .nil), ?_, by simp [hel], ?_, ?_⟩
            · rw [List.map_append]
              exact e19 _ _ h18
            · intro e he
              rcases List.mem_append.mp he with he | he
              · exact hok e he
              · rw [List.mem_singleton.mp he]
                exact hLE
            · rw [glue_snoc, ← hz]
              simp only [app_l, r1, r2, r3]
              rw [show (Str.ofString "> ").cps.toList = [62, 32] from rfl, show (Str.ofString "\n= ").cps.toList = [10, 61, 32] from rfl, show (Str.ofString " ").cps.toList = [32] from rfl, show (Str.ofString "\n# ").cps.toList = [10, 35, 32] from rfl, show (Str.ofString "\n").cps.toList = [10] from rfl]
              simp only [List.append_assoc, List.cons_append, List.nil_append]
            · exact (((((p5_.same e14).same e16).same e17).but b18 nd nc).same e19).mono (by omega)
        · obtain ⟨ts, es, z, ⟨o5, o6, o7, o8, o9, o10, o11, o12, o13, o14, o15, o16, o17, o18, rfl⟩, h5, hp, hok, hel, hz, D5⟩ := p
          have hzl : z.length ≤ 15000 := by
            have := glue_len es hok
            rw [← hz, len_l] at this
            omega
          have hlt : ts.length = es.length := hp.length
          walk_at "go"
          intro L1 H6 n6 e6 h6
          walk_at "go"
          refine w_add_lst (e6 _ _ h5) h6 (by simp only [List.length_map, List.length_nil]; omega) ?_
          intro ph H7 n7 e7 h7
          rw [List.append_nil] at h7
          walk_at "go"
          have e57 : Same H5 H7 := e6.trans e7
          have hp7 := Paired.mapP hp fun _ _ g => g.nl (Nl.same e57)
          refine told0_yes (e57 _ _ h5) hp7 hok (by omega) fun H8 e8 => ?_
          have hzz : (⟨(glue (rowsL es)).toArray⟩ : Str) = z := str_ext hz.symm
          rw [hzz]
          have hz3 : z.length ≤ 300000 := by omega
          walk_at "go"
          refine w_iteN (by simp) ?_
          walk_at "go"
          rename_i H9 e9
          obtain ⟨ps, hpl, hdia⟩ := dia_le hok hz
          refine told1_dia hz3 hdia (fun n hn => nomatch hn) (fun ps2 hps D es2 H10 e10 hD10 hl2 hge => ?_)
          cases hps
          have e510 : Same H5 H10 := fun c o h => e10 _ _ (e9 _ _ (e8 _ _ (e57 _ _ h)))
          walk_at "go"
          have hln : es2.length = (List.map V.ref ts).length := by rw [List.length_map]; omega
          refine w_iteN (by rw [hln]; simp) ?_
          walk_at "go"
          refine ⟨pe, ph, ts, rfl, rfl, SqL.of (e510 _ _ h5), SqL.of (e10 _ _ (e9 _ _ (e8 _ _ h7))), ?_⟩
          walk_at "go"
          refine r1_of (n := 6) rfl (by decide) ?_
          refine lp_range (fun r σ' H' => (∃ o5 o6 o7 o8 o9 o10 o11 o12 o13 o14 o15 o16 o17 o18, σ' = [some (.ref a), some (.ref pd), some (.int (t : Nat)), some (.ref pe), some (.str z), o5, o6, o7, o8, o9, o10, o11, o12, o13, o14, o15, o16, o17, o18]) ∧ Dr H' pd pc (t * 1000 + 601 + r * 2)) ⟨⟨_, _, _, _, _, _, _, _, _, _, _, _, _, _, rfl⟩, (D5.same e510).mono (by omega)⟩ (fun r σ' H11 hr' p => ?_) (fun σ' H11 p => ?_)
          · obtain ⟨⟨o5, o6, o7, o8, o9, o10, o11, o12, o13, o14, o15, o16, o17, o18, rfl⟩, D11⟩ := p
            walk_at "go"
            refine ⟨pd, pc, t * 1000 + 601 + r * 2, (z.length : Int) + 1, rfl, by omega, by omega, D11, by omega, fun i1 H12 hi1 b12 t12 D12 => ?_⟩
            walk_at "go"
            intro L2 H13 n13 e13 h13
            walk_at "go"
            refine ⟨pd, pc, t * 1000 + 601 + r * 2 + 1, 8, rfl, by decide, by decide, D12.same e13, by omega, fun i2 H14 hi2 b14 t14 D14 => ?_⟩
            obtain ⟨sg, g1, g2⟩ := pick8 i2 hi2
            walk_at "go"
            refine w_ix (.inl (SqL.of (b14 _ _ (Ne.symm (D12.new n13).1) h13))) (atI_nat (j := i2) g1) ?_
            have c1 := cut_le z none (some (i1 : Int))
            have c2 := cut_le z (some (i1 : Int)) none
            have c3 := cut_le z (some ((i1 : Int) + 1)) none
            have k1 : (Str.ofString "> ").length = 2 := rfl
            have k5 : (Str.ofString "\n").length = 1 := rfl
            walk_at "go"
            repeat
              refine w_add_str ?hl ?_
              case hl =>
                refine Nat.le_trans (m := 100000) ?_ (by decide)
                try simp only [app_len]
                omega
              walk_at "go"
            intro p6 H15 n15 e15 h15
            refine lp_list (SqL.of h15) (fun u σ' H' => (∃ o14, σ' = [some (.ref a), some (.ref pd), some (.int (t : Nat)), some (.ref pe), some (.str z), o5, o6, o7, o8, o9, o10, some (.int (r : Nat)), some (.int (i1 : Nat)), some (.str sg), o14, o15, o16, o17, o18]) ∧ Same H15 H') ⟨⟨_, rfl⟩, Same.refl H15⟩ (fun u σ' H' hu p => ?_) (fun u y σ' H' hy p => ?_) (fun σ' H' p => ?_)
            · exact Same.seq p.2 (SqL.of h15)
            · obtain ⟨⟨o14, rfl⟩, e16⟩ := p
              obtain ⟨s5, rfl, hs5⟩ : ∃ s5 : Str, y = .str s5 ∧ s5.length ≤ 300000 := by
                have := List.mem_of_getElem? hy
                simp only [List.mem_cons, List.not_mem_nil, or_false] at this
                rcases this with rfl | rfl | rfl | rfl | rfl <;> refine ⟨_, rfl, ?_⟩ <;> (try simp only [app_len]) <;> omega
              walk_at "go"
              rename_i H17 e17
              exact ⟨⟨_, rfl⟩, e16.trans e17⟩
            · obtain ⟨⟨o14, rfl⟩, e16⟩ := p
              exact ⟨⟨_, _, _, _, _, _, _, _, _, _, _, _, _, _, rfl⟩, (D14.same (e15.trans e16)).mono (by omega)⟩
          · obtain ⟨⟨o5, o6, o7, o8, o9, o10, o11, o12, o13, o14, o15, o16, o17, o18, rfl⟩, D11⟩ := p
            exact ⟨⟨_, _, _, _, _, _, _, _, _, _, _, _, _, _, _, _, _, rfl⟩, D11.mono (by omega)⟩
      · obtain ⟨⟨o2, o3, o4, o5, o6, o7, o8, o9, o10, o11, o12, o13, o14, o15, o16, o17, o18, rfl⟩, D2⟩ := p
        exact ⟨_, _, _, _, _, _, _, _, _, _, _, _, _, _, _, _, _, _, _, rfl⟩
    · intro σ' H2 hS
      exact law_b hS hT0 q
end
end K66

set_option exponentiation.threshold 256
set_option Elab.async false
set_option linter.all false
set_option maxRecDepth 100000
set_option maxHeartbeats 4000000
namespace K66
open PySem PySem.Spec PyProof.Rows L2 Lay
theorem exm_self {K : PySem.W.Frag} {S : Addr} (h1 : PySem.W.subIn K (.ref S) (.type "BaseException") = some true) (h2 : PySem.W.isClsIn K S = true) (h3 : PySem.W.typeIn K (.ref S) = some (.type "type")) (h4 : PySem.W.subIn K (.ref S) (.ref S) = some true) :
    PySem.W.exmOne K (.ref S) (.ref S) = some true := by
  have e1 : (PySem.W.subIn K (.ref S) (.type "BaseException") == some true) = true := by rw [h1] <;> rfl
  have e2 : ((PySem.W.clsIn K S).isSome && PySem.W.typeIn K (.ref S) == some (.type "type")) = true := by
    have h2' : (PySem.W.clsIn K S).isSome = true := h2
    rw [h2', h3] <;> rfl
  show (if (PySem.W.subIn K (.ref S) (.type "BaseException") == some true) = true then (if ((PySem.W.clsIn K S).isSome && PySem.W.typeIn K (.ref S) == some (.type "type")) = true then PySem.W.subIn K (.ref S) (.ref S) else none) else none) = some true
  rw [if_pos e1, if_pos e2]
  exact h4
theorem signs_get {K : PySem.W.Frag} {CS : Addr} {oc : Value} {od : Option Addr} {es : Array DictEntry} {n : Nat} {sl : Array (Option Value)} {e1 e2 e3 : DictEntry} {t1 t2 t3 t4 : Tok} (l : K.lookup CS = some ⟨oc, od, .dict es n, sl⟩) (he : es.toList = [e1, e2, e3])
    (h1 : e1.key = .str "+" t1 ∧ e1.val = .bool true) (h2 : e2.key = .str "-" t2 ∧ e2.val = .bool false) (h3 : e3.key = .str "." t3 ∧ e3.val = .str "" t4) (z : Str) :
    ∃ r, PySem.W.nsIn K CS z = some r ∧ (match signV z with | some v => ∃ u, r = some u ∧ RelV v u | none => r = none) := by
  have hk : ∀ (c : Nat) (s : String) (t : Tok), (Str.ofString s).cps.toList = [c] → (Value.str (Str.ofString s) t).isStr z = decide (z.cps.toList = [c]) := fun c s t hs => by
    rw [PySem.W.isStr_of]
    show (Str.ofString s == z) = _
    have : (Str.ofString s == z) = decide (Str.ofString s = z) := by
      by_cases h : Str.ofString s = z
      · rw [h, decide_eq_true rfl]
        exact beq_self_eq_true z
      · rw [decide_eq_false h]
        exact beq_eq_false_iff_ne.mpr h
    rw [this, decide_eq_decide]
    exact ⟨fun h => by rw [← h, hs], fun h => str_ext (by rw [hs, h])⟩
  have k1 := hk 43 "+" t1 rfl
  have k2 := hk 45 "-" t2 rfl
  have k3 := hk 46 "." t3 rfl
  have r1 : e1.refKey = false := by
    unfold DictEntry.refKey
    rw [h1.1]
  have r2 : e2.refKey = false := by
    unfold DictEntry.refKey
    rw [h2.1]
  have r3 : e3.refKey = false := by
    unfold DictEntry.refKey
    rw [h3.1]
  unfold PySem.W.nsIn
  rw [l]
  simp only [he]
  unfold signV
  cases c1 : decide (z.cps.toList = [43]) with
  | true =>
    refine ⟨some e1.val, ?_, ?_⟩
    · simp only [List.find?, h1.1, k1, c1]
    · rw [if_pos (of_decide_eq_true c1)]
      exact ⟨_, rfl, by rw [h1.2]; rfl⟩
  | false =>
    rw [if_neg (of_decide_eq_false c1)]
    cases c2 : decide (z.cps.toList = [45]) with
    | true =>
      refine ⟨some e2.val, ?_, ?_⟩
      · simp only [List.find?, h1.1, h2.1, k1, k2, c1, c2]
      · rw [if_pos (of_decide_eq_true c2)]
        exact ⟨_, rfl, by rw [h2.2]; rfl⟩
    | false =>
      rw [if_neg (of_decide_eq_false c2)]
      cases c3 : decide (z.cps.toList = [46]) with
      | true =>
        refine ⟨some e3.val, ?_, ?_⟩
        · simp only [List.find?, h1.1, h2.1, h3.1, k1, k2, k3, c1, c2, c3]
        · rw [if_pos (of_decide_eq_true c3)]
          exact ⟨_, rfl, by rw [h3.2]; exact ⟨_, rfl⟩⟩
      | false =>
        rw [if_neg (of_decide_eq_false c3)]
        refine ⟨none, ?_, rfl⟩
        simp only [List.find?, h1.1, h2.1, h3.1, k1, k2, k3, c1, c2, c3, List.any, r1, r2, r3]
        rfl
theorem fn_false {P : Program} {w : World} {K : PySem.W.Frag} {mg : Str → Option Value} {base : Heap} {CX : CXT} {x qual : Str} {st : Stmt} {f : Addr} {fd : FuncData} {ps : List Str} (k : Nat) (F : Fun K x qual st f fd) : FnOk P w K mg base CX k f fd ps (fun _ _ _ _ => False) :=
  ⟨fun _ _ _ _ h => h.elim, fun _ _ _ _ _ _ _ _ _ _ _ _ _ h => h.elim⟩
theorem all_mk {P : Program} {w : World} {K : PySem.W.Frag} {h : Heap} {mg : Str → Option Value} {fa CR CP CM CS : Addr} (X : K.In h) (G : h.Ns mainGlobals mg) (hfa : mg "law" = some (.ref fa))
    {od0 an0 : Option Addr} {sl0 : Array (Option Value)} {oc0 kV0 dc0 pm0 cd0 ct0 : Value} {f0 : Addr}
    {od1 an1 : Option Addr} {sl1 : Array (Option Value)} {oc1 kV1 dc1 pm1 cd1 ct1 : Value} {f1 : Addr}
    {od2 an2 : Option Addr} {sl2 : Array (Option Value)} {oc2 kV2 dc2 pm2 cd2 ct2 : Value} {f2 : Addr}
    {od3 an3 : Option Addr} {sl3 : Array (Option Value)} {oc3 kV3 dc3 pm3 cd3 ct3 : Value} {f3 : Addr}
    {od4 an4 : Option Addr} {sl4 : Array (Option Value)} {oc4 kV4 dc4 pm4 cd4 ct4 : Value} {f4 : Addr}
    {od5 an5 : Option Addr} {sl5 : Array (Option Value)} {oc5 kV5 dc5 pm5 cd5 ct5 : Value} {f5 : Addr}
    {od6 an6 : Option Addr} {sl6 : Array (Option Value)} {oc6 kV6 dc6 pm6 cd6 ct6 : Value} {f6 : Addr}
    {od7 an7 : Option Addr} {sl7 : Array (Option Value)} {oc7 kV7 dc7 pm7 cd7 ct7 : Value} {f7 : Addr}
    {od8 an8 : Option Addr} {sl8 : Array (Option Value)} {oc8 kV8 dc8 pm8 cd8 ct8 : Value} {f8 : Addr}
    {od9 an9 : Option Addr} {sl9 : Array (Option Value)} {oc9 kV9 dc9 pm9 cd9 ct9 : Value} {f9 : Addr}
    {od10 an10 : Option Addr} {sl10 : Array (Option Value)} {oc10 kV10 dc10 pm10 cd10 ct10 : Value} {f10 : Addr}
    {od11 an11 : Option Addr} {sl11 : Array (Option Value)} {oc11 kV11 dc11 pm11 cd11 ct11 : Value} {f11 : Addr}
    {od12 an12 : Option Addr} {sl12 : Array (Option Value)} {oc12 kV12 dc12 pm12 cd12 ct12 : Value} {f12 : Addr}
    {od13 an13 : Option Addr} {sl13 : Array (Option Value)} {oc13 kV13 dc13 pm13 cd13 ct13 : Value} {f13 : Addr}
    {od14 an14 : Option Addr} {sl14 : Array (Option Value)} {oc14 kV14 dc14 pm14 cd14 ct14 : Value} {f14 : Addr}
    {od15 an15 : Option Addr} {sl15 : Array (Option Value)} {oc15 kV15 dc15 pm15 cd15 ct15 : Value} {f15 : Addr}
    {od16 an16 : Option Addr} {sl16 : Array (Option Value)} {oc16 kV16 dc16 pm16 cd16 ct16 : Value} {f16 : Addr}
    {od17 an17 : Option Addr} {sl17 : Array (Option Value)} {oc17 kV17 dc17 pm17 cd17 ct17 : Value} {f17 : Addr}
    {od18 an18 : Option Addr} {sl18 : Array (Option Value)} {oc18 kV18 dc18 pm18 cd18 ct18 : Value} {f18 : Addr}
    {od19 an19 : Option Addr} {sl19 : Array (Option Value)} {oc19 kV19 dc19 pm19 cd19 ct19 : Value} {f19 : Addr}
    {od20 an20 : Option Addr} {sl20 : Array (Option Value)} {oc20 kV20 dc20 pm20 cd20 ct20 : Value} {f20 : Addr}
    {od21 an21 : Option Addr} {sl21 : Array (Option Value)} {oc21 kV21 dc21 pm21 cd21 ct21 : Value} {f21 : Addr}
    {od22 an22 : Option Addr} {sl22 : Array (Option Value)} {oc22 kV22 dc22 pm22 cd22 ct22 : Value} {f22 : Addr}
    {od23 an23 : Option Addr} {sl23 : Array (Option Value)} {oc23 kV23 dc23 pm23 cd23 ct23 : Value} {f23 : Addr}
    {od24 an24 : Option Addr} {sl24 : Array (Option Value)} {oc24 kV24 dc24 pm24 cd24 ct24 : Value} {f24 : Addr}
    {od25 an25 : Option Addr} {sl25 : Array (Option Value)} {oc25 kV25 dc25 pm25 cd25 ct25 : Value} {f25 : Addr}
    {od26 an26 : Option Addr} {sl26 : Array (Option Value)} {oc26 kV26 dc26 pm26 cd26 ct26 : Value} {f26 : Addr}
    {od27 an27 : Option Addr} {sl27 : Array (Option Value)} {oc27 kV27 dc27 pm27 cd27 ct27 : Value} {f27 : Addr}
    {od28 an28 : Option Addr} {sl28 : Array (Option Value)} {oc28 kV28 dc28 pm28 cd28 ct28 : Value} {f28 : Addr}
    {od29 an29 : Option Addr} {sl29 : Array (Option Value)} {oc29 kV29 dc29 pm29 cd29 ct29 : Value} {f29 : Addr}
    {od30 an30 : Option Addr} {sl30 : Array (Option Value)} {oc30 kV30 dc30 pm30 cd30 ct30 : Value} {f30 : Addr}
    {TD T0 CK : Addr} {odD odT0 odK : Option Addr} {itsD itsT0 itsK : Array Value} {nD nT0 nK : Nat} {slD slT0 slK : Array (Option Value)} {uD1 m1 m2 m3 : Value}
    {u_LETTERS : Value}
    {u_DIGITS : Value}
    {u_MOST_WORD : Value}
    {u_MOST_DEPTH : Value}
    {u_MOST_DIGITS : Value}
    {es : Array DictEntry} {nS : Nat} {e1 e2 e3 : DictEntry} {t1 t2 t3 t4 : Tok}
    (a0 : PySem.W.nsIn K mainGlobals "is_whole" = some (some (.ref f0)))
    (l0 : K.lookup f0 = some ⟨oc0, od0, .func (PySem.W.fnOf "is_whole" "is_whole" (defArgs s_is_whole) (defBody s_is_whole) (defScope s_is_whole) .none kV0 dc0 pm0 an0 cd0 ct0), sl0⟩)
    (c0 : PySem.W.codeIn K cd0 "is_whole" = true)
    (k0 : PySem.W.keepIn K (.ref f0) = true)
    (a1 : PySem.W.nsIn K mainGlobals "is_word" = some (some (.ref f1)))
    (l1 : K.lookup f1 = some ⟨oc1, od1, .func (PySem.W.fnOf "is_word" "is_word" (defArgs s_is_word) (defBody s_is_word) (defScope s_is_word) .none kV1 dc1 pm1 an1 cd1 ct1), sl1⟩)
    (c1 : PySem.W.codeIn K cd1 "is_word" = true)
    (k1 : PySem.W.keepIn K (.ref f1) = true)
    (a2 : PySem.W.nsIn K mainGlobals "is_short" = some (some (.ref f2)))
    (l2 : K.lookup f2 = some ⟨oc2, od2, .func (PySem.W.fnOf "is_short" "is_short" (defArgs s_is_short) (defBody s_is_short) (defScope s_is_short) .none kV2 dc2 pm2 an2 cd2 ct2), sl2⟩)
    (c2 : PySem.W.codeIn K cd2 "is_short" = true)
    (k2 : PySem.W.keepIn K (.ref f2) = true)
    (a3 : PySem.W.nsIn K mainGlobals "atom_text" = some (some (.ref f3)))
    (l3 : K.lookup f3 = some ⟨oc3, od3, .func (PySem.W.fnOf "atom_text" "atom_text" (defArgs s_atom_text) (defBody s_atom_text) (defScope s_atom_text) .none kV3 dc3 pm3 an3 cd3 ct3), sl3⟩)
    (c3 : PySem.W.codeIn K cd3 "atom_text" = true)
    (k3 : PySem.W.keepIn K (.ref f3) = true)
    (a4 : PySem.W.nsIn K mainGlobals "write_data" = some (some (.ref f4)))
    (l4 : K.lookup f4 = some ⟨oc4, od4, .func (PySem.W.fnOf "write_data" "write_data" (defArgs s_write_data) (defBody s_write_data) (defScope s_write_data) .none kV4 dc4 pm4 an4 cd4 ct4), sl4⟩)
    (c4 : PySem.W.codeIn K cd4 "write_data" = true)
    (k4 : PySem.W.keepIn K (.ref f4) = true)
    (a5 : PySem.W.nsIn K mainGlobals "read_whole" = some (some (.ref f5)))
    (l5 : K.lookup f5 = some ⟨oc5, od5, .func (PySem.W.fnOf "read_whole" "read_whole" (defArgs s_read_whole) (defBody s_read_whole) (defScope s_read_whole) .none kV5 dc5 pm5 an5 cd5 ct5), sl5⟩)
    (c5 : PySem.W.codeIn K cd5 "read_whole" = true)
    (k5 : PySem.W.keepIn K (.ref f5) = true)
    (a6 : PySem.W.nsIn K mainGlobals "read_atom" = some (some (.ref f6)))
    (l6 : K.lookup f6 = some ⟨oc6, od6, .func (PySem.W.fnOf "read_atom" "read_atom" (defArgs s_read_atom) (defBody s_read_atom) (defScope s_read_atom) .none kV6 dc6 pm6 an6 cd6 ct6), sl6⟩)
    (c6 : PySem.W.codeIn K cd6 "read_atom" = true)
    (k6 : PySem.W.keepIn K (.ref f6) = true)
    (a7 : PySem.W.nsIn K mainGlobals "pieces_of" = some (some (.ref f7)))
    (l7 : K.lookup f7 = some ⟨oc7, od7, .func (PySem.W.fnOf "pieces_of" "pieces_of" (defArgs s_pieces_of) (defBody s_pieces_of) (defScope s_pieces_of) .none kV7 dc7 pm7 an7 cd7 ct7), sl7⟩)
    (c7 : PySem.W.codeIn K cd7 "pieces_of" = true)
    (k7 : PySem.W.keepIn K (.ref f7) = true)
    (a8 : PySem.W.nsIn K mainGlobals "read_data" = some (some (.ref f8)))
    (l8 : K.lookup f8 = some ⟨oc8, od8, .func (PySem.W.fnOf "read_data" "read_data" (defArgs s_read_data) (defBody s_read_data) (defScope s_read_data) .none kV8 dc8 pm8 an8 cd8 ct8), sl8⟩)
    (c8 : PySem.W.codeIn K cd8 "read_data" = true)
    (k8 : PySem.W.keepIn K (.ref f8) = true)
    (a9 : PySem.W.nsIn K mainGlobals "is_same" = some (some (.ref f9)))
    (l9 : K.lookup f9 = some ⟨oc9, od9, .func (PySem.W.fnOf "is_same" "is_same" (defArgs s_is_same) (defBody s_is_same) (defScope s_is_same) .none kV9 dc9 pm9 an9 cd9 ct9), sl9⟩)
    (c9 : PySem.W.codeIn K cd9 "is_same" = true)
    (k9 : PySem.W.keepIn K (.ref f9) = true)
    (a10 : PySem.W.nsIn K mainGlobals "is_text" = some (some (.ref f10)))
    (l10 : K.lookup f10 = some ⟨oc10, od10, .func (PySem.W.fnOf "is_text" "is_text" (defArgs s_is_text) (defBody s_is_text) (defScope s_is_text) .none kV10 dc10 pm10 an10 cd10 ct10), sl10⟩)
    (c10 : PySem.W.codeIn K cd10 "is_text" = true)
    (k10 : PySem.W.keepIn K (.ref f10) = true)
    (a11 : PySem.W.nsIn K mainGlobals "write_diary" = some (some (.ref f11)))
    (l11 : K.lookup f11 = some ⟨oc11, od11, .func (PySem.W.fnOf "write_diary" "write_diary" (defArgs s_write_diary) (defBody s_write_diary) (defScope s_write_diary) .none kV11 dc11 pm11 an11 cd11 ct11), sl11⟩)
    (c11 : PySem.W.codeIn K cd11 "write_diary" = true)
    (k11 : PySem.W.keepIn K (.ref f11) = true)
    (a12 : PySem.W.nsIn K mainGlobals "read_part" = some (some (.ref f12)))
    (l12 : K.lookup f12 = some ⟨oc12, od12, .func (PySem.W.fnOf "read_part" "read_part" (defArgs s_read_part) (defBody s_read_part) (defScope s_read_part) .none kV12 dc12 pm12 an12 cd12 ct12), sl12⟩)
    (c12 : PySem.W.codeIn K cd12 "read_part" = true)
    (k12 : PySem.W.keepIn K (.ref f12) = true)
    (a13 : PySem.W.nsIn K mainGlobals "read_diary" = some (some (.ref f13)))
    (l13 : K.lookup f13 = some ⟨oc13, od13, .func (PySem.W.fnOf "read_diary" "read_diary" (defArgs s_read_diary) (defBody s_read_diary) (defScope s_read_diary) .none kV13 dc13 pm13 an13 cd13 ct13), sl13⟩)
    (c13 : PySem.W.codeIn K cd13 "read_diary" = true)
    (k13 : PySem.W.keepIn K (.ref f13) = true)
    (a14 : PySem.W.nsIn K mainGlobals "_law_draw" = some (some (.ref f14)))
    (l14 : K.lookup f14 = some ⟨oc14, od14, .func (PySem.W.fnOf "_law_draw" "_law_draw" (defArgs s__law_draw) (defBody s__law_draw) (defScope s__law_draw) .none kV14 dc14 pm14 an14 cd14 ct14), sl14⟩)
    (c14 : PySem.W.codeIn K cd14 "_law_draw" = true)
    (k14 : PySem.W.keepIn K (.ref f14) = true)
    (a15 : PySem.W.nsIn K mainGlobals "_law_take" = some (some (.ref f15)))
    (l15 : K.lookup f15 = some ⟨oc15, od15, .func (PySem.W.fnOf "_law_take" "_law_take" (defArgs s__law_take) (defBody s__law_take) (defScope s__law_take) .none kV15 dc15 pm15 an15 cd15 ct15), sl15⟩)
    (c15 : PySem.W.codeIn K cd15 "_law_take" = true)
    (k15 : PySem.W.keepIn K (.ref f15) = true)
    (a16 : PySem.W.nsIn K mainGlobals "_law_data" = some (some (.ref f16)))
    (l16 : K.lookup f16 = some ⟨oc16, od16, .func (PySem.W.fnOf "_law_data" "_law_data" (defArgs s__law_data) (defBody s__law_data) (defScope s__law_data) .none kV16 dc16 pm16 an16 cd16 ct16), sl16⟩)
    (c16 : PySem.W.codeIn K cd16 "_law_data" = true)
    (k16 : PySem.W.keepIn K (.ref f16) = true)
    (a17 : PySem.W.nsIn K mainGlobals "_law_is_word" = some (some (.ref f17)))
    (l17 : K.lookup f17 = some ⟨oc17, od17, .func (PySem.W.fnOf "_law_is_word" "_law_is_word" (defArgs s__law_is_word) (defBody s__law_is_word) (defScope s__law_is_word) .none kV17 dc17 pm17 an17 cd17 ct17), sl17⟩)
    (c17 : PySem.W.codeIn K cd17 "_law_is_word" = true)
    (k17 : PySem.W.keepIn K (.ref f17) = true)
    (a18 : PySem.W.nsIn K mainGlobals "_law_read" = some (some (.ref f18)))
    (l18 : K.lookup f18 = some ⟨oc18, od18, .func (PySem.W.fnOf "_law_read" "_law_read" (defArgs s__law_read) (defBody s__law_read) (defScope s__law_read) .none kV18 dc18 pm18 an18 cd18 ct18), sl18⟩)
    (c18 : PySem.W.codeIn K cd18 "_law_read" = true)
    (k18 : PySem.W.keepIn K (.ref f18) = true)
    (a19 : PySem.W.nsIn K mainGlobals "_law_due" = some (some (.ref f19)))
    (l19 : K.lookup f19 = some ⟨oc19, od19, .func (PySem.W.fnOf "_law_due" "_law_due" (defArgs s__law_due) (defBody s__law_due) (defScope s__law_due) .none kV19 dc19 pm19 an19 cd19 ct19), sl19⟩)
    (c19 : PySem.W.codeIn K cd19 "_law_due" = true)
    (k19 : PySem.W.keepIn K (.ref f19) = true)
    (a20 : PySem.W.nsIn K mainGlobals "_law_told" = some (some (.ref f20)))
    (l20 : K.lookup f20 = some ⟨oc20, od20, .func (PySem.W.fnOf "_law_told" "_law_told" (defArgs s__law_told) (defBody s__law_told) (defScope s__law_told) .none kV20 dc20 pm20 an20 cd20 ct20), sl20⟩)
    (c20 : PySem.W.codeIn K cd20 "_law_told" = true)
    (k20 : PySem.W.keepIn K (.ref f20) = true)
    (a21 : PySem.W.nsIn K mainGlobals "_law_fits" = some (some (.ref f21)))
    (l21 : K.lookup f21 = some ⟨oc21, od21, .func (PySem.W.fnOf "_law_fits" "_law_fits" (defArgs s__law_fits) (defBody s__law_fits) (defScope s__law_fits) .none kV21 dc21 pm21 an21 cd21 ct21), sl21⟩)
    (c21 : PySem.W.codeIn K cd21 "_law_fits" = true)
    (k21 : PySem.W.keepIn K (.ref f21) = true)
    (a22 : PySem.W.nsIn K mainGlobals "law" = some (some (.ref f22)))
    (l22 : K.lookup f22 = some ⟨oc22, od22, .func (PySem.W.fnOf "law" "law" (defArgs s_law) (defBody s_law) (defScope s_law) .none kV22 dc22 pm22 an22 cd22 ct22), sl22⟩)
    (c22 : PySem.W.codeIn K cd22 "law" = true)
    (k22 : PySem.W.keepIn K (.ref f22) = true)
    (a23 : PySem.W.findIn K (.ref CR) "__init__" = some (some (.ref f23)))
    (i23 : PySem.W.isFn K (.ref f23) = true)
    (l23 : K.lookup f23 = some ⟨oc23, od23, .func (PySem.W.fnOf "__init__" "DataReader.__init__" (defArgs s_DataReader___init__) (defBody s_DataReader___init__) (defScope s_DataReader___init__) .none kV23 dc23 pm23 an23 cd23 ct23), sl23⟩)
    (c23 : PySem.W.codeIn K cd23 "DataReader.__init__" = true)
    (k23 : PySem.W.keepIn K (.ref f23) = true)
    (a24 : PySem.W.findIn K (.ref CR) "item" = some (some (.ref f24)))
    (i24 : PySem.W.isFn K (.ref f24) = true)
    (l24 : K.lookup f24 = some ⟨oc24, od24, .func (PySem.W.fnOf "item" "DataReader.item" (defArgs s_DataReader_item) (defBody s_DataReader_item) (defScope s_DataReader_item) .none kV24 dc24 pm24 an24 cd24 ct24), sl24⟩)
    (c24 : PySem.W.codeIn K cd24 "DataReader.item" = true)
    (k24 : PySem.W.keepIn K (.ref f24) = true)
    (a25 : PySem.W.findIn K (.ref CR) "open_one" = some (some (.ref f25)))
    (i25 : PySem.W.isFn K (.ref f25) = true)
    (l25 : K.lookup f25 = some ⟨oc25, od25, .func (PySem.W.fnOf "open_one" "DataReader.open_one" (defArgs s_DataReader_open_one) (defBody s_DataReader_open_one) (defScope s_DataReader_open_one) .none kV25 dc25 pm25 an25 cd25 ct25), sl25⟩)
    (c25 : PySem.W.codeIn K cd25 "DataReader.open_one" = true)
    (k25 : PySem.W.keepIn K (.ref f25) = true)
    (a26 : PySem.W.findIn K (.ref CR) "close_one" = some (some (.ref f26)))
    (i26 : PySem.W.isFn K (.ref f26) = true)
    (l26 : K.lookup f26 = some ⟨oc26, od26, .func (PySem.W.fnOf "close_one" "DataReader.close_one" (defArgs s_DataReader_close_one) (defBody s_DataReader_close_one) (defScope s_DataReader_close_one) .none kV26 dc26 pm26 an26 cd26 ct26), sl26⟩)
    (c26 : PySem.W.codeIn K cd26 "DataReader.close_one" = true)
    (k26 : PySem.W.keepIn K (.ref f26) = true)
    (a27 : PySem.W.findIn K (.ref CR) "comma" = some (some (.ref f27)))
    (i27 : PySem.W.isFn K (.ref f27) = true)
    (l27 : K.lookup f27 = some ⟨oc27, od27, .func (PySem.W.fnOf "comma" "DataReader.comma" (defArgs s_DataReader_comma) (defBody s_DataReader_comma) (defScope s_DataReader_comma) .none kV27 dc27 pm27 an27 cd27 ct27), sl27⟩)
    (c27 : PySem.W.codeIn K cd27 "DataReader.comma" = true)
    (k27 : PySem.W.keepIn K (.ref f27) = true)
    (a28 : PySem.W.findIn K (.ref CR) "take" = some (some (.ref f28)))
    (i28 : PySem.W.isFn K (.ref f28) = true)
    (l28 : K.lookup f28 = some ⟨oc28, od28, .func (PySem.W.fnOf "take" "DataReader.take" (defArgs s_DataReader_take) (defBody s_DataReader_take) (defScope s_DataReader_take) .none kV28 dc28 pm28 an28 cd28 ct28), sl28⟩)
    (c28 : PySem.W.codeIn K cd28 "DataReader.take" = true)
    (k28 : PySem.W.keepIn K (.ref f28) = true)
    (a29 : PySem.W.findIn K (.ref CP) "__init__" = some (some (.ref f29)))
    (i29 : PySem.W.isFn K (.ref f29) = true)
    (l29 : K.lookup f29 = some ⟨oc29, od29, .func (PySem.W.fnOf "__init__" "Reply.__init__" (defArgs s_Reply___init__) (defBody s_Reply___init__) (defScope s_Reply___init__) (.ref TD) kV29 dc29 pm29 an29 cd29 ct29), sl29⟩)
    (c29 : PySem.W.codeIn K cd29 "Reply.__init__" = true)
    (k29 : PySem.W.keepIn K (.ref f29) = true)
    (a30 : PySem.W.findIn K (.ref CP) "__eq__" = some (some (.ref f30)))
    (i30 : PySem.W.isFn K (.ref f30) = true)
    (l30 : K.lookup f30 = some ⟨oc30, od30, .func (PySem.W.fnOf "__eq__" "Reply.__eq__" (defArgs s_Reply___eq__) (defBody s_Reply___eq__) (defScope s_Reply___eq__) .none kV30 dc30 pm30 an30 cd30 ct30), sl30⟩)
    (c30 : PySem.W.codeIn K cd30 "Reply.__eq__" = true)
    (k30 : PySem.W.keepIn K (.ref f30) = true)
    (aC : PySem.W.nsIn K mainGlobals "DataReader" = some (some (.ref CR)))
    (aP : PySem.W.nsIn K mainGlobals "Reply" = some (some (.ref CP)))
    (Dpg : PySem.W.plainGet K CR Str.empty = true)
    (Dhd : PySem.W.hasDictIn K CR = true)
    (Dpo : PySem.W.plainOver K CR = true)
    (Dsa : PySem.W.findIn K (.ref CR) "__setattr__" = some (some (.builtin "object.__setattr__")))
    (Dmk : PySem.W.makesIn K CR = true)
    (Dkc : PySem.W.keepIn K (.ref CR) = true)
    (Dn_tuples : PySem.W.findIn K (.ref CR) "tuples" = some none)
    (Dn_ready : PySem.W.findIn K (.ref CR) "ready" = some none)
    (Dn_told : PySem.W.findIn K (.ref CR) "told" = some none)
    (Rpg : PySem.W.plainGet K CP Str.empty = true)
    (Rhd : PySem.W.hasDictIn K CP = true)
    (Rpo : PySem.W.plainOver K CP = true)
    (Rsa : PySem.W.findIn K (.ref CP) "__setattr__" = some (some (.builtin "object.__setattr__")))
    (Rmk : PySem.W.makesIn K CP = true)
    (Rkc : PySem.W.keepIn K (.ref CP) = true)
    (Rn_kind : PySem.W.findIn K (.ref CP) "kind" = some none)
    (Rn_text : PySem.W.findIn K (.ref CP) "text" = some none)
    (Rn_data : PySem.W.findIn K (.ref CP) "data" = some none)
    (Rha : PySem.W.findIn K (.ref CP) "__class__" = some (some (.builtin "object.__class__")))
    (Rhn : PySem.W.specialIn K (.builtin "object.__class__") "__get__" = some (some (.builtin "getset_descriptor.__get__")))
    (Rht : PySem.W.takesIn K (.builtin "object.__class__") = some true)
    (Rhm : PySem.W.mroIn K CP (.type "object") = some true)
    (Rme : PySem.W.kitOne K (.ref CP) (.ref CP) = some true)
    (Rnt : PySem.W.kitOne K (.type "tuple") (.ref CP) = some false)
    (lD : K.lookup TD = some ⟨.type "tuple", odD, .seq itsD nD, slD⟩)
    (eD : itsD.toList = [uD1, .ref T0])
    (rD : RelV (.str "") uD1)
    (lT0 : K.lookup T0 = some ⟨.type "tuple", odT0, .seq itsT0 nT0, slT0⟩)
    (eT0 : itsT0.toList = [])
    (zT0 : itsT0.size = 0)
    (aK : PySem.W.nsIn K mainGlobals "MARKS" = some (some (.ref CK)))
    (lK : K.lookup CK = some ⟨.type "tuple", odK, .seq itsK nK, slK⟩)
    (eK : itsK.toList = [m1, m2, m3])
    (zK : itsK.size = 3)
    (rK1 : RelV (.str "> ") m1)
    (rK2 : RelV (.str "= ") m2)
    (rK3 : RelV (.str "# ") m3)
    (aM : PySem.W.nsIn K mainGlobals "Malformed" = some (some (.ref CM)))
    (xM : PySem.W.excIn K CM [.type "ValueError", .type "Exception", .type "BaseException", .type "object"] "ValueError.__new__" = true)
    (kM : PySem.W.keepIn K (.ref CM) = true)
    (bM : PySem.W.subIn K (.ref CM) (.type "BaseException") = some true)
    (tM : PySem.W.typeIn K (.ref CM) = some (.type "type"))
    (iM : PySem.W.isClsIn K CM = true)
    (sM : PySem.W.subIn K (.ref CM) (.ref CM) = some true)
    (stM : PySem.W.findIn K (.ref CM) "__str__" = some (some (.builtin "BaseException.__str__")))
    (b_isinstance : PySem.W.nsIn K mainGlobals "isinstance" = some none)
    (b_int : PySem.W.nsIn K mainGlobals "int" = some none)
    (b_bool : PySem.W.nsIn K mainGlobals "bool" = some none)
    (b_str : PySem.W.nsIn K mainGlobals "str" = some none)
    (b_tuple : PySem.W.nsIn K mainGlobals "tuple" = some none)
    (b_len : PySem.W.nsIn K mainGlobals "len" = some none)
    (b_all : PySem.W.nsIn K mainGlobals "all" = some none)
    (b_any : PySem.W.nsIn K mainGlobals "any" = some none)
    (b_range : PySem.W.nsIn K mainGlobals "range" = some none)
    (b_enumerate : PySem.W.nsIn K mainGlobals "enumerate" = some none)
    (b_abs : PySem.W.nsIn K mainGlobals "abs" = some none)
    (b_repr : PySem.W.nsIn K mainGlobals "repr" = some none)
    (b_list : PySem.W.nsIn K mainGlobals "list" = some none)
    (b_zip : PySem.W.nsIn K mainGlobals "zip" = some none)
    (v_LETTERS : PySem.W.nsIn K mainGlobals "LETTERS" = some (some u_LETTERS))
    (r_LETTERS : RelV (.str sLET) u_LETTERS)
    (v_DIGITS : PySem.W.nsIn K mainGlobals "DIGITS" = some (some u_DIGITS))
    (r_DIGITS : RelV (.str sDIG) u_DIGITS)
    (v_MOST_WORD : PySem.W.nsIn K mainGlobals "MOST_WORD" = some (some u_MOST_WORD))
    (r_MOST_WORD : RelV (.int 12) u_MOST_WORD)
    (v_MOST_DEPTH : PySem.W.nsIn K mainGlobals "MOST_DEPTH" = some (some u_MOST_DEPTH))
    (r_MOST_DEPTH : RelV (.int 1000) u_MOST_DEPTH)
    (v_MOST_DIGITS : PySem.W.nsIn K mainGlobals "MOST_DIGITS" = some (some u_MOST_DIGITS))
    (r_MOST_DIGITS : RelV (.int 4000) u_MOST_DIGITS)
    (zd : PySem.W.nsIn K cStatics "sys.int_max_str_digits" = some none)
    (aS : PySem.W.nsIn K mainGlobals "SIGNS" = some (some (.ref CS)))
    (lS : K.lookup CS = some ⟨.type "dict", none, .dict es nS, #[]⟩)
    (eS : es.toList = [e1, e2, e3])
    (litS : PySem.W.KeysLit w.params [e1, e2, e3])
    (lowS : (CS == sysModules) = false)
    (h1 : e1.key = .str "+" t1 ∧ e1.val = .bool true)
    (h2 : e2.key = .str "-" t2 ∧ e2.val = .bool false)
    (h3 : e3.key = .str "." t3 ∧ e3.val = .str "" t4)
    : ∃ fd : FuncData, (∀ (s : Shared) (u : Value), BindsTo s fd ⟨[u], []⟩ [("script", u)]) ∧ ∀ base : Heap, K.In base → base.Ns mainGlobals mg → FnG P w K mg base CX0 8 fa fd ["script"] (spLaw K) := by
  have e := hfa.symm.trans (PySem.W.mg_of X G a22)
  cases e
  have T : Facts w K mg CM := { b_isinstance := ns_none X G b_isinstance, b_int := ns_none X G b_int, b_bool := ns_none X G b_bool, b_str := ns_none X G b_str, b_tuple := ns_none X G b_tuple, b_len := ns_none X G b_len, b_all := ns_none X G b_all, b_any := ns_none X G b_any, b_range := ns_none X G b_range, b_enumerate := ns_none X G b_enumerate, b_abs := ns_none X G b_abs, b_repr := ns_none X G b_repr, c_LETTERS := ⟨_, PySem.W.mg_of X G v_LETTERS, r_LETTERS⟩, c_DIGITS := ⟨_, PySem.W.mg_of X G v_DIGITS, r_DIGITS⟩, c_MOST_WORD := ⟨_, PySem.W.mg_of X G v_MOST_WORD, r_MOST_WORD⟩, c_MOST_DEPTH := ⟨_, PySem.W.mg_of X G v_MOST_DEPTH, r_MOST_DEPTH⟩, c_MOST_DIGITS := ⟨_, PySem.W.mg_of X G v_MOST_DIGITS, r_MOST_DIGITS⟩, x_Malformed := xM, g_Malformed := PySem.W.mg_of X G aM, k_Malformed := kM, s_Malformed := bM, t_Malformed := tM, e_Malformed := exm_self bM iM tM sM, digits := zd }
  have TX : Fx w K mg CM CP := { T with b_list := ns_none X G b_list, b_zip := ns_none X G b_zip, c_Reply := ⟨_, PySem.W.mg_of X G aP, rfl⟩ }
  have RF : RdF K CR := ⟨⟨Dpg, Dhd, Dpo, Dsa⟩, Dn_tuples, Dn_ready, Dn_told⟩
  have RP : RpF K CP := ⟨⟨⟨Rpg, Rhd, Rpo, Rsa⟩, Rha, Rhn, Rht, Rhm, Rme⟩, Rn_kind, Rn_text, Rn_data, Rnt⟩
  have MK : MkF K mg CK := ⟨⟨_, PySem.W.mg_of X G aK, rfl⟩, fun H => .inr ⟨_, itsK, nK, lK, rfl, rfl, by rw [zK]; decide, by rw [eK]; exact .cons rK1 (.cons rK2 (.cons rK3 .nil))⟩⟩
  have hT0 : ∀ H, SqT K H T0 [] := fun H => .inr ⟨_, itsT0, nT0, lT0, rfl, rfl, by rw [zT0]; exact Nat.zero_le _, by rw [eT0]; exact .nil⟩
  have ST : StrC K CM := ⟨stM, bM⟩
  have SG : Signs w K mg CS es nS := ⟨⟨lS, by rw [eS]; exact litS, lowS⟩, ⟨_, PySem.W.mg_of X G aS, rfl⟩, signs_get lS eS h1 h2 h3⟩
  have F0 := fun_mk (st := s_is_whole) l0 c0 k0
  have B0 := F0.binds (ps := ["value"]) fun _ _ _ _ _ _ us hl => match us, hl with | [_], _ => rfl
  have F1 := fun_mk (st := s_is_word) l1 c1 k1
  have B1 := F1.binds (ps := ["value"]) fun _ _ _ _ _ _ us hl => match us, hl with | [_], _ => rfl
  have F2 := fun_mk (st := s_is_short) l2 c2 k2
  have B2 := F2.binds (ps := ["value"]) fun _ _ _ _ _ _ us hl => match us, hl with | [_], _ => rfl
  have F3 := fun_mk (st := s_atom_text) l3 c3 k3
  have B3 := F3.binds (ps := ["value"]) fun _ _ _ _ _ _ us hl => match us, hl with | [_], _ => rfl
  have F4 := fun_mk (st := s_write_data) l4 c4 k4
  have B4 := F4.binds (ps := ["data"]) fun _ _ _ _ _ _ us hl => match us, hl with | [_], _ => rfl
  have F5 := fun_mk (st := s_read_whole) l5 c5 k5
  have B5 := F5.binds (ps := ["text"]) fun _ _ _ _ _ _ us hl => match us, hl with | [_], _ => rfl
  have F6 := fun_mk (st := s_read_atom) l6 c6 k6
  have B6 := F6.binds (ps := ["piece"]) fun _ _ _ _ _ _ us hl => match us, hl with | [_], _ => rfl
  have F7 := fun_mk (st := s_pieces_of) l7 c7 k7
  have B7 := F7.binds (ps := ["text"]) fun _ _ _ _ _ _ us hl => match us, hl with | [_], _ => rfl
  have F8 := fun_mk (st := s_read_data) l8 c8 k8
  have B8 := F8.binds (ps := ["text"]) fun _ _ _ _ _ _ us hl => match us, hl with | [_], _ => rfl
  have F9 := fun_mk (st := s_is_same) l9 c9 k9
  have B9 := F9.binds (ps := ["one", "two"]) fun _ _ _ _ _ _ us hl => match us, hl with | [_, _], _ => rfl
  have F10 := fun_mk (st := s_is_text) l10 c10 k10
  have B10 := F10.binds (ps := ["value"]) fun _ _ _ _ _ _ us hl => match us, hl with | [_], _ => rfl
  have F11 := fun_mk (st := s_write_diary) l11 c11 k11
  have B11 := F11.binds (ps := ["entries"]) fun _ _ _ _ _ _ us hl => match us, hl with | [_], _ => rfl
  have F12 := fun_mk (st := s_read_part) l12 c12 k12
  have B12 := F12.binds (ps := ["line", "k"]) fun _ _ _ _ _ _ us hl => match us, hl with | [_, _], _ => rfl
  have F13 := fun_mk (st := s_read_diary) l13 c13 k13
  have B13 := F13.binds (ps := ["text"]) fun _ _ _ _ _ _ us hl => match us, hl with | [_], _ => rfl
  have F14 := fun_mk (st := s__law_draw) l14 c14 k14
  have B14 := F14.binds (ps := ["script"]) fun _ _ _ _ _ _ us hl => match us, hl with | [_], _ => rfl
  have F15 := fun_mk (st := s__law_take) l15 c15 k15
  have B15 := F15.binds (ps := ["draw", "many"]) fun _ _ _ _ _ _ us hl => match us, hl with | [_, _], _ => rfl
  have F16 := fun_mk (st := s__law_data) l16 c16 k16
  have B16 := F16.binds (ps := ["draw", "deep"]) fun _ _ _ _ _ _ us hl => match us, hl with | [_, _], _ => rfl
  have F17 := fun_mk (st := s__law_is_word) l17 c17 k17
  have B17 := F17.binds (ps := ["value"]) fun _ _ _ _ _ _ us hl => match us, hl with | [_], _ => rfl
  have F18 := fun_mk (st := s__law_read) l18 c18 k18
  have B18 := F18.binds (ps := ["text"]) fun _ _ _ _ _ _ us hl => match us, hl with | [_], _ => rfl
  have F19 := fun_mk (st := s__law_due) l19 c19 k19
  have B19 := F19.binds (ps := ["text"]) fun _ _ _ _ _ _ us hl => match us, hl with | [_], _ => rfl
  have F20 := fun_mk (st := s__law_told) l20 c20 k20
  have B20 := F20.binds (ps := ["which", "value"]) fun _ _ _ _ _ _ us hl => match us, hl with | [_, _], _ => rfl
  have F21 := fun_mk (st := s__law_fits) l21 c21 k21
  have B21 := F21.binds (ps := ["told", "due"]) fun _ _ _ _ _ _ us hl => match us, hl with | [_, _], _ => rfl
  have F22 := fun_mk (st := s_law) l22 c22 k22
  have B22 := F22.binds (ps := ["script"]) fun _ _ _ _ _ _ us hl => match us, hl with | [_], _ => rfl
  have F23 := fun_mk (st := s_DataReader___init__) l23 c23 k23
  have B23 := F23.binds (ps := ["self"]) fun _ _ _ _ _ _ us hl => match us, hl with | [_], _ => rfl
  have F24 := fun_mk (st := s_DataReader_item) l24 c24 k24
  have B24 := F24.binds (ps := ["self", "value"]) fun _ _ _ _ _ _ us hl => match us, hl with | [_, _], _ => rfl
  have F25 := fun_mk (st := s_DataReader_open_one) l25 c25 k25
  have B25 := F25.binds (ps := ["self"]) fun _ _ _ _ _ _ us hl => match us, hl with | [_], _ => rfl
  have F26 := fun_mk (st := s_DataReader_close_one) l26 c26 k26
  have B26 := F26.binds (ps := ["self"]) fun _ _ _ _ _ _ us hl => match us, hl with | [_], _ => rfl
  have F27 := fun_mk (st := s_DataReader_comma) l27 c27 k27
  have B27 := F27.binds (ps := ["self"]) fun _ _ _ _ _ _ us hl => match us, hl with | [_], _ => rfl
  have F28 := fun_mk (st := s_DataReader_take) l28 c28 k28
  have B28 := F28.binds (ps := ["self", "piece"]) fun _ _ _ _ _ _ us hl => match us, hl with | [_, _], _ => rfl
  have F29 : FunD K "__init__" "Reply.__init__" (defArgs s_Reply___init__) (defBody s_Reply___init__) (defScope s_Reply___init__) [.str "", .ref T0] [] f29 _ := ⟨⟨_, _, _, _, _, _, _, _, _, _, rfl, l29, c29, .inr ⟨List.cons_ne_nil _ _, TD, _, itsD.toList, nD, rfl, lD, by simp, by rw [eD]; exact .cons rD (.cons rfl .nil)⟩, .inl rfl⟩, k29⟩
  obtain ⟨ds4, rd4, B29_4⟩ := F29.binds1 (ps := ["self", "kind", "text", "data"]) 4 2 (List.cons_ne_nil _ _) rfl fun _ _ _ _ _ _ _ us its hl hi => match us, its, hl, hi with | [_, _, _, _], [_, _], _, _ => ⟨_, rfl, rfl⟩
  obtain ⟨ds3, rd3, B29_3⟩ := F29.binds1 (ps := ["self", "kind", "text", "data"]) 3 1 (List.cons_ne_nil _ _) rfl fun _ _ _ _ _ _ _ us its hl hi => match us, its, hl, hi with | [_, _, _], [_, _], _, _ => ⟨_, rfl, rfl⟩
  obtain ⟨ds2, rd2, B29_2⟩ := F29.binds1 (ps := ["self", "kind", "text", "data"]) 2 0 (List.cons_ne_nil _ _) rfl fun _ _ _ _ _ _ _ us its hl hi => match us, its, hl, hi with | [_, _], [_, _], _, _ => ⟨_, rfl, rfl⟩
  cases rd4
  have F30 := fun_mk (st := s_Reply___eq__) l30 c30 k30
  have B30 := F30.binds (ps := ["self", "other"]) fun _ _ _ _ _ _ us hl => match us, hl with | [_, _], _ => rfl
  refine ⟨PySem.W.fnOf "law" "law" (defArgs s_law) (defBody s_law) (defScope s_law) .none kV22 dc22 pm22 an22 cd22 ct22, fun s u => .of_eq rfl, fun base _ _ => ?_⟩
  have g0 : Fn0 P w K mg base 1 "is_whole" (spWhole K) := ⟨_, _, _, ok_is_whole T F0, PySem.W.mg_of X G a0, k0, B0⟩
  have g1 : Fn0 P w K mg base 1 "is_word" (spWord K) := ⟨_, _, _, ok_is_word T F1, PySem.W.mg_of X G a1, k1, B1⟩
  have g2 : Fn0 P w K mg base 2 "is_short" (spShort K) := ⟨_, _, _, ok_is_short T F2 g0, PySem.W.mg_of X G a2, k2, B2⟩
  have g3 : FnC (CXm true P w) P w K mg base 3 "atom_text" (spAtom K CM) := ⟨_, _, _, ok_atom_text T F3 g1 g2, PySem.W.mg_of X G a3, k3, B3⟩
  have g4 : FnC (CXm true P w) P w K mg base 4 "write_data" (spWrite K CM) := ⟨_, _, _, ok_write_data T F4 g3, PySem.W.mg_of X G a4, k4, B4⟩
  have g5 : FnC (CXm true P w) P w K mg base 1 "read_whole" (spReadW K CM) := ⟨_, _, _, ok_read_whole T F5, PySem.W.mg_of X G a5, k5, B5⟩
  have g6 : FnC (CXm true P w) P w K mg base 2 "read_atom" (spReadA K CM) := ⟨_, _, _, ok_read_atom T SG F6 g1 g5, PySem.W.mg_of X G a6, k6, B6⟩
  have g7 : Fn0 P w K mg base 1 "pieces_of" (spPieces K) := ⟨_, _, _, ok_pieces_of T F7, PySem.W.mg_of X G a7, k7, B7⟩
  have g24 : MeC (CXm true P w) P w K mg base 1 CR "item" (spItem K CM CR) := ⟨_, _, _, ok_item T RF F24, RF.cls, ⟨a24, i24, k24⟩, B24⟩
  have g25 : MeC (CXm true P w) P w K mg base 1 CR "open_one" (spStep K CM CR DataM.R.opn) := ⟨_, _, _, ok_open T RF F25, RF.cls, ⟨a25, i25, k25⟩, B25⟩
  have g27 : MeC (CXm true P w) P w K mg base 1 CR "comma" (spStep K CM CR DataM.R.com) := ⟨_, _, _, ok_comma T RF F27, RF.cls, ⟨a27, i27, k27⟩, B27⟩
  have g26 : MeC (CXm true P w) P w K mg base 2 CR "close_one" (spStep K CM CR DataM.R.cls) := ⟨_, _, _, ok_close T RF F26 g24, RF.cls, ⟨a26, i26, k26⟩, B26⟩
  have g28 : MeC (CXm true P w) P w K mg base 3 CR "take" (spTake K CM CR) := ⟨_, _, _, ok_take T RF F28 g6 g24 g25 g27 g26, RF.cls, ⟨a28, i28, k28⟩, B28⟩
  have g23 : MkC P w K mg base 1 "DataReader" CR (spInit K CR) := ⟨_, _, _, ok_init T RF F23, ⟨Dmk, a23, i23, Dkc⟩, PySem.W.mg_of X G aC, B23⟩
  have g8 : FnC (CXm true P w) P w K mg base 4 "read_data" (spRead K CM) := ⟨_, _, _, ok_read_data T RF F8 g7 g23 g28, PySem.W.mg_of X G a8, k8, B8⟩
  have g9 : Fn0 P w K mg base 1 "is_same" (spSame K) := ⟨_, _, _, ok_is_same TX F9, PySem.W.mg_of X G a9, k9, B9⟩
  have gR : MkC P w K mg base 1 "Reply" CP (spRpI K CP) := ⟨_, _, _, ok_rp_init TX RP F29, ⟨Rmk, a29, i29, Rkc⟩, PySem.W.mg_of X G aP, B29_4⟩
  have gR1 : MkD P w K mg base 1 "Reply" CP (spRpI K CP) [.str "", .ref T0] := ⟨_, _, _, _, ok_rp_init TX RP F29, ⟨Rmk, a29, i29, Rkc⟩, PySem.W.mg_of X G aP, rd2, B29_2⟩
  have gR2 : MkD P w K mg base 1 "Reply" CP (spRpI K CP) [.ref T0] := ⟨_, _, _, _, ok_rp_init TX RP F29, ⟨Rmk, a29, i29, Rkc⟩, PySem.W.mg_of X G aP, rd3, B29_3⟩
  have EQ : EqC P w K mg base 2 CP (RpS K CP) := ⟨_, _, _, ok_rp_eq TX RP F30 g9, a30, i30, B30⟩
  have g10 : Fn0 P w K mg base 1 "is_text" (spText K) := ⟨_, _, _, ok_is_text TX F10, PySem.W.mg_of X G a10, k10, B10⟩
  have g11 : FnC (CXm true P w) P w K mg base 5 "write_diary" (spWrDi K CM CP) := ⟨_, _, _, ok_write_diary TX RP F11 g10 g1 g4, PySem.W.mg_of X G a11, k11, B11⟩
  have g12 : FnC (CXm true P w) P w K mg base 5 "read_part" (spPart K CM) := ⟨_, _, _, ok_read_part TX MK F12 g1 g8, PySem.W.mg_of X G a12, k12, B12⟩
  have g13 : FnC (CXm false P w) P w K mg base 6 "read_diary" (spRdDi K CM CP) := ⟨_, _, _, ok_read_diary TX RP F13 g12 gR, PySem.W.mg_of X G a13, k13, B13⟩
  have g14 : Fn0 P w K mg base 1 "_law_draw" (spDraw K) := ⟨_, _, _, ok_law_draw T F14, PySem.W.mg_of X G a14, k14, B14⟩
  have g15 : Fn0 P w K mg base 1 "_law_take" (spTakeN K) := ⟨_, _, _, ok_law_take T F15, PySem.W.mg_of X G a15, k15, B15⟩
  have g17 : Fn0 P w K mg base 1 "_law_is_word" (spLW K) := ⟨_, _, _, ok_law_is_word TX F17, PySem.W.mg_of X G a17, k17, B17⟩
  have g18 : Fn0 P w K mg base 5 "_law_read" (spLRd K) := ⟨_, _, _, ok_law_read TX F18 g8, PySem.W.mg_of X G a18, k18, B18⟩
  have g19 : Fn0 P w K mg base 6 "_law_due" (spDue K) := ⟨_, _, _, ok_law_due TX F19 g17 g18, PySem.W.mg_of X G a19, k19, B19⟩
  have g20 : Fn0 P w K mg base 7 "_law_told" (spToldD K CM CP) := ⟨_, _, _, ok_law_told TX ST F20 g11 g13, PySem.W.mg_of X G a20, k20, B20⟩
  have g21 : Fn0 P w K mg base 4 "_law_fits" (spFits K CP) := ⟨_, _, _, ok_law_fits TX F21 gR EQ, PySem.W.mg_of X G a21, k21, B21⟩
  have rd : ∀ n, Fn0 P w K mg base (n + 2) "_law_data" (spData K n) := fun n => by
    induction n with
    | zero => exact ⟨_, _, _, ok_law_data_step (sp := fun _ _ _ _ => False) TX F16 g15 ⟨_, _, _, fn_false _ F16, PySem.W.mg_of X G a16, k16, B16⟩ (fun m hm => by cases hm), PySem.W.mg_of X G a16, k16, B16⟩
    | succ n ih => exact ⟨_, _, _, ok_law_data_step TX F16 g15 ih (fun m hm => by cases hm; rfl), PySem.W.mg_of X G a16, k16, B16⟩
  have L := ok_law TX F22 g14 g15 (rd 3) g4 g20 g19 g21 gR gR1 gR2 hT0
  exact FnG.of L
end K66

set_option exponentiation.threshold 256
set_option Elab.async false
set_option linter.all false
set_option maxRecDepth 100000
set_option maxHeartbeats 4000000
open PySem PySem.W PyProof.Rows
set_option maxHeartbeats 0 in
theorem PySem.Challenge.cw_tablesswitched_k66_whole_texts_of_diarie_holds : PySem.Challenge.rw_tablesswitched_k66_whole_texts_of_diarie.Holds := by
  w_on; o_law; k_head; (case hw => w_witness2)
  k_fill
  refine Lay.walk_g (l := PySem.Challenge.rw_tablesswitched_k66_whole_texts_of_diarie) (n := 63) (k := 8) (x := "script") (CX := fun _ => L2.CX0) (sp := fun w => K66.spLaw _) rfl (by decide) rfl ⟨rfl, by decide, by decide⟩ (fun w h Y => PySem.W.kIn_of Y) ?F (fun _ _ a ns hl hS => ⟨a, ns, rfl, hS, Nat.le_trans hl (by decide), fun _ => rfl⟩) (fun _ _ _ _ _ z => z)
  case F =>
    intro w mg fa h KX G hmg
    refine' K66.all_mk KX G hmg ?a0 ?l0 ?c0 ?k0 ?a1 ?l1 ?c1 ?k1 ?a2 ?l2 ?c2 ?k2 ?a3 ?l3 ?c3 ?k3 ?a4 ?l4 ?c4 ?k4 ?a5 ?l5 ?c5 ?k5 ?a6 ?l6 ?c6 ?k6 ?a7 ?l7 ?c7 ?k7 ?a8 ?l8 ?c8 ?k8 ?a9 ?l9 ?c9 ?k9 ?a10 ?l10 ?c10 ?k10 ?a11 ?l11 ?c11 ?k11 ?a12 ?l12 ?c12 ?k12 ?a13 ?l13 ?c13 ?k13 ?a14 ?l14 ?c14 ?k14 ?a15 ?l15 ?c15 ?k15 ?a16 ?l16 ?c16 ?k16 ?a17 ?l17 ?c17 ?k17 ?a18 ?l18 ?c18 ?k18 ?a19 ?l19 ?c19 ?k19 ?a20 ?l20 ?c20 ?k20 ?a21 ?l21 ?c21 ?k21 ?a22 ?l22 ?c22 ?k22 ?a23 ?i23 ?l23 ?c23 ?k23 ?a24 ?i24 ?l24 ?c24 ?k24 ?a25 ?i25 ?l25 ?c25 ?k25 ?a26 ?i26 ?l26 ?c26 ?k26 ?a27 ?i27 ?l27 ?c27 ?k27 ?a28 ?i28 ?l28 ?c28 ?k28 ?a29 ?i29 ?l29 ?c29 ?k29 ?a30 ?i30 ?l30 ?c30 ?k30 ?aC ?aP ?Dpg ?Dhd ?Dpo ?Dsa ?Dmk ?Dkc ?Dn_tuples ?Dn_ready ?Dn_told ?Rpg ?Rhd ?Rpo ?Rsa ?Rmk ?Rkc ?Rn_kind ?Rn_text ?Rn_data ?Rha ?Rhn ?Rht ?Rhm ?Rme ?Rnt ?lD ?eD ?rD ?lT0 ?eT0 ?zT0 ?aK ?lK ?eK ?zK ?rK1 ?rK2 ?rK3 ?aM ?xM ?kM ?bM ?tM ?iM ?sM ?stM ?b_isinstance ?b_int ?b_bool ?b_str ?b_tuple ?b_len ?b_all ?b_any ?b_range ?b_enumerate ?b_abs ?b_repr ?b_list ?b_zip ?v_LETTERS ?r_LETTERS ?v_DIGITS ?r_DIGITS ?v_MOST_WORD ?r_MOST_WORD ?v_MOST_DEPTH ?r_MOST_DEPTH ?v_MOST_DIGITS ?r_MOST_DIGITS ?zd ?aS ?lS ?eS ?litS ?lowS ?h1 ?h2 ?h3
    (case aC => k_is)
    (case aP => k_is)
    (case a0 => k_is)
    (case l0 => k_is)
    (case c0 => k_is)
    (case k0 => k_is)
    (case a1 => k_is)
    (case l1 => k_is)
    (case c1 => k_is)
    (case k1 => k_is)
    (case a2 => k_is)
    (case l2 => k_is)
    (case c2 => k_is)
    (case k2 => k_is)
    (case a3 => k_is)
    (case l3 => k_is)
    (case c3 => k_is)
    (case k3 => k_is)
    (case a4 => k_is)
    (case l4 => k_is)
    (case c4 => k_is)
    (case k4 => k_is)
    (case a5 => k_is)
    (case l5 => k_is)
    (case c5 => k_is)
    (case k5 => k_is)
    (case a6 => k_is)
    (case l6 => k_is)
    (case c6 => k_is)
    (case k6 => k_is)
    (case a7 => k_is)
    (case l7 => k_is)
    (case c7 => k_is)
    (case k7 => k_is)
    (case a8 => k_is)
    (case l8 => k_is)
    (case c8 => k_is)
    (case k8 => k_is)
    (case a9 => k_is)
    (case l9 => k_is)
    (case c9 => k_is)
    (case k9 => k_is)
    (case a10 => k_is)
    (case l10 => k_is)
    (case c10 => k_is)
    (case k10 => k_is)
    (case a11 => k_is)
    (case l11 => k_is)
    (case c11 => k_is)
    (case k11 => k_is)
    (case a12 => k_is)
    (case l12 => k_is)
    (case c12 => k_is)
    (case k12 => k_is)
    (case a13 => k_is)
    (case l13 => k_is)
    (case c13 => k_is)
    (case k13 => k_is)
    (case a14 => k_is)
    (case l14 => k_is)
    (case c14 => k_is)
    (case k14 => k_is)
    (case a15 => k_is)
    (case l15 => k_is)
    (case c15 => k_is)
    (case k15 => k_is)
    (case a16 => k_is)
    (case l16 => k_is)
    (case c16 => k_is)
    (case k16 => k_is)
    (case a17 => k_is)
    (case l17 => k_is)
    (case c17 => k_is)
    (case k17 => k_is)
    (case a18 => k_is)
    (case l18 => k_is)
    (case c18 => k_is)
    (case k18 => k_is)
    (case a19 => k_is)
    (case l19 => k_is)
    (case c19 => k_is)
    (case k19 => k_is)
    (case a20 => k_is)
    (case l20 => k_is)
    (case c20 => k_is)
    (case k20 => k_is)
    (case a21 => k_is)
    (case l21 => k_is)
    (case c21 => k_is)
    (case k21 => k_is)
    (case a22 => k_is)
    (case l22 => k_is)
    (case c22 => k_is)
    (case k22 => k_is)
    (case a23 => k_is)
    (case i23 => k_is)
    (case l23 => k_is)
    (case c23 => k_is)
    (case k23 => k_is)
    (case a24 => k_is)
    (case i24 => k_is)
    (case l24 => k_is)
    (case c24 => k_is)
    (case k24 => k_is)
    (case a25 => k_is)
    (case i25 => k_is)
    (case l25 => k_is)
    (case c25 => k_is)
    (case k25 => k_is)
    (case a26 => k_is)
    (case i26 => k_is)
    (case l26 => k_is)
    (case c26 => k_is)
    (case k26 => k_is)
    (case a27 => k_is)
    (case i27 => k_is)
    (case l27 => k_is)
    (case c27 => k_is)
    (case k27 => k_is)
    (case a28 => k_is)
    (case i28 => k_is)
    (case l28 => k_is)
    (case c28 => k_is)
    (case k28 => k_is)
    (case a29 => k_is)
    (case i29 => k_is)
    (case l29 => k_is)
    (case c29 => k_is)
    (case k29 => k_is)
    (case a30 => k_is)
    (case i30 => k_is)
    (case l30 => k_is)
    (case c30 => k_is)
    (case k30 => k_is)
    (case Dpg => k_is)
    (case Dhd => k_is)
    (case Dpo => k_is)
    (case Dsa => k_is)
    (case Dmk => k_is)
    (case Dkc => k_is)
    (case Dn_tuples => k_is)
    (case Dn_ready => k_is)
    (case Dn_told => k_is)
    (case Rpg => k_is)
    (case Rhd => k_is)
    (case Rpo => k_is)
    (case Rsa => k_is)
    (case Rmk => k_is)
    (case Rkc => k_is)
    (case Rn_kind => k_is)
    (case Rn_text => k_is)
    (case Rn_data => k_is)
    (case Rha => k_is)
    (case Rhn => k_is)
    (case Rht => k_is)
    (case Rhm => k_is)
    (case Rme => kit_is)
    (case Rnt => kit_is)
    (case lD => k_is)
    (case eD => rfl)
    (case rD => exact ⟨_, rfl⟩)
    (case lT0 => k_is)
    (case eT0 => rfl)
    (case zT0 => rfl)
    (case aK => k_is)
    (case lK => k_is)
    (case eK => rfl)
    (case zK => rfl)
    (case rK1 => exact ⟨_, rfl⟩)
    (case rK2 => exact ⟨_, rfl⟩)
    (case rK3 => exact ⟨_, rfl⟩)
    (case aM => k_is)
    (case xM => k_exc)
    (case kM => k_is)
    (case bM => k_is)
    (case tM => k_is)
    (case iM => k_is)
    (case sM => first | rfl | k_is)
    (case stM => k_is)
    (case b_isinstance => k_is)
    (case b_int => k_is)
    (case b_bool => k_is)
    (case b_str => k_is)
    (case b_tuple => k_is)
    (case b_len => k_is)
    (case b_all => k_is)
    (case b_any => k_is)
    (case b_range => k_is)
    (case b_enumerate => k_is)
    (case b_abs => k_is)
    (case b_repr => k_is)
    (case b_list => k_is)
    (case b_zip => k_is)
    (case v_LETTERS => k_is)
    (case r_LETTERS => exact ⟨_, rfl⟩)
    (case v_DIGITS => k_is)
    (case r_DIGITS => exact ⟨_, rfl⟩)
    (case v_MOST_WORD => k_is)
    (case r_MOST_WORD => exact ⟨_, rfl⟩)
    (case v_MOST_DEPTH => k_is)
    (case r_MOST_DEPTH => exact ⟨_, rfl⟩)
    (case v_MOST_DIGITS => k_is)
    (case r_MOST_DIGITS => exact ⟨_, rfl⟩)
    (case zd => k_is)
    (case aS => k_is)
    (case lS => k_is)
    (case eS => rfl)
    (case litS => exact ⟨⟨_, _, rfl, rfl⟩, ⟨_, _, rfl, rfl⟩, ⟨_, _, rfl, rfl⟩, trivial⟩)
    (case lowS => rfl)
    (case h1 => exact ⟨rfl, rfl⟩)
    (case h2 => exact ⟨rfl, rfl⟩)
    (case h3 => exact ⟨rfl, rfl⟩)

set_option exponentiation.threshold 256

import PyProof.Rows.All
import Wide.All
import OpenK.AllK
import Wide.FinOn
import HandS.ForMost
import HandS.ForExc
import HandS.More
import HandS.Codes
import HandS.CallSlots
import HandS.IsInst
import HandS.RaiseMore
import HandS.Wide
import HandS.StrMore
import HandS.TupAny
import HandS.Style
import HandS.Iter
import PyProof.Rows.StrOr
import PyProof.ReprRoads
import KE.IntTextLaws
import KE.GoesMore
import KE.KIntText
import KE.IntTextText
import PyProof.ReprLen
import PyProof.StrLawsRepr
import PySem.Challenge.RW_tablesswitched_k53_whole_plain_data
set_option Elab.async false
set_option linter.all false
set_option maxRecDepth 100000
set_option maxHeartbeats 4000000
namespace Lay
open PySem PySem.Spec PyProof.Rows L2

theorem same_upd {H : Hp} {p : Addr} {o : HO} (h : H p = none) : Same H (upd H p o) := fun b x e => by
  rw [upd_ne (ne_of_none e h)]
  exact e
theorem Same.seqT {K : PySem.W.Frag} {H H' : Hp} {a : Addr} {xs : List V} (e : Same H H') (h : SqT K H a xs) : SqT K H' a xs := by
  rcases h with (h | ⟨o, h⟩) | h
  · exact .inl (.inl (e _ _ h))
  · exact .inl (.inr ⟨o, e _ _ h⟩)
  · exact .inr h
structure Txt (H H' : Hp) : Prop where
  tup : ∀ a xs, H a = some (.tup xs) → H' a = some (.tup xs)
  frz : ∀ a o u, H a = some (.frz o u) → H' a = some (.frz o u)
theorem Txt.refl (H : Hp) : Txt H H := ⟨fun _ _ h => h, fun _ _ _ h => h⟩
theorem Txt.trans {H H1 H2 : Hp} (a : Txt H H1) (b : Txt H1 H2) : Txt H H2 := ⟨fun x xs h => b.tup x xs (a.tup x xs h), fun x o u h => b.frz x o u (a.frz x o u h)⟩
theorem Txt.same {H H' : Hp} (e : Same H H') : Txt H H' := ⟨fun a xs h => e _ _ h, fun a o u h => e _ _ h⟩
theorem Txt.new {H : Hp} {p : Addr} {o : HO} (h : H p = none) : Txt H (upd H p o) := Txt.same (same_upd h)
theorem Txt.lst {H : Hp} {p : Addr} {o : HO} {ys : List V} (h : H p = some (.lst ys)) : Txt H (upd H p o) := by
  refine ⟨fun a xs q => ?_, fun a o u q => ?_⟩
  · rw [upd_ne (ne_of q h (by intro z; cases z))]
    exact q
  · rw [upd_ne (ne_of q h (by intro z; cases z))]
    exact q
theorem Txt.ins {H : Hp} {p C dx : Addr} {o : HO} {fs : List (Str × V)} (h : H p = some (.ins C dx fs)) : Txt H (upd H p o) := by
  refine ⟨fun a xs q => ?_, fun a o u q => ?_⟩
  · rw [upd_ne (ne_of q h (by intro z; cases z))]
    exact q
  · rw [upd_ne (ne_of q h (by intro z; cases z))]
    exact q
def But (p : Addr) (H H' : Hp) : Prop := ∀ b o, b ≠ p → H b = some o → H' b = some o
theorem But.refl {p : Addr} (H : Hp) : But p H H := fun _ _ _ h => h
theorem But.trans {p : Addr} {H H1 H2 : Hp} (a : But p H H1) (b : But p H1 H2) : But p H H2 := fun x o n h => b x o n (a x o n h)
theorem But.same {p : Addr} {H H' : Hp} (e : Same H H') : But p H H' := fun b o _ h => e b o h
theorem But.upd {p : Addr} {H H' : Hp} {o : HO} (e : But p H H') : But p H (upd H' p o) := fun b u n h => by
  rw [upd_ne n]
  exact e b u n h
theorem Same.mut {H H' : Hp} {p : Addr} {o : HO} (e : Same H H') (h : H p = none) : Same H (upd H' p o) := fun a u ha => by
  rw [upd_ne (ne_of_none ha h)]
  exact e a u ha

section
variable {K : PySem.W.Frag} {H H' : Hp}
mutual
theorem Dp.same (e : Same H H') : ∀ (d : PyData) (v : V), Dp K H v d → Dp K H' v d
  | .none, _, h => by cases h; exact .non
  | .bool b, _, h => by cases h; exact .bl b
  | .int i, _, h => by cases h; exact .int i
  | .str x, _, h => by cases h; exact .str x
  | .list ds, _, h => by
    cases h with
    | lst hs ha => exact .lst (e.seq hs) (DpAll.same e ds _ ha)
  | .tuple ds, _, h => by
    cases h with
    | tup hs ha => exact .tup (Same.seqT e hs) (DpAll.same e ds _ ha)
  | .dict _, _, h => by cases h
theorem DpAll.same (e : Same H H') : ∀ (ds : List PyData) (vs : List V), DpAll K H vs ds → DpAll K H' vs ds
  | [], _, h => by cases h; exact .nil
  | d :: ds, _, h => by
    cases h with
    | cons h1 h2 => exact .cons (Dp.same e d _ h1) (DpAll.same e ds _ h2)
end
theorem DpAll.length : ∀ {ds : List PyData} {vs : List V}, DpAll K H vs ds → vs.length = ds.length
  | [], _, h => by cases h; rfl
  | d :: ds, _, h => by
    cases h with
    | cons h1 h2 => simp only [List.length_cons, DpAll.length h2]
theorem DpAll.get : ∀ {ds : List PyData} {vs : List V} {i : Nat} {v : V}, DpAll K H vs ds → vs[i]? = some v → ∃ d, ds[i]? = some d ∧ Dp K H v d
  | [], _, i, v, h, e => by cases h; simp at e
  | d :: ds, _, 0, v, h, e => by
    cases h with
    | cons h1 h2 =>
      simp at e
      subst e
      exact ⟨d, rfl, h1⟩
  | d :: ds, _, i + 1, v, h, e => by
    cases h with
    | cons h1 h2 =>
      obtain ⟨d', q1, q2⟩ := DpAll.get (i := i) (v := v) h2 (by simpa using e)
      exact ⟨d', by simpa using q1, q2⟩
theorem DpAll.getD : ∀ {ds : List PyData} {vs : List V} {i : Nat} {d : PyData}, DpAll K H vs ds → ds[i]? = some d → ∃ v, vs[i]? = some v ∧ Dp K H v d
  | [], _, i, v, h, e => by simp at e
  | d :: ds, _, 0, v, h, e => by
    cases h with
    | cons h1 h2 =>
      simp at e
      subst e
      exact ⟨_, rfl, h1⟩
  | d :: ds, _, i + 1, v, h, e => by
    cases h with
    | cons h1 h2 =>
      obtain ⟨d', q1, q2⟩ := DpAll.getD (i := i) h2 (by simpa using e)
      exact ⟨d', by simpa using q1, q2⟩
theorem DpAll.append : ∀ {ds es : List PyData} {vs us : List V}, DpAll K H vs ds → DpAll K H us es → DpAll K H (vs ++ us) (ds ++ es)
  | [], _, _, _, h, k => by cases h; exact k
  | d :: ds, _, _, _, h, k => by
    cases h with
    | cons h1 h2 => exact .cons h1 (DpAll.append h2 k)
end
mutual
def fz : PyData → Bool
  | .list _ => false
  | .tuple ds => fzAll ds
  | .dict _ => false
  | _ => true
def fzAll : List PyData → Bool
  | [] => true
  | d :: ds => fz d && fzAll ds
end
section
variable {K : PySem.W.Frag} {H H' : Hp}
theorem SqT.txt {a : Addr} {xs : List V} (e : Txt H H') (h : SqT K H a xs) : SqT K H' a xs := by
  rcases h with (h | ⟨o, h⟩) | h
  · exact .inl (.inl (e.tup _ _ h))
  · exact .inl (.inr ⟨o, e.frz _ _ _ h⟩)
  · exact .inr h
mutual
theorem Dp.txt (e : Txt H H') : ∀ (d : PyData) (v : V), fz d = true → Dp K H v d → Dp K H' v d
  | .none, _, _, h => by cases h; exact .non
  | .bool b, _, _, h => by cases h; exact .bl b
  | .int i, _, _, h => by cases h; exact .int i
  | .str x, _, _, h => by cases h; exact .str x
  | .list ds, _, f, h => by simp [fz] at f
  | .tuple ds, _, f, h => by
    cases h with
    | tup hs ha => exact .tup (SqT.txt e hs) (DpAll.txt e ds _ (by simpa [fz] using f) ha)
  | .dict _, _, _, h => by cases h
theorem DpAll.txt (e : Txt H H') : ∀ (ds : List PyData) (vs : List V), fzAll ds = true → DpAll K H vs ds → DpAll K H' vs ds
  | [], _, _, h => by cases h; exact .nil
  | d :: ds, _, f, h => by
    cases h with
    | cons h1 h2 =>
      simp only [fzAll, Bool.and_eq_true] at f
      exact .cons (Dp.txt e d _ f.1 h1) (DpAll.txt e ds _ f.2 h2)
end
end

def NewG (H : Hp) (o : HO) (Q : VK) : Prop := ∀ p H2, H p = none → Same H H2 → H2 p = some o → Q (.ref p) H2
theorem NewG.go {H : Hp} {o : HO} {Q : VK} (h : NewG H o Q) {p : Addr} (hp : H p = none) : Q (.ref p) (upd H p o) := h p _ hp (same_upd hp) upd_same
section
variable {X : Cx}
def clA (t : TA) : TA := fun σ H Q => ∃ Q0, t σ H Q0 ∧ ∀ xs H1, Q0 xs H1 → Q xs H1
theorem PA.cl {es : List Expr} {t : TA} (h : PA X es t) : PA X es (clA t) := ⟨fun pos pins s σ H Q I hw => by
  obtain ⟨Q0, h0, k⟩ := hw
  exact thn (h.run pos pins s σ H Q0 I h0) fun us s' ⟨vs, H', I', r, q⟩ => ⟨vs, H', I', r, k vs H' q⟩⟩
def tTupG (t : TA) : TE := fun σ H Q => t σ H fun xs H1 => xs.length ≤ 1000000 ∧ NewG H1 (.tup xs) Q
def tLstG (t : TA) : TE := fun σ H Q => t σ H fun xs H1 => xs.length ≤ 1000000 ∧ NewG H1 (.lst xs) Q
theorem big6 : (1000000 : Nat) ≤ sizeLine := by decide
theorem pe_tupG {es : List Expr} {t : TA} {k : Nat} {pos : Pos} (h : PA X es t) : PE X (.Tuple es k pos) (tTupG t) := ⟨fun pins s σ H Q I hw =>
  (pe_tup (x1 := k) (pos := pos) (PA.cl h)).run pins s σ H Q I ⟨_, hw, fun xs H1 q => ⟨Nat.le_trans q.1 big6, fun p hp => q.2.go hp⟩⟩⟩
theorem pe_lstG {es : List Expr} {t : TA} {pos : Pos} (h : PA X es t) : PE X (.List es pos) (tLstG t) := ⟨fun pins s σ H Q I hw =>
  (pe_lst (pos := pos) (PA.cl h)).run pins s σ H Q I ⟨_, hw, fun xs H1 q => ⟨Nat.le_trans q.1 big6, fun p hp => q.2.go hp⟩⟩⟩
def rAddA : R2 := fun x y H Q => match x, y with
  | .int i, .int j => Q (.int (i + j)) H
  | .str a, .str b => a.length + b.length ≤ sizeLine ∧ Q (.str (a ++ b)) H
  | .ref a, .ref b => ∃ xs ys, H a = some (.lst xs) ∧ H b = some (.lst ys) ∧ xs.length + ys.length ≤ 1000000 ∧ NewG H (.lst (xs ++ ys)) Q
  | _, _ => False
theorem op_addA : OpR X (binaryOp .Add) rAddA := by
  intro pins s σ H x y v u Q I rx ry h
  unfold rAddA at h
  split at h
  · exact op_add pins s σ H _ _ v u Q I rx ry ⟨_, _, rfl, rfl, h⟩
  · exact op_add_str pins s σ H _ _ v u Q I rx ry ⟨_, _, rfl, rfl, h⟩
  · obtain ⟨xs, ys, h1, h2, h3, q⟩ := h
    exact op_cat pins s σ H _ _ v u Q I rx ry ⟨_, _, xs, ys, rfl, rfl, h1, h2, Nat.le_trans h3 big6, fun p hp => q.go hp⟩
  · exact h.elim
def rSubA : R2 := rI0 fun i j => .int (i - j)
theorem op_subA : OpR X (binaryOp .Sub) rSubA := op_sub
theorem op_mul_str : OpR X (binaryOp .Mult) (fun x y H Q => ∃ a n, x = .str a ∧ y = .int n ∧ MulOk a n ∧ Q (.str (Txt.mul a n)) H) := by
  intro pins s σ H x y v u Q I rx ry h
  obtain ⟨a, n, rfl, rfl, hm, q⟩ := h
  obtain ⟨t, rfl⟩ := rx
  obtain ⟨t2, rfl⟩ := ry
  exact PySem.SB.mul hm fun t' k => ⟨.str _, H, I.tok _, ⟨_, rfl⟩, q⟩
theorem op_mulI : OpR X (binaryOp .Mult) (rI IntMulOk fun i j => .int (i * j)) := opI fun _ _ _ _ _ _ _ hc q => mul_int q hc
theorem ip_mulA : PIp X .Mult (rI IntMulOk fun i j => .int (i * j)) := opI fun _ _ _ _ _ _ _ hc q => imul_int q hc
def rIaddA : TIp := fun x y H Q => match x, y with
  | .int i, .int j => Q (.int (i + j)) H
  | .str a, .str b => a.length + b.length ≤ sizeLine ∧ Q (.str (a ++ b)) H
  | x, y => rExt2 x y H Q
theorem ip_addA : PIp X .Add rIaddA := by
  intro pins s σ H x y v u Q I rx ry h
  unfold rIaddA at h
  split at h
  · exact iop_add pins s σ H _ _ v u Q I rx ry ⟨_, _, rfl, rfl, h⟩
  · exact iop_add_str pins s σ H _ _ v u Q I rx ry ⟨_, _, rfl, rfl, h⟩
  · exact iop_ext pins s σ H _ _ v u Q I rx ry h
def rMulA : R2 := fun x y H Q => match x, y with
  | .int i, .int j => IntMulOk i j ∧ Q (.int (i * j)) H
  | .str a, .int n => MulOk a n ∧ Q (.str (Txt.mul a n)) H
  | x, y => rRep x y H Q
theorem op_mulA : OpR X (binaryOp .Mult) rMulA := by
  intro pins s σ H x y v u Q I rx ry h
  unfold rMulA at h
  split at h
  · exact op_mulI pins s σ H _ _ v u Q I rx ry ⟨_, _, rfl, rfl, h⟩
  · exact op_mul_str pins s σ H _ _ v u Q I rx ry ⟨_, _, rfl, rfl, h⟩
  · exact op_rep pins s σ H _ _ v u Q I rx ry h
def rModA : R2 := rI (fun _ j => 0 < j) fun i j => .int (i % j)
theorem op_modA : OpR X (binaryOp .Mod) rModA := op_mod
def rFdivA : R2 := rI CDiv fun i j => .int (i / j)
theorem op_fdivA : OpR X (binaryOp .FloorDiv) rFdivA := op_fdiv
def rPowA : R2 := rI CPow fun i j => .int (i ^ j.toNat)
theorem op_powA : OpR X (binaryOp .Pow) rPowA := op_pow

def strLt (a b : Str) : Bool := decide (a.cps.toList < b.cps.toList)
def rLtA : R2 := fun x y H Q => match x, y with
  | .int i, .int j => Q (.bl (decide (i < j))) H
  | .str a, .str b => Q (.bl (strLt a b)) H
  | _, _ => False
theorem op_ltA : OpR X (compareOp .Lt) rLtA := by
  intro pins s σ H x y v u Q I rx ry h
  unfold rLtA at h
  split at h
  · exact op_lt pins s σ H _ _ v u Q I rx ry ⟨_, _, rfl, rfl, h⟩
  · exact op_lt_str pins s σ H _ _ v u Q I rx ry ⟨_, _, rfl, rfl, h⟩
  · exact h.elim
def rLeA : R2 := fun x y H Q => match x, y with
  | .int i, .int j => Q (.bl (decide (i ≤ j))) H
  | .str a, .str b => Q (.bl (!strLt b a)) H
  | _, _ => False
theorem op_leA : OpR X (compareOp .LtE) rLeA := by
  intro pins s σ H x y v u Q I rx ry h
  unfold rLeA at h
  split at h
  · exact op_le pins s σ H _ _ v u Q I rx ry ⟨_, _, rfl, rfl, h⟩
  · exact op_le_str pins s σ H _ _ v u Q I rx ry ⟨_, _, rfl, rfl, h⟩
  · exact h.elim
def rGtA : R2 := rI0 fun i j => .bl (decide (j < i))
theorem op_gtA : OpR X (compareOp .Gt) rGtA := op_gt
def rGeA : R2 := rI0 fun i j => .bl (decide (j ≤ i))
theorem op_geA : OpR X (compareOp .GtE) rGeA := op_ge
def rEqA (K : PySem.W.Frag) : R2 := fun x y H Q => (scal x y = true ∧ Q (.bl (decide (x = y))) H) ∨ rEqD K x y H Q
theorem op_eqA {K : PySem.W.Frag} (hu : X.A.units + 64 < cLine) (hK : X.K = K := by rfl) : OpR X (compareOp .Eq) (rEqA K) := by
  subst hK
  exact op_eq.or (op_eqD hu)
def rNeA (K : PySem.W.Frag) : R2 := fun x y H Q => (scal x y = true ∧ Q (.bl (!decide (x = y))) H) ∨ rNeD K x y H Q
theorem op_neA {K : PySem.W.Frag} (hu : X.A.units + 64 < cLine) (hK : X.K = K := by rfl) : OpR X (compareOp .NotEq) (rNeA K) := by
  subst hK
  exact op_ne.or (op_neD hu)
def rInA (K : PySem.W.Frag) : R2 := fun x y H Q => match y with
  | .str z => ∃ c : Nat, x = .str ⟨#[c]⟩ ∧ Q (.bl (decide (c ∈ z.cps.toList))) H
  | _ => rIn K false x y H Q
theorem op_inA {K : PySem.W.Frag} (hK : X.K = K := by rfl) : OpR X (compareOp .In) (rInA K) := by
  subst hK
  intro pins s σ H x y v u Q I rx ry h
  unfold rInA at h
  split at h
  · obtain ⟨c, rfl, q⟩ := h
    exact op_in_sign pins s σ H _ _ v u Q I rx ry ⟨_, _, rfl, rfl, q⟩
  · exact op_in_seq pins s σ H _ _ v u Q I rx ry h
def rNotInA (K : PySem.W.Frag) : R2 := fun x y H Q => match y with
  | .str z => ∃ c : Nat, x = .str ⟨#[c]⟩ ∧ Q (.bl (!decide (c ∈ z.cps.toList))) H
  | _ => rIn K true x y H Q
theorem op_notInA {K : PySem.W.Frag} (hK : X.K = K := by rfl) : OpR X (compareOp .NotIn) (rNotInA K) := by
  subst hK
  intro pins s σ H x y v u Q I rx ry h
  unfold rNotInA at h
  split at h
  · obtain ⟨c, rfl, q⟩ := h
    exact op_notIn_sign pins s σ H _ _ v u Q I rx ry ⟨_, _, rfl, rfl, q⟩
  · exact op_notIn_seq pins s σ H _ _ v u Q I rx ry h
def rIsA : R2 := fun x y H Q => y = .non ∧ Q (.bl (decide (x = .non))) H
theorem op_isA : OpR X (compareOp .Is) rIsA := op_isN
def rIsNotA : R2 := fun x y H Q => y = .non ∧ Q (.bl (!decide (x = .non))) H
theorem op_isNotA : OpR X (compareOp .IsNot) rIsNotA := op_notN

def SqA (K : PySem.W.Frag) (H : Hp) (a : Addr) (xs : List V) : Prop := SqL K H a xs ∨ SqT K H a xs
def rIxA (K : PySem.W.Frag) : R2 := fun x y H Q => match x with
  | .str z => ∃ i c, y = .int i ∧ z.length ≤ sizeLine ∧ atI z.cps.toList i = some c ∧ Q (.str ⟨#[c]⟩) H
  | .ref p => ∃ i xs v, y = .int i ∧ SqA K H p xs ∧ atI xs i = some v ∧ Q v H
  | _ => False
theorem ix_A {K : PySem.W.Frag} (hK : X.K = K := by rfl) : IxR X (rIxA K) := by
  subst hK
  intro e1 e2 pins s σ H x y v u Q I rx ry h hs
  cases x with
  | str z =>
    obtain ⟨i, c, rfl, h1, h2, q⟩ := h
    exact ix_str e1 e2 pins s σ H _ _ v u Q I rx ry ⟨_, _, _, rfl, rfl, h1, h2, q⟩ hs
  | ref p =>
    obtain ⟨i, xs, w, rfl, h1 | h1, h2, q⟩ := h
    · exact ix_list e1 e2 pins s σ H _ _ v u Q I rx ry ⟨_, _, _, _, rfl, rfl, h1, h2, q⟩ hs
    · exact ix_tup e1 e2 pins s σ H _ _ v u Q I rx ry ⟨_, _, _, _, rfl, rfl, h1, h2, q⟩ hs
  | _ => exact h.elim
def rSlA' (K : PySem.W.Frag) : V → Option Int → Option Int → Hp → VK → Prop := fun x lo hi H Q => match x with
  | .str z => z.length ≤ sizeLine ∧ Q (.str (cutS z lo hi)) H
  | .ref a => (∃ xs, SqL K H a xs ∧ NewG H (.lst (cutV xs lo hi)) Q) ∨ (∃ xs, SqT K H a xs ∧ Q (.ref a) H ∧ NewG H (.tup (cutV xs lo hi)) Q)
  | _ => False
theorem sl_A {K : PySem.W.Frag} (hK : X.K = K := by rfl) : SlR X (rSlA' K) := by
  subst hK
  intro pins s σ H x v vl vu lo hi sl Q I rx hs pl pu h
  cases x with
  | str z => exact sl_str pins s σ H _ v vl vu lo hi sl Q I rx hs pl pu ⟨z, rfl, h.1, h.2⟩
  | ref a =>
    rcases h with ⟨xs, h1, q⟩ | ⟨xs, h1, q0, q⟩
    · exact sl_list pins s σ H _ v vl vu lo hi sl Q I rx hs pl pu ⟨a, xs, rfl, h1, fun p hp => q.go hp⟩
    · exact sl_tupA pins s σ H _ v vl vu lo hi sl Q I rx hs pl pu ⟨a, xs, rfl, h1, fun _ => q0, fun _ p hp => q.go hp⟩
  | _ => exact h.elim

def rLenA (K : PySem.W.Frag) : List V → Hp → VK → Prop := fun xs H Q => match xs with
  | [.str z] => z.length ≤ sizeLine ∧ Q (.int (z.length : Nat)) H
  | [.ref p] => ∃ ys, SqA K H p ys ∧ Q (.int (ys.length : Nat)) H
  | _ => False
theorem call_lenA {K : PySem.W.Frag} (hK : X.K = K := by rfl) : CallR X (.builtin "len") (rLenA K) := by
  subst hK
  intro pins s σ H xs us Q I r h
  unfold rLenA at h
  split at h
  · exact call_len_str pins s σ H _ us Q I r ⟨_, rfl, h.1, h.2⟩
  · obtain ⟨ys, h1, q⟩ := h
    exact call_len_seq pins s σ H _ us Q I r ⟨_, ys, rfl, h1, q⟩
  · exact h.elim
inductive TyN (K : PySem.W.Frag) (H : Hp) : V → String → Prop where
  | non : TyN K H .non "NoneType"
  | bl (b : Bool) : TyN K H (.bl b) "bool"
  | int (i : Int) : TyN K H (.int i) "int"
  | str (x : Str) : TyN K H (.str x) "str"
  | lst {a : Addr} {xs : List V} (h : SqL K H a xs) : TyN K H (.ref a) "list"
  | tup {a : Addr} {xs : List V} (h : SqT K H a xs) : TyN K H (.ref a) "tuple"
theorem TyN.tyx {K : PySem.W.Frag} {H : Hp} {x : V} {n : String} (h : TyN K H x n) : TyX K H x (.type n) := by
  cases h with
  | non => exact .base .non
  | bl b => exact .base (.bl b)
  | int i => exact .base (.int i)
  | str z => exact .base (.str z)
  | lst h =>
    rcases h with (h | ⟨o, h⟩) | ⟨o, its, n, h1, h2, _⟩
    · exact .base (.lst h)
    · exact .base (.frz h)
    · exact .kList h1 h2
  | tup h =>
    rcases h with (h | ⟨o, h⟩) | ⟨o, its, n, h1, h2, _⟩
    · exact .base (.tup h)
    · exact .fTuple h
    · exact .kTuple h1 h2
def rIsiA (K : PySem.W.Frag) : List V → Hp → VK → Prop := fun xs H Q => ∃ x T n b, xs = [x, .ty T] ∧ TyN K H x n ∧ kitB n T = some b ∧ Q (.bl b) H
theorem call_isiA {K : PySem.W.Frag} (hK : X.K = K := by rfl) : CallR X (.builtin "isinstance") (rIsiA K) := by
  subst hK
  intro pins s σ H xs us Q I r h
  obtain ⟨x, T, n, b, rfl, t, e, q⟩ := h
  exact call_isi pins s σ H _ us Q I r ⟨x, .ty T, .type n, .type T, b, rfl, .ty T, t.tyx, kit_ty e, q⟩
def rIntA : List V → Hp → VK → Prop := fun xs H Q => match xs with
  | [.int i] => Q (.int i) H
  | [.str a] => ∃ n, PySem.intText? a = some n ∧ a.length ≤ 640 ∧ Q (.int n) H
  | _ => False
theorem call_intA : CallR X (.type "int") rIntA := by
  intro pins s σ H xs us Q I r h
  unfold rIntA at h
  split at h
  · exact call_int1 pins s σ H _ us Q I r (.inl ⟨_, rfl, h⟩)
  · obtain ⟨n, h1, h2, q⟩ := h
    exact call_int_str pins s σ H _ us Q I r ⟨_, n, rfl, h1, h2, q⟩
  · exact h.elim
def rTupA (K : PySem.W.Frag) : List V → Hp → VK → Prop := fun xs H Q => ∃ p ys, xs = [.ref p] ∧ ((SqL K H p ys ∧ NewG H (.tup ys) Q) ∨ (SqT K H p ys ∧ Q (.ref p) H))
theorem call_tupA {K : PySem.W.Frag} (hK : X.K = K := by rfl) : CallR X (.type "tuple") (rTupA K) := by
  subst hK
  intro pins s σ H xs us Q I r h
  obtain ⟨p, ys, rfl, ⟨h1, q⟩ | h⟩ := h
  · exact call_tuple_of pins s σ H _ us Q I r ⟨p, ys, rfl, .inl ⟨h1, fun l hl => q.go hl⟩⟩
  · exact call_tuple_of pins s σ H _ us Q I r ⟨p, ys, rfl, .inr h⟩
def rListA (K : PySem.W.Frag) : List V → Hp → VK → Prop := fun xs H Q => ∃ p ys, xs = [.ref p] ∧ SqA K H p ys ∧ NewG H (.lst ys) Q
theorem call_listA {K : PySem.W.Frag} (hK : X.K = K := by rfl) : CallR X (.type "list") (rListA K) := by
  subst hK
  intro pins s σ H xs us Q I r h
  obtain ⟨p, ys, rfl, h1, q⟩ := h
  exact call_list_of pins s σ H _ us Q I r ⟨p, ys, rfl, h1, fun l hl => q.go hl⟩
def rAbsA : List V → Hp → VK → Prop := fun xs H Q => ∃ i, xs = [.int i] ∧ Q (.int (if i < 0 then -i else i)) H
theorem call_absA : CallR X (.builtin "abs") rAbsA := call_abs
def rStrA : List V → Hp → VK → Prop := fun xs H Q => match xs with
  | [.int i] => i.natAbs < 10 ^ 4300 ∧ Q (.str (Str.ofString (toString i))) H
  | [.str a] => Q (.str a) H
  | [.bl b] => Q (.str (if b then "True" else "False")) H
  | _ => False
theorem ns_none {K : PySem.W.Frag} {h : Heap} {a : Addr} {m : Str → Option Value} {n : Str} (X : K.In h) (G : h.Ns a m) (e : PySem.W.nsIn K a n = some none) : m n = none := by
  obtain ⟨o, es, ep, ho, hd, hr, hf⟩ := G
  unfold PySem.W.nsIn at e
  split at e
  · rename_i q
    have t := X _ _ q
    rw [ho] at t
    cases t
    cases hd
    cases g : List.find? (fun x => x.key.isStr n) es.toList with
    | some u =>
      rw [g] at e
      cases e
    | none =>
      refine (hf n).symm.trans ?_
      unfold nsFind findBy
      rw [← Array.find?_toList]
      exact congrArg _ g
  · cases e
theorem noDigits_of {K : PySem.W.Frag} {h : Heap} (X : K.In h) (z : PySem.W.nsIn K cStatics "sys.int_max_str_digits" = some none) (y : h.NoLimit) : h.NoDigits := by
  obtain ⟨mc, h1, _⟩ := y
  exact ⟨mc, h1, ns_none X h1 z⟩
theorem call_strA (hc : X.calm = true) (z : PySem.W.nsIn X.K cStatics "sys.int_max_str_digits" = some none) : CallR X (.type "str") rStrA := by
  intro pins s σ H xs us Q I r h
  unfold rStrA at h
  split at h
  · obtain ⟨u, rfl, t, rfl⟩ := vals1 r
    exact str_of_int_or (I.ok.hd hc) (noDigits_of I.kIn z I.nolimit) (fun _ => ⟨.str _, H, I.tok _, ⟨_, rfl⟩, h.2⟩) (fun hge => absurd h.1 (Nat.not_lt.mpr hge))
  · exact SkE.call_str_str pins s σ H _ us Q I r ⟨_, rfl, h⟩
  · obtain ⟨u, rfl, ru⟩ := vals1 r
    cases ru
    exact P.str_of_bool ⟨.str _, H, I.tok _, ⟨_, rfl⟩, h⟩
  · exact h.elim
def itA (K : PySem.W.Frag) (v : V) (H1 : Hp) (R : It → Hp → Prop) : Prop := match v with
  | .str x => R (Its x) H1
  | .ref a => ((∃ xs, SqL K H1 a xs) ∧ R (Itl K a) H1) ∨ ((∃ xs, SqT K H1 a xs) ∧ R (Itt K a) H1)
  | _ => False
def iAny (K : PySem.W.Frag) (te : TE) : TI := fun σ H R => te σ H fun v H1 => itA K v H1 R
theorem pi_A {K : PySem.W.Frag} {tg e : Expr} {te : TE} (he : PE X e te) (hK : X.K = K := by rfl) : PI X tg e (iAny K te) := by
  subst hK
  refine ⟨fun pins s σ H R I h => ?_⟩
  refine thn (he.run pins s σ H _ I h) fun v s1 ⟨y, H1, I1, r1, q⟩ => ?_
  cases y with
  | str x =>
    obtain ⟨t, rfl⟩ := r1
    cases ha : x.cps.all (· < 128)
    · exact wpAny_pyIter_wide ha (pi_one (tk := s1.toks) I1 _ (turn_str _ x t "str_iterator" (.inr rfl)) ⟨_, Heap.get?_push_size _ rfl, rfl, rfl⟩ q)
    · exact wpAny_pyIter_ascii ha (pi_one (tk := s1.toks) I1 _ (turn_str _ x t "str_ascii_iterator" (.inl rfl)) ⟨_, Heap.get?_push_size _ rfl, rfl, rfl⟩ q)
  | ref a =>
    cases r1
    rcases q with ⟨⟨xs, hq⟩, q⟩ | ⟨⟨xs, hq⟩, q⟩
    · obtain ⟨its, rv, p, hz⟩ := I1.list hq
      exact wpAny_pyIter_list p.isList (pi_one (tk := s1.toks) I1 _ (turn_list a _) ⟨_, Heap.get?_push_size _ rfl, rfl, rfl⟩ q)
    · obtain ⟨its, rv, p, hz⟩ := I1.tuple hq
      exact wpAny_pyIter_tuple (show s1.heap.IsTuple a its.toArray from p) (pi_one (tk := s1.toks) I1 _ (turn_tuple a _) ⟨_, Heap.get?_push_size _ rfl, rfl, rfl⟩ q)
  | _ => exact q.elim
theorem all_A {K : PySem.W.Frag} (hc : X.calm = true) (hK : X.K = K := by rfl) : CallR X (.builtin "all") (rAll K) := by
  subst hK
  exact cr_all hc
theorem any_A {K : PySem.W.Frag} (hc : X.calm = true) (hK : X.K = K := by rfl) : CallR X (.builtin "any") (rAny K) := by
  subst hK
  exact cr_any hc
theorem fld_A {K : PySem.W.Frag} {e : Expr} {f : Str} {pos : Pos} {ta : TE} (he : PE X e ta) (hb : attributeBase e f X.env (eval e X.env) = eval e X.env) (hK : X.K = K := by rfl) : PE X (.Attribute e f pos) (tFld K ta f) := by
  subst hK
  exact pe_fld he hb
theorem tup_A {K : PySem.W.Frag} {es : List Expr} {k : Nat} {t : TGs} {n : Nat} {pos : Pos} (hc : X.calm = true) (h : PGs X es t)
    (hn : (assignEach es X.env).length = n := by rfl) (hst : (assignEach es X.env).findIdx? (·.1) = none := by rfl) (hK : X.K = K := by rfl) : PG X (.Tuple es k pos) (gTup K n t) := by
  subst hK
  exact pg_tup hc h hn hst
theorem join_A {K : PySem.W.Frag} {o e : Expr} {to te : TE} {apos pos : Pos} (ho : PE X o to) (he : PE X e te) (hs : starEach [e] X.env = [(false, eval e X.env)] := by rfl) (hbase : attributeBase o "join" X.env (eval o X.env) = eval o X.env := by rfl) (hline : (apos.endLine == pos.line) = true := by rfl) (hK : X.K = K := by rfl) :
    PE X (.Call (.Attribute o "join" apos) [e] [] pos) (tM1 (fun x xs H Q => ∃ a p, ∃ ys : List Str, x = .str a ∧ xs = [.ref p] ∧ SqA K H p (ys.map V.str) ∧ (ys.map (·.length)).sum + ys.length * a.length ≤ 16777216 ∧ Q (.str (Txt.join a ys)) H) to te) := by
  subst hK
  exact pe_join ho he hs hbase hline
section
variable {K : PySem.W.Frag} {T : String} {name : Str} {id : String} {r : V → List V → Hp → VK → Prop} {e o : Expr} {es : List Expr} {to : TE} {t : TA} {apos cpos : Pos}
end
end
end Lay

set_option exponentiation.threshold 256
set_option Elab.async false
set_option linter.all false
set_option maxRecDepth 100000
set_option maxHeartbeats 4000000
namespace Lay
open PySem PySem.Spec PyProof.Rows L2
abbrev Bare (A : Around) : Prop := A.guards = some []
structure FnG (P : Program) (w : World) (K : PySem.W.Frag) (mg : Str → Option Value) (base : Heap) (CX : CXT) (k : Nat) (f : Addr) (fd : FuncData) (ps : List Str) (sp : Sp) : Prop where
  len : ∀ vs H Q E, sp vs H Q E → vs.length = ps.length
  go : ∀ A outer s H args us vs Q E, Bare A → Room k A → Env0 P w K mg base A outer s H → BindsTo s fd args (ps.zip us) → Vals vs us → sp vs H Q E → codeAny (model P w) A (.call (.ref f) args) (CR CX outer P w H s Q E) s
section
variable {P : Program} {w : World} {K : PySem.W.Frag} {mg : Str → Option Value} {base : Heap}
theorem FnG.of {CX : CXT} {k : Nat} {f : Addr} {fd : FuncData} {ps : List Str} {sp : Sp} (F : FnOk P w K mg base CX k f fd ps sp) : FnG P w K mg base CX k f fd ps sp :=
  ⟨F.len, fun A outer s H args us vs Q E _ hr e b r h => F.run A outer s H args us vs Q E hr e b r h⟩
theorem fng {CX : CXT} {x qual : Str} {st : Stmt} {f : Addr} {fd : FuncData} {N ps : List Str} {k : Nat} {sp : Sp} (F : Fun K x qual st f fd) (S : FnScope N ps (defScope st)) (len : ∀ vs H Q E, sp vs H Q E → vs.length = ps.length)
    (hbody : ∀ (cdv : Value) (A : Around) (outer : List Env) (s : Shared) (H : Hp) (vs : List V) (Q : VK) (E : XK), Bare (A.deeper (envOfC qual (defScope st) s.heap.objs.size f cdv)) → Room k (A.deeper (envOfC qual (defScope st) s.heap.objs.size f cdv)) → sp vs H Q E →
      ∃ t, PSs (cxOf CX P w K mg base N qual (defScope st) f cdv A outer s H E) (defBody st) t ∧ t { nx := fun _ H' => Q .non H', rt := Q } (start N vs) H) : FnG P w K mg base CX (k + 1) f fd ps sp := by
  obtain ⟨oc, od, kV, doc, pm, an, cdv, ct, osl, rfl, lk, hcd⟩ := F.ex
  refine ⟨len, fun A outer s H args us vs Q E hg hr e0 hb r hsp => ?_⟩
  have hl := len _ _ _ _ hsp
  have KX : K.In s.heap := e0.mod.kin.keeps fun b o e => (e0.bs b o e).1
  have lim : s.heap.NoLimit := e0.mod.nolimit.keeps fun b o e => (e0.bs b o e).1
  refine codeAny_call_function hr.depth (KX _ _ lk) rfl S.co S.gen rfl (PySem.W.codeRec_of KX hcd) (hb _ _ _ _ ?_)
  refine wpAny_newFunctionEnv_cells S.kind (fun y hy => ?_) fun env he s1 z => ?_
  · rcases S.par y.1 (List.of_mem_zip hy).1 with q | q
    · exact .inl q
    · exact .inr ⟨q, PySem.W.cellsFrom_some _ _ _ (.inl q)⟩
  · subst he
    refine ⟨lim.keeps z.toInCall.keep, codeAny_func ?_⟩
    obtain ⟨t, ht, hq⟩ := hbody cdv A outer s H vs Q E hg (hr.deeper _) hsp
    have I := inv_start (CX := CX) (E := E) S hr.hd e0 hl r z
    refine wpAny_mono (ht.run [] s1 (start N vs) H _ I hq) (fun fl s' hs => ?_) fun e s' hs => hs
    cases fl with
    | ret u =>
      obtain ⟨v, σ', H', J, rv, q⟩ := hs
      exact ⟨v, H', J.os, J.bare, J.base, J.hok, rv, q⟩
    | next =>
      obtain ⟨σ', H', J, q⟩ := hs
      exact ⟨.non, H', J.os, J.bare, J.base, J.hok, rfl, q⟩
    | brk => obtain ⟨_, _, _, q⟩ := hs; exact q.elim
    | cont => obtain ⟨_, _, _, q⟩ := hs; exact q.elim
end
section
variable {X : Cx} {CX : CXT} {k : Nat} {f : Addr} {fd : FuncData} {ps : List Str} {sp : Sp} {dvs : List V} {ds : List Value} {E : XK} {x : Str} {p pos : Pos} {e : Expr} {es : List Expr} {t : TA}
theorem pe_callG (F : FnG X.prog X.w X.K X.mg X.base CX k f fd ps sp) (hG : Bare X.A) (hr : Room k X.A) (hg : Gl X x) (hm : X.mg x = some (.ref f)) (hk : PySem.W.keepIn X.K (.ref f) = true) (hb : Binds X.K fd ps ds) (hd : Vals dvs ds) (hx : Passes CX X E)
    (ha : PA X (e :: es) t) (hdb : (x == ("__debug__" : Str)) = false := by decide) (he : starEach (e :: es) X.env = (false, eval e X.env) :: starEach es X.env := by rfl) (hpl : (backTo pos (starEach es X.env)).any (·.1) = false := by rfl) :
    PE X (.Call (.Name x p) (e :: es) [] pos) (tCall sp dvs E t) := by
  refine ⟨fun pins s σ H Q I h => wpAny_Call_Name_kw (ld_glob I hg hm ?_ hdb)⟩
  refine PySem.W.callWith_K (h₀ := X.base) I.ok.mod.kin hk (thn (ha.run pos pins s σ H _ I h) fun us s1 ⟨vs, H1, I1, r, q⟩ => ⟨I1.kIn, ?_⟩) he hpl
  have r2 : Vals (vs ++ dvs) (us ++ ds) := r.append hd
  have hl : (us ++ ds).length = ps.length := by rw [← r2.length]; exact F.len _ _ _ _ q
  refine wpAny_call (codeAny_mono (F.go X.A X.stack s1 H1 ⟨us, []⟩ (us ++ ds) (vs ++ dvs) Q E hG hr I1.env0 (hb s1 us I1.kIn hl) r2 q) fun r s' hq => ?_)
  cases r with
  | error e => exact hx pins σ H1 s1 e s' I1 hq
  | ok fl =>
    cases fl with
    | ret u => exact I1.after hq
    | next => exact False.elim hq
    | brk => exact False.elim hq
    | cont => exact False.elim hq
end
section
variable {X : Cx}
def rReprA (K : PySem.W.Frag) : List V → Hp → VK → Prop := fun xs H Q => ∃ v d, xs = [v] ∧ Dp K H v d ∧ d.showable = true ∧ d.hasDict = false ∧ d.depth ≤ 60 ∧ d.shown.length ≤ sizeLine ∧ Q (.str d.shown) H
theorem call_reprA {K : PySem.W.Frag} (hG : Bare X.A) (hu : X.A.units + 64 < cLine) (hK : X.K = K := by rfl) : CallR X (.builtin "repr") (rReprA K) := by
  subst hK
  intro pins s σ H xs us Q I r h
  obtain ⟨v, d, rfl, hd, h1, h2, h3, h4, q⟩ := h
  obtain ⟨u, rfl, ru⟩ := vals1 r
  obtain ⟨as, rd⟩ := Dp.reads I d v u hd ru
  cases v with
  | ref a =>
    cases ru
    refine repr_of_reads' rd h1 (fun z => by rw [h2] at z; cases z) hG (by omega) (fun _ _ e => e) (fun h' u tk hk => ?_) h4
    exact ⟨.str d.shown, H, I.kept hk, ⟨u, rfl⟩, q⟩
  | non =>
    cases hd
    cases ru
    exact P.repr_of_none ⟨.str _, H, I.tok _, ⟨_, rfl⟩, q⟩
  | bl b =>
    cases hd
    cases ru
    exact P.repr_of_bool ⟨.str _, H, I.tok _, ⟨_, rfl⟩, q⟩
  | int i =>
    cases hd
    obtain ⟨t, rfl⟩ := ru
    exact P.repr_of_int (by simpa [PyData.showable] using h1) ⟨.str _, H, I.tok _, ⟨_, rfl⟩, q⟩
  | str x =>
    cases hd
    obtain ⟨t, rfl⟩ := ru
    exact P.repr_of_str ⟨.str _, H, I.tok _, ⟨_, rfl⟩, q⟩ h4
  | byt _ => cases hd
  | flt _ => cases hd
  | ty _ => cases hd
end
end Lay

set_option exponentiation.threshold 256
set_option Elab.async false
set_option linter.all false
set_option maxRecDepth 100000
set_option maxHeartbeats 4000000
namespace Lay
open PySem PySem.Spec PyProof.Rows L2
section
variable {P : Program} {w : World} {K : PySem.W.Frag} {mg mb : Str → Option Value} {CX : CXT} {k : Nat} {fa a : Addr} {fd : FuncData} {x : Str} {sp : Sp} {s₁ : Shared} {vs : List Value} {ns : List Int}
abbrev Ends1 (h : Heap) (s₁ : Shared) (r : Result) (s' : Shared) : Prop := r = .ok (.ret (.bool true)) ∧ OldK h s'.heap ∧ s'.os = s₁.os ∧ AllBare s'.gens
theorem entry (KX : K.In s₁.heap) (hns : s₁.heap.Ns mainGlobals mg) (hb : s₁.heap.Ns builtinsNs mb) (hbb : ∀ x : Str, x ≠ "__name__" → mb x = bootBuiltins x) (hlim : s₁.heap.NoLimit) (hg : s₁.gens = #[])
    (hr : Room k callerA) (F : ∀ base : Heap, K.In base → base.Ns mainGlobals mg → FnG P w K mg base CX k fa fd [x] sp) (hbind : ∀ (s : Shared) (u : Value), BindsTo s fd ⟨[u], []⟩ [(x, u)])
    (hCX : ∀ H e s', CX [] H s₁ (fun _ _ _ => False) e s' → False)
    (H : Hp) (hS : sp [.ref a] H (fun v _ => v = .bl true) fun _ _ _ => False) (hok : HOk P w H s₁.heap) (hfree : ∀ b o, s₁.heap.get? b = some o → (∃ es ep, o.data = .dict es ep) ∨ (∃ o', K.lookup b = some o') → H b = none)
    (hst : ∀ b u, H b = some u → ∃ o ys, u = .frz o (.lst ys)) :
    codeAny (model P w) callerA (.call (.ref fa) ⟨[.ref a], []⟩) (Ends1 s₁.heap s₁) s₁ := by
  have keep : ∀ {b : Addr} {m : Str → Option Value}, s₁.heap.Ns b m → (hidT s₁.heap H).Ns b m := fun {b m} z => by
    obtain ⟨o, es, ep, e, d, r⟩ := z
    exact ⟨o, es, ep, hidT_get e (hfree b o e (.inl ⟨es, ep, d⟩)), d, r⟩
  have kin : K.In (hidT s₁.heap H) := fun b o e => hidT_get (KX b o e) (hfree b o (KX b o e) (.inr ⟨o, e⟩))
  obtain ⟨mc, l1, l2⟩ := hlim
  have e0 : Env0 P w K mg (hidT s₁.heap H) callerA [] s₁ H :=
    { frames := rfl, mod := ⟨kin, keep hns, ⟨mb, keep hb, hbb⟩, ⟨mc, keep l1, l2⟩⟩, bs := fun b o e => of_hidT e, bsz := Nat.le_of_eq (hidT_size _ _), funs := trivial, frf := (fun b hb => nomatch hb), hok := hok, bare := .of_eq hg }
  have run := (F _ kin (keep hns)).go callerA [] s₁ H ⟨[.ref a], []⟩ [.ref a] [.ref a] _ _ rfl hr e0 (hbind s₁ (.ref a)) (.cons rfl .nil) hS
  refine codeAny_mono run fun r s' h => ?_
  cases r with
  | error e => exact (hCX H e s' h).elim
  | ok fl =>
    cases fl with
    | ret u =>
      obtain ⟨v, H', os, bare, un, hok', r', q⟩ := h
      cases (show v = .bl true from q)
      cases (show u = Value.bool true from r')
      refine ⟨rfl, OldK.of_keep fun b o e => ?_, os, bare⟩
      cases q : H b with
      | none => exact un.keep b o e q (fun z => nomatch z) (fun z => nomatch z)
      | some u =>
        obtain ⟨ob, ys, rfl⟩ := hst b u q
        have e1 := (hok b _ q).1
        have e2 := (hok' b _ (un.frzs b ob _ q)).1
        rw [e] at e1
        cases e1
        exact e2
    | next => exact False.elim h
    | brk => exact False.elim h
    | cont => exact False.elim h
theorem walk_g {l : PySem.W.OpenLaw} {n : Nat} {q : Program} {loose : List Str} {XP : (Str → Option Value) → Heap → Prop} {YP : World → Heap → Prop} {d : DefRec} {K : Params → PySem.W.Frag} {CX : World → CXT} {sp : World → Sp}
    (hn : l.most = some n) (hn2 : n ≤ sizeLine) (hdf : d.params.defaults = []) (hr : Room k callerA) (hY : ∀ (w : World) (h : Heap), YP w h → (K w.params).In h)
    (F : ∀ (w : World) (mg : Str → Option Value) (fa : Addr) (h : Heap), (K w.params).In h → h.Ns mainGlobals mg → mg d.name = some (.ref fa) →
      ∃ fd : FuncData, (∀ (s : Shared) (u : Value), BindsTo s fd ⟨[u], []⟩ [(x, u)]) ∧ ∀ base : Heap, (K w.params).In base → base.Ns mainGlobals mg → FnG l.prog w (K w.params) mg base (CX w) k fa fd [x] (sp w))
    (hsp : ∀ (w : World) (H : Hp) (a : Addr) (ns : List Int), ns.length ≤ n → SqL (K w.params) H a (ns.map V.int) → sp w [.ref a] H (fun v _ => v = .bl true) fun _ _ _ => False)
    (hCX : ∀ (w : World) (H : Hp) (s : Shared) (e : Value) (s' : Shared), CX w [] H s (fun _ _ _ => False) e s' → False) :
    PySem.W.WalkO q loose XP YP l.row.toRowW d [] (fun f vs => PySem.call f vs) := by
  refine Att.attach_call hn hdf fun w s₀ s₁ mg mb fa o pm cd doc a vs ns G Y ho hd hcd hmg hobj hints hlen hg => ?_
  have KX := hY w _ Y
  obtain ⟨fd, hb, hF⟩ := F w mg fa _ KX G.T.g hmg
  have rv := vals_ints hints
  have lv := hints.length
  have hz : ns.length ≤ sizeLine := Nat.le_trans hlen hn2
  cases hk : (K w.params).lookup a with
  | some o2 =>
    have e := KX a o2 hk
    rw [hobj] at e
    cases e
    refine entry KX G.T.g G.T.b G.T.builtins G.T.nolimit hg hr hF hb (fun H e s' => hCX w H s₁ e s') (fun _ => none) ?_ (fun _ _ z => nomatch z) (fun _ _ _ _ => rfl) (fun _ _ z => nomatch z)
    exact hsp w _ a ns hlen (.inr ⟨_, vs.toArray, _, hk, rfl, rfl, rfl, by rw [List.size_toArray, lv]; exact hz, by simpa using rv⟩)
  | none =>
    generalize ho2 : ({ cls := .type "list", data := .seq vs.toArray } : Obj) = ob at hobj
    refine entry KX G.T.g G.T.b G.T.builtins G.T.nolimit hg hr hF hb (fun H e s' => hCX w H s₁ e s') (upd (fun _ => none) a (.frz ob (.lst (ns.map V.int)))) ?_ (fun b u z => ?_) (fun b o2 e1 e2 => ?_) (fun b u z => ?_)
    · exact hsp w _ a ns hlen (.inl (.inr ⟨ob, upd_same⟩))
    · by_cases c : b = a
      · subst c
        rw [upd_same] at z
        cases z
        subst ho2
        exact ⟨hobj, by rw [List.length_map]; exact hz, vs, _, rv, hobj⟩
      · rw [upd_ne c] at z
        cases z
    · by_cases c : b = a
      · subst c
        rw [hobj] at e1
        cases e1
        subst ho2
        rcases e2 with ⟨es, ep, e2⟩ | ⟨o', e2⟩
        · cases e2
        · rw [hk] at e2
          cases e2
      · rw [upd_ne c]
    · by_cases c : b = a
      · subst c
        rw [upd_same] at z
        cases z
        exact ⟨_, _, rfl⟩
      · rw [upd_ne c] at z
        cases z
end
end Lay

set_option exponentiation.threshold 256
set_option Elab.async false
set_option linter.all false
set_option maxRecDepth 100000
set_option maxHeartbeats 4000000
namespace Lay
open PySem PySem.Spec PyProof.Rows L2
structure FnC (CX : CXT) (P : Program) (w : World) (K : PySem.W.Frag) (mg : Str → Option Value) (base : Heap) (k : Nat) (x : Str) (sp : Sp) : Prop where
  ex : ∃ (f : Addr) (fd : FuncData) (ps : List Str), FnOk P w K mg base CX k f fd ps sp ∧ mg x = some (.ref f) ∧ PySem.W.keepIn K (.ref f) = true ∧ Binds K fd ps []
abbrev Fn0 := FnC CX0
abbrev FnX (P : Program) (w : World) := FnC (L2.CX P w) P w
structure FnS (P : Program) (w : World) (K : PySem.W.Frag) (mg : Str → Option Value) (base : Heap) (k : Nat) (x : Str) (sp : Sp) : Prop where
  ex : ∃ (f : Addr) (fd : FuncData) (ps : List Str), FnG P w K mg base CX0 k f fd ps sp ∧ mg x = some (.ref f) ∧ PySem.W.keepIn K (.ref f) = true ∧ Binds K fd ps []
structure MeC (CX : CXT) (P : Program) (w : World) (K : PySem.W.Frag) (mg : Str → Option Value) (base : Heap) (k : Nat) (C : Addr) (m : Str) (sp : Sp) : Prop where
  ex : ∃ (f : Addr) (fd : FuncData) (ps : List Str), FnOk P w K mg base CX k f fd ps sp ∧ Cls K C ∧ Meth K C m f ∧ Binds K fd ps []
structure MkC (P : Program) (w : World) (K : PySem.W.Frag) (mg : Str → Option Value) (base : Heap) (k : Nat) (x : Str) (C : Addr) (sp : Sp) : Prop where
  ex : ∃ (f : Addr) (fd : FuncData) (ps : List Str), FnOk P w K mg base CX0 k f fd ps sp ∧ Mk K C f ∧ mg x = some (.ref C) ∧ Binds K fd ps []
theorem FnC.imp {CX : CXT} {P : Program} {w : World} {K : PySem.W.Frag} {mg : Str → Option Value} {base : Heap} {k : Nat} {x : Str} {sp sp' : Sp} (c : FnC CX P w K mg base k x sp) (h : ∀ vs H Q E, sp' vs H Q E → sp vs H Q E) : FnC CX P w K mg base k x sp' := by
  obtain ⟨f, fd, ps, F, r⟩ := c.ex
  exact ⟨f, fd, ps, F.imp h, r⟩
section
variable {X : Cx} {CX : CXT} {j k : Nat} {sp : Sp} {E : XK} {x m : Str} {p pos apos : Pos} {e o : Expr} {es : List Expr} {t : TA} {ta : TE} {C : Addr}
theorem pe_f0 (c : Fn0 X.prog X.w X.K X.mg X.base k x sp) (hr : Room j X.A) (hk : k ≤ j) (ha : PA X (e :: es) t) (hg : Gl X x := by rfl) (hdb : (x == ("__debug__" : Str)) = false := by decide)
    (he : starEach (e :: es) X.env = (false, eval e X.env) :: starEach es X.env := by rfl) (hpl : (backTo pos (starEach es X.env)).any (·.1) = false := by rfl) :
    PE X (.Call (.Name x p) (e :: es) [] pos) (tCall sp [] E0 t) := by
  obtain ⟨f, fd, ps, F, hm, kp, b⟩ := c.ex
  exact pe_call F (hr.mono hk) hg hm kp b .nil pass0 ha hdb he hpl
theorem pe_f_0 (c : Fn0 X.prog X.w X.K X.mg X.base k x sp) (hr : Room j X.A) (hk : k ≤ j) (hg : Gl X x := by rfl) (hdb : (x == ("__debug__" : Str)) = false := by decide) :
    PE X (.Call (.Name x p) [] [] pos) (tCall sp [] E0 tNil) := by
  obtain ⟨f, fd, ps, F, hm, kp, b⟩ := c.ex
  exact pe_call0 F (hr.mono hk) hg hm kp b .nil pass0 hdb
theorem pe_fx (c : FnX X.prog X.w X.K X.mg X.base k x sp) (hr : Room j X.A) (hk : k ≤ j) (hx : Passes (L2.CX X.prog X.w) X E) (ha : PA X (e :: es) t) (hg : Gl X x := by rfl) (hdb : (x == ("__debug__" : Str)) = false := by decide)
    (he : starEach (e :: es) X.env = (false, eval e X.env) :: starEach es X.env := by rfl) (hpl : (backTo pos (starEach es X.env)).any (·.1) = false := by rfl) :
    PE X (.Call (.Name x p) (e :: es) [] pos) (tCall sp [] E t) := by
  obtain ⟨f, fd, ps, F, hm, kp, b⟩ := c.ex
  exact pe_call F (hr.mono hk) hg hm kp b .nil hx ha hdb he hpl
theorem pe_fs {E : L2.St → XK} (c : FnX X.prog X.w X.K X.mg X.base k x sp) (hr : Room j X.A) (hk : k ≤ j) (hx : ∀ σ, PassesAt (L2.CX X.prog X.w) X σ (E σ)) (ha : PA X (e :: es) t) (hg : Gl X x := by rfl) (hdb : (x == ("__debug__" : Str)) = false := by decide)
    (he : starEach (e :: es) X.env = (false, eval e X.env) :: starEach es X.env := by rfl) (hpl : (backTo pos (starEach es X.env)).any (·.1) = false := by rfl) :
    PE X (.Call (.Name x p) (e :: es) [] pos) (tCallSD sp [] E t) := by
  obtain ⟨f, fd, ps, F, hm, kp, b⟩ := c.ex
  exact pe_callSD F (hr.mono hk) hg hm kp b .nil hx ha hdb he hpl
theorem FnG.mono {P : Program} {w : World} {K : PySem.W.Frag} {mg : Str → Option Value} {base : Heap} {f : Addr} {fd : FuncData} {ps : List Str} (F : FnG P w K mg base CX j f fd ps sp) (h : j ≤ k) : FnG P w K mg base CX k f fd ps sp :=
  ⟨F.len, fun A outer s H args us vs Q E hg hr => F.go A outer s H args us vs Q E hg (hr.mono h)⟩
theorem pe_fg (c : FnS X.prog X.w X.K X.mg X.base k x sp) (hG : Bare X.A) (hr : Room j X.A) (hk : k ≤ j) (ha : PA X (e :: es) t) (hg : Gl X x := by rfl) (hdb : (x == ("__debug__" : Str)) = false := by decide)
    (he : starEach (e :: es) X.env = (false, eval e X.env) :: starEach es X.env := by rfl) (hpl : (backTo pos (starEach es X.env)).any (·.1) = false := by rfl) :
    PE X (.Call (.Name x p) (e :: es) [] pos) (tCall sp [] E0 t) := by
  obtain ⟨f, fd, ps, F, hm, kp, b⟩ := c.ex
  exact pe_callG F hG (hr.mono hk) hg hm kp b .nil pass0 ha hdb he hpl
theorem pe_me {pl : Sem Bool} (c : MeC CX X.prog X.w X.K X.mg X.base k C m sp) (hr : Room j X.A) (hk : k ≤ j) (hx : Passes CX X E) (ho : PE X o ta) (ha : PA X (e :: es) t)
    (hst : starEach (e :: es) X.env = (false, eval e X.env) :: starEach es X.env := by rfl) (hpl : (backTo pos (starEach es X.env)).any (·.1) = false := by rfl)
    (ht : eval (.Call (.Attribute o m apos) (e :: es) [] pos) X.env = (do
      let ov ← eval o X.env
      standAt apos.atName
      let (f, first) ← holding [ov] (getMethod ov m pl)
      callWith pos f first (backTo pos (starEach (e :: es) X.env)) (backToKw pos (keywordEach [] X.env))) := by rfl) :
    PE X (.Call (.Attribute o m apos) (e :: es) [] pos) (tMeth C m sp [] E ta t) := by
  obtain ⟨f, fd, ps, F, hc, hm, b⟩ := c.ex
  exact pe_meth (pl := pl) ho hc hm F (hr.mono hk) b .nil hx ha hst hpl ht
theorem pe_me0 {pl : Sem Bool} (c : MeC CX X.prog X.w X.K X.mg X.base k C m sp) (hr : Room j X.A) (hk : k ≤ j) (hx : Passes CX X E) (ho : PE X o ta)
    (ht : eval (.Call (.Attribute o m apos) [] [] pos) X.env = (do
      let ov ← eval o X.env
      standAt apos.atName
      let (f, first) ← holding [ov] (getMethod ov m pl)
      callWith pos f first (backTo pos (starEach [] X.env)) (backToKw pos (keywordEach [] X.env))) := by rfl) :
    PE X (.Call (.Attribute o m apos) [] [] pos) (tMeth C m sp [] E ta tNil) := by
  obtain ⟨f, fd, ps, F, hc, hm, b⟩ := c.ex
  exact pe_meth0 (pl := pl) ho hc hm F (hr.mono hk) b .nil hx ht
theorem pe_new0 (c : MkC X.prog X.w X.K X.mg X.base k x C sp) (hr : Room j X.A) (hk : k + 1 ≤ j) (hg : Gl X x := by rfl) (hdb : (x == ("__debug__" : Str)) = false := by decide) :
    PE X (.Call (.Name x p) [] [] pos) (tMake C sp [] E0 tNil) := by
  obtain ⟨f, fd, ps, F, M, hm, b⟩ := c.ex
  exact pe_make0 M F (hr.mono hk) hg hm b .nil pass0 hdb
theorem pe_new (c : MkC X.prog X.w X.K X.mg X.base k x C sp) (hr : Room j X.A) (hk : k + 1 ≤ j) (ha : PA X (e :: es) t) (hg : Gl X x := by rfl) (hdb : (x == ("__debug__" : Str)) = false := by decide)
    (he : starEach (e :: es) X.env = (false, eval e X.env) :: starEach es X.env := by rfl) (hpl : (backTo pos (starEach es X.env)).any (·.1) = false := by rfl) :
    PE X (.Call (.Name x p) (e :: es) [] pos) (tMake C sp [] E0 t) := by
  obtain ⟨f, fd, ps, F, M, hm, b⟩ := c.ex
  exact pe_make M F (hr.mono hk) hg hm b .nil pass0 ha hdb he hpl
theorem pe_gc {v : V} (hg : Gl X x) (h : ∃ u, X.mg x = some u ∧ RelV v u) (hd : (x == ("__debug__" : Str)) = false := by decide) : PE X (.Name x pos) (tC v) := by
  obtain ⟨u, hm, r⟩ := h
  exact pe_glob hg hm r hd
end
def Ites (x : Str) : It :=
  ⟨fun i _ => i < x.cps.size, fun i H v H' => ∃ T c, v = .ref T ∧ H T = none ∧ H' = upd H T (.tup [.int (i : Nat), .str ⟨#[c]⟩]) ∧ x.cps[i]? = some c, fun i _ => x.cps.size = i⟩
section
theorem turn_enumS {P : Program} {w : World} {K : PySem.W.Frag} {elts : List Expr} {kk : Nat} {tpos : Pos} (x : Str) (t : Tok) (e it : Addr) :
    Turn P w K (.Tuple elts kk tpos) (Ites x) [e, it] e (fun i h => (∃ old, IsEnum h e it ((i : Nat) : Int) old) ∧ h.IsStrIter it (strIterType x) x t i ∧ e ≠ it) where
  mem := List.mem_cons_self ..
  obj := fun i h st b hb => by
    obtain ⟨⟨old, he⟩, ⟨o, ho, hc, hd⟩, _⟩ := st
    rcases (show b = e ∨ b = it by simpa using hb) with rfl | rfl
    · exact ⟨_, he, fun v q => nomatch q⟩
    · exact ⟨o, ho, fun v q => by rw [hd] at q; cases q⟩
  keep := fun i h h' st k => by
    obtain ⟨⟨old, he⟩, ⟨o, ho, r⟩, hne⟩ := st
    exact ⟨⟨old, k e (by simp) _ he⟩, ⟨o, k it (by simp) o ho, r⟩, hne⟩
  item := by
    intro X hP hw hK hc i pins s σ H E I hf st hg
    subst hP hw hK
    obtain ⟨⟨old, he⟩, hit, hne⟩ := st
    have hel := Heap.lt_size he
    have hil : it < s.heap.objs.size := by
      obtain ⟨_, q, _⟩ := hit
      exact Heap.lt_size q
    refine wpAny_pyNext_enum_itemD (Draws.text (A := X.A.in1) (I.ok.hd hc) it x t) he hit hg hne (by simpa using hne) fun y h' tk hy ho hit' hT hsz hk => ?_
    obtain ⟨c, u, hcx, rfl⟩ := hy
    refine ⟨_, rfl, wpAny_letOwnedTupleGo_enum (s := { s with heap := h', toks := tk + 1 }) ho fun h'' he' sb => ?_⟩
    have hT2 := (sb.2 _ (Nat.ne_of_gt hel)).trans hT
    have new : ObjOk X.prog X.w (upd H s.heap.objs.size (.tup [.int (i : Nat), .str ⟨#[c]⟩])) h'' s.heap.objs.size (.tup [.int (i : Nat), .str ⟨#[c]⟩]) :=
      ⟨by show 2 ≤ sizeLine; decide, [.int i tk, .str ⟨#[c]⟩ u], .cons ⟨_, rfl⟩ (.cons ⟨_, rfl⟩ .nil), ⟨_, hT2, rfl, _, rfl⟩⟩
    have I1 := I.turnedNew (t' := tk + 1) (h' := h'') (ch := [e, it]) (fun b ob hb q => (sb.2 b (fun z => hb (by simp [z]))).trans (hk b ob (fun z => hb (by simp [z])) (fun z => hb (by simp [z])) q)) hf (Nat.le_refl _) new
    refine ⟨.ref s.heap.objs.size, _, I1, rfl, ⟨_, c, rfl, I.hok.fresh (Nat.le_refl _), rfl, hcx⟩, ⟨⟨.str ⟨#[c]⟩ u, ?_⟩, ?_, hne⟩, fun b hb => ?_⟩
    · rw [show ((i + 1 : Nat) : Int) = (i : Int) + 1 by omega]
      exact he'
    · obtain ⟨o, q, r⟩ := hit'
      exact ⟨o, (sb.2 it (Ne.symm hne)).trans q, r⟩
    · have hb' : b < s.heap.objs.size := by
        rcases (show b = e ∨ b = it by simpa using hb) with rfl | rfl
        · exact hel
        · exact hil
      rw [upd_ne (Nat.ne_of_lt hb')]
      exact (hf b hb).1
  done := by
    intro X hP hw hK hc i pins s σ H E I hf st hg
    subst hP hw hK
    obtain ⟨⟨old, he⟩, hit, hne⟩ := st
    obtain ⟨f0, f1, f2, f3, f4, f5⟩ := hf it (by simp)
    have hi : i = x.cps.size := Eq.symm hg
    subst hi
    exact wpAny_pyNext_enum_endD (Draws.text (A := X.A.in1) (I.ok.hd hc) it x t) he hit fun h' eb => ⟨rfl, I.turned (t' := s.toks) (fun b o hb q => eb b o hb q) f0 f1 f3 f4 f5⟩
  self := fun A i s Q E st h => let ⟨⟨_, he⟩, _⟩ := st; wpAny_pyIter_enum he h
def iEnumA (te : TE) : TI := fun σ H R => te σ H fun v H1 => ∃ x, v = .str x ∧ R (Ites x) H1
theorem pi_enumA {X : Cx} {e : Expr} {te : TE} {p pos tpos : Pos} {elts : List Expr} {kk : Nat} (hg : Gl X "enumerate") (hm : X.mg "enumerate" = none) (hc : X.calm = true) (he : PE X e te) (hs : starEach [e] X.env = [(false, eval e X.env)] := by rfl) :
    PI X (.Tuple elts kk tpos) (.Call (.Name "enumerate" p) [e] [] pos) (iEnumA te) := by
  refine ⟨fun pins s σ H R I h => ?_⟩
  refine Call_ (ld_blt I hg hm boot_enumerate (PyProof.Rows.callWith_type1 (thn ((pa_cons (es := []) he pa_nil (by rw [hs] <;> rfl)).run pos pins s σ H (fun vs H1 => ∃ x, vs = [.str x] ∧ R (Ites x) H1) I ?_) fun us s1 ⟨vs, H1, I1, r1, q1⟩ => ?_) hs rfl))
  · show te σ H _
    have e1 : (fun v H1 => ∃ x, [v] = [V.str x] ∧ R (Ites x) H1) = (fun (v : V) (H1 : Hp) => ∃ x, v = V.str x ∧ R (Ites x) H1) := by
      funext v H1
      simp
    show te σ H (fun v H1 => ∃ x, [v] = [V.str x] ∧ R (Ites x) H1)
    rw [e1]
    exact h
  · obtain ⟨x, rfl, q⟩ := q1
    obtain ⟨u, rfl, t, rfl⟩ := vals1 r1
    refine call_enumerate_str fun h' he hit hsz hk => wpAny_pyIter_enum he ?_
    have I2 : Inv X pins σ H1 { s1 with heap := h' } := I1.kept (t' := s1.toks) hk
    refine ⟨s1.heap.objs.size + 1, [s1.heap.objs.size + 1, s1.heap.objs.size], _, _, H1, rfl, I2, turn_enumS x t (s1.heap.objs.size + 1) s1.heap.objs.size, ⟨⟨.none, he⟩, hit, Nat.succ_ne_self _⟩, fun b hb => ?_, q⟩
    have hle : s1.heap.objs.size ≤ b := by
      rcases (show b = s1.heap.objs.size + 1 ∨ b = s1.heap.objs.size by simpa using hb) with rfl | rfl
      · exact Nat.le_add_right _ _
      · exact Nat.le_refl _
    exact I1.fpOk hle (I1.hok.fresh hle)
end
end Lay

set_option exponentiation.threshold 256
set_option Elab.async false
set_option linter.all false
set_option maxRecDepth 100000
set_option maxHeartbeats 4000000
namespace Lay
open PySem PySem.Spec PyProof.Rows L2
section
variable {σ : L2.St} {H : Hp} {Q : VK} {QT : Bool → Hp → Prop} {QA : List V → Hp → Prop} {i : Nat} {v x y : V} {ta tb te tc : TE} {t u : TT} {tr ts : TA} {r r' : R2} {K : PySem.W.Frag} {E : XK} {sp : Sp} {C : Addr} {m : Str}
variable {nx bk ct : L2.St → Hp → Prop} {rt : VK} {s1 s2 : TS} {g : TG}
theorem w_var (h : σ[i]? = some (some v)) (q : Q v H) : tVar i σ H Q := ⟨v, h, q⟩
theorem w_c (q : Q v H) : tC v σ H Q := q
theorem w_op (h : ta σ H fun x H1 => tb σ H1 fun y H2 => r x y H2 Q) : tOp r ta tb σ H Q := h
theorem w_un {r : V → Hp → VK → Prop} (h : ta σ H fun x H1 => r x H1 Q) : tUn r ta σ H Q := h
theorem w_neg {n : Int} (q : Q (.int (-n)) H) : rU (fun i => .int (-i)) (.int n) H Q := ⟨n, rfl, q⟩
theorem w_cb {r : List V → Hp → VK → Prop} (h : tr σ H fun vs H1 => r vs H1 Q) : tCB r tr σ H Q := h
theorem w_acons (h : ta σ H fun x H1 => tr σ H1 fun xs H2 => QA (x :: xs) H2) : tCons ta tr σ H QA := h
theorem w_anil (h : QA [] H) : tNil σ H QA := h
theorem w_tup0 (h : tr σ H fun xs H1 => xs.length ≤ 1000000 ∧ NewG H1 (.tup xs) Q) : tTupG tr σ H Q := h
theorem w_lst0 (h : tr σ H fun xs H1 => xs.length ≤ 1000000 ∧ NewG H1 (.lst xs) Q) : tLstG tr σ H Q := h
theorem w_mk {xs : List V} {o : HO} (hl : xs.length ≤ 1000000) (h : NewG H o Q) : xs.length ≤ 1000000 ∧ NewG H o Q := ⟨hl, h⟩
theorem w_tupL {p : Addr} {ys : List V} (h : SqL K H p ys) (q : NewG H (.tup ys) Q) : rTupA K [.ref p] H Q := ⟨p, ys, rfl, .inl ⟨h, q⟩⟩
theorem w_tupT {p : Addr} {ys : List V} (h : SqT K H p ys) (q : Q (.ref p) H) : rTupA K [.ref p] H Q := ⟨p, ys, rfl, .inr ⟨h, q⟩⟩
theorem w_listL {p : Addr} {ys : List V} (h : SqA K H p ys) (q : NewG H (.lst ys) Q) : rListA K [.ref p] H Q := ⟨p, ys, rfl, h, q⟩
theorem w_add_lst {a b : Addr} {xs ys : List V} (h1 : H a = some (.lst xs)) (h2 : H b = some (.lst ys)) (hl : xs.length + ys.length ≤ 1000000) (q : NewG H (.lst (xs ++ ys)) Q) : rAddA (.ref a) (.ref b) H Q := ⟨xs, ys, h1, h2, hl, q⟩
theorem w_sl_lst {a : Addr} {xs : List V} {lo hi : Option Int} (h : SqL K H a xs) (q : NewG H (.lst (cutV xs lo hi)) Q) : rSlA' K (.ref a) lo hi H Q := .inl ⟨xs, h, q⟩
theorem w_call (h : tr σ H fun vs H1 => sp vs H1 Q E) : tCall sp [] E tr σ H Q := by
  show tr σ H fun vs H1 => sp (vs ++ []) H1 Q E
  have e : (fun (vs : List V) H1 => sp (vs ++ []) H1 Q E) = fun vs H1 => sp vs H1 Q E := by
    funext vs H1
    rw [List.append_nil]
  rw [e]
  exact h
theorem w_callS {E : L2.St → XK} (h : tr σ H fun vs H1 => sp vs H1 Q (E σ)) : tCallSD sp [] E tr σ H Q := by
  show tr σ H fun vs H1 => sp (vs ++ []) H1 Q (E σ)
  have e : (fun (vs : List V) H1 => sp (vs ++ []) H1 Q (E σ)) = fun vs H1 => sp vs H1 Q (E σ) := by
    funext vs H1
    rw [List.append_nil]
  rw [e]
  exact h
theorem w_meth (h : ta σ H fun x H1 => ∃ a dx fs, x = .ref a ∧ H1 a = some (.ins C dx fs) ∧ fs.lookup m = none ∧ tr σ H1 fun vs H2 => sp (x :: vs) H2 Q E) : tMeth C m sp [] E ta tr σ H Q := by
  show ta σ H fun x H1 => ∃ a dx fs, x = .ref a ∧ H1 a = some (.ins C dx fs) ∧ fs.lookup m = none ∧ tr σ H1 fun vs H2 => sp (x :: vs ++ []) H2 Q E
  simp only [List.append_nil]
  exact h
theorem w_test (h : te σ H fun x H1 => ∃ k, x = .bl k ∧ QT k H1) : tTest te σ H QT := h
theorem w_tB (h : te σ H fun x H1 => ∃ k, x = .bl k ∧ QT k H1) : tB te σ H QT := h
theorem w_bl {b : Bool} {R : Bool → Prop} (q : R b) : ∃ k, V.bl b = .bl k ∧ R k := ⟨b, rfl, q⟩
theorem w_and (h : t σ H fun c H1 => if c = true then u σ H1 QT else QT false H1) : tAnd t u σ H QT := h
theorem w_or (h : t σ H fun c H1 => if c = true then QT true H1 else u σ H1 QT) : tOr t u σ H QT := h
theorem w_not (h : t σ H fun c H1 => QT (!c) H1) : tNot t σ H QT := h
theorem w_ifx (h : t σ H fun c H1 => if c = true then ta σ H1 Q else tb σ H1 Q) : tIf t ta tb σ H Q := h
theorem w_andV (h : ta σ H fun x H1 => ∃ c, x = .bl c ∧ if c = true then tb σ H1 Q else Q (.bl false) H1) : tAndV ta tb σ H Q := h
theorem w_orV (h : ta σ H fun x H1 => ∃ c, x = .bl c ∧ if c = true then Q (.bl true) H1 else tb σ H1 Q) : tOrV ta tb σ H Q := h
theorem w_notV (h : ta σ H fun x H1 => ∃ c, x = .bl c ∧ Q (.bl (!c)) H1) : tNotV ta σ H Q := h
theorem w_iteT {A B : Prop} (h : A) : if true = true then A else B := by rw [if_pos rfl]; exact h
theorem w_iteF {A B : Prop} (h : B) : if false = true then A else B := by rw [if_neg Bool.false_ne_true]; exact h
theorem w_ite {b : Bool} {A B : Prop} (h1 : b = true → A) (h2 : b = false → B) : if b = true then A else B := by
  cases b with
  | true => exact w_iteT (h1 rfl)
  | false => exact w_iteF (h2 rfl)
theorem w_iteP {b : Bool} {A B : Prop} (e : b = true) (h : A) : if b = true then A else B := by rw [if_pos e]; exact h
theorem w_iteN {b : Bool} {A B : Prop} (e : b = false) (h : B) : if b = true then A else B := by rw [e]; exact w_iteF h
theorem w_add_int {a b : Int} (q : Q (.int (a + b)) H) : rAddA (.int a) (.int b) H Q := q
theorem w_add_str {a b : Str} (hl : a.length + b.length ≤ 10000000) (q : Q (.str (a ++ b)) H) : rAddA (.str a) (.str b) H Q := ⟨Nat.le_trans hl (by decide), q⟩
theorem w_sub {a b : Int} (q : Q (.int (a - b)) H) : rSubA (.int a) (.int b) H Q := ⟨a, b, rfl, rfl, q⟩
theorem w_mod {a b : Int} (hb : 0 < b) (q : Q (.int (a % b)) H) : rModA (.int a) (.int b) H Q := ⟨a, b, rfl, rfl, hb, q⟩
theorem w_fdiv {a b : Int} (hb : 0 < b) (hb2 : b < 1073741824) (q : Q (.int (a / b)) H) : rFdivA (.int a) (.int b) H Q := ⟨a, b, rfl, rfl, ⟨hb, hb2⟩, q⟩
theorem w_mulR {a b : Int} (h1 : -(2 ^ 64) < b) (h2 : b < 2 ^ 64) (q : Q (.int (a * b)) H) : rMulA (.int a) (.int b) H Q := ⟨(show CMul a b from .inr ⟨h1, h2⟩).ok, q⟩
theorem w_mulL {a b : Int} (h1 : -(2 ^ 64) < a) (h2 : a < 2 ^ 64) (q : Q (.int (a * b)) H) : rMulA (.int a) (.int b) H Q := ⟨(show CMul a b from .inl ⟨h1, h2⟩).ok, q⟩
theorem w_mulStr {a : Str} {n : Int} (h : MulOk a n) (q : Q (.str (Txt.mul a n)) H) : rMulA (.str a) (.int n) H Q := ⟨h, q⟩
theorem w_aug {te : TE} {ti : TIp} (h : σ[i]? = some (some x)) (q : te σ H fun y H1 => ti x y H1 fun z H2 => nx (σ.set i (some z)) H2) : tAug i te ti ⟨nx, rt, bk, ct⟩ σ H := ⟨x, h, q⟩
theorem w_iadd_int {a b : Int} (q : Q (.int (a + b)) H) : rIaddA (.int a) (.int b) H Q := q
theorem w_iadd_str {a b : Str} (hl : a.length + b.length ≤ 10000000) (q : Q (.str (a ++ b)) H) : rIaddA (.str a) (.str b) H Q := ⟨Nat.le_trans hl (by decide), q⟩
theorem w_imul {a b : Int} (h : IntMulOk a b) (q : Q (.int (a * b)) H) : rI IntMulOk (fun i j => .int (i * j)) (.int a) (.int b) H Q := ⟨a, b, rfl, rfl, h, q⟩
theorem w_pow {a b : Int} (h : 0 ≤ b ∧ b ≤ 1000000 ∧ a.natAbs < 2 ^ 64) (q : Q (.int (a ^ b.toNat)) H) : rPowA (.int a) (.int b) H Q := ⟨a, b, rfl, rfl, h, q⟩
theorem w_lt_int {a b : Int} (q : Q (.bl (decide (a < b))) H) : rLtA (.int a) (.int b) H Q := q
theorem w_lt_str {a b : Str} (q : Q (.bl (strLt a b)) H) : rLtA (.str a) (.str b) H Q := q
theorem w_le_int {a b : Int} (q : Q (.bl (decide (a ≤ b))) H) : rLeA (.int a) (.int b) H Q := q
theorem w_le_str {a b : Str} (q : Q (.bl (!strLt b a)) H) : rLeA (.str a) (.str b) H Q := q
theorem w_gt {a b : Int} (q : Q (.bl (decide (b < a))) H) : rGtA (.int a) (.int b) H Q := ⟨a, b, rfl, rfl, q⟩
theorem w_ge {a b : Int} (q : Q (.bl (decide (b ≤ a))) H) : rGeA (.int a) (.int b) H Q := ⟨a, b, rfl, rfl, q⟩
theorem w_eq_int {a b : Int} (q : Q (.bl (decide (a = b))) H) : rEqA K (.int a) (.int b) H Q := .inl ⟨rfl, by
  rw [show decide (V.int a = V.int b) = decide (a = b) by simp]
  exact q⟩
theorem w_eq_str {a b : Str} (q : Q (.bl (decide (a = b))) H) : rEqA K (.str a) (.str b) H Q := .inl ⟨rfl, by
  rw [show decide (V.str a = V.str b) = decide (a = b) by simp]
  exact q⟩
theorem w_ne_int {a b : Int} (q : Q (.bl (!decide (a = b))) H) : rNeA K (.int a) (.int b) H Q := .inl ⟨rfl, by
  rw [show decide (V.int a = V.int b) = decide (a = b) by simp]
  exact q⟩
theorem w_ne_str {a b : Str} (q : Q (.bl (!decide (a = b))) H) : rNeA K (.str a) (.str b) H Q := .inl ⟨rfl, by
  rw [show decide (V.str a = V.str b) = decide (a = b) by simp]
  exact q⟩
theorem w_in_str {c : Nat} {z : Str} (q : Q (.bl (decide (c ∈ z.cps.toList))) H) : rInA K (.str ⟨#[c]⟩) (.str z) H Q := ⟨c, rfl, q⟩
theorem w_nin_str {c : Nat} {z : Str} (q : Q (.bl (!decide (c ∈ z.cps.toList))) H) : rNotInA K (.str ⟨#[c]⟩) (.str z) H Q := ⟨c, rfl, q⟩
theorem w_is (q : Q (.bl (decide (x = .non))) H) : rIsA x .non H Q := ⟨rfl, q⟩
theorem w_isnot (q : Q (.bl (!decide (x = .non))) H) : rIsNotA x .non H Q := ⟨rfl, q⟩
theorem w_ix_str {z : Str} {n : Int} {c : Nat} (hl : z.length ≤ 10000000) (ha : atI z.cps.toList n = some c) (q : Q (.str ⟨#[c]⟩) H) : rIxA K (.str z) (.int n) H Q := ⟨n, c, rfl, Nat.le_trans hl (by decide), ha, q⟩
theorem w_ix {p : Addr} {n : Int} {xs : List V} (hs : SqA K H p xs) (ha : atI xs n = some v) (q : Q v H) : rIxA K (.ref p) (.int n) H Q := ⟨n, xs, v, rfl, hs, ha, q⟩
theorem w_len_str {z : Str} (hl : z.length ≤ 10000000) (q : Q (.int (z.length : Nat)) H) : rLenA K [.str z] H Q := ⟨Nat.le_trans hl (by decide), q⟩
theorem w_len {p : Addr} {xs : List V} (hs : SqA K H p xs) (q : Q (.int (xs.length : Nat)) H) : rLenA K [.ref p] H Q := ⟨xs, hs, q⟩
theorem w_isi {T n : String} {b : Bool} (ht : TyN K H x n) (e : kitB n T = some b) (q : Q (.bl b) H) : rIsiA K [x, .ty T] H Q := ⟨x, T, n, b, rfl, ht, e, q⟩
theorem w_int_int {n : Int} (q : Q (.int n) H) : rIntA [.int n] H Q := q
theorem w_str_int {n : Int} (h : n.natAbs < 10 ^ 4300) (q : Q (.str (Str.ofString (toString n))) H) : rStrA [.int n] H Q := ⟨h, q⟩
theorem w_str_str {z : Str} (q : Q (.str z) H) : rStrA [.str z] H Q := q
theorem w_abs {n : Int} (q : Q (.int (if n < 0 then -n else n)) H) : rAbsA [.int n] H Q := ⟨n, rfl, q⟩
theorem w_sl {r : V → Option Int → Option Int → Hp → VK → Prop} {tl th : TO} (h : te σ H fun x H1 => tl σ H1 fun l H2 => th σ H2 fun u H3 => r x l u H3 Q) : tSl r te tl th σ H Q := h
theorem w_nopart {R : Option Int → Hp → Prop} (q : R none H) : tNoPart σ H R := q
theorem w_part {R : Option Int → Hp → Prop} (h : te σ H fun x H1 => ∃ i, x = .int i ∧ R (some i) H1) : tPart te σ H R := h
theorem w_exint {n : Int} {R : Int → Prop} (q : R n) : ∃ i, V.int n = .int i ∧ R i := ⟨n, rfl, q⟩
theorem w_sl_str {z : Str} {lo hi : Option Int} (hl : z.length ≤ 10000000) (q : Q (.str (cutS z lo hi)) H) : rSlA' K (.str z) lo hi H Q := ⟨Nat.le_trans hl (by decide), q⟩
theorem w_chain (h : ta σ H fun x H1 => tb σ H1 fun y H2 => r x y H2 fun z H3 => ∃ k, z = .bl k ∧ (if k = true then tc σ H3 fun w H4 => r' y w H4 Q else Q (.bl false) H3)) : tChain r r' ta tb tc σ H Q := h
theorem w_seq (h : s1 ⟨s2 ⟨nx, rt, bk, ct⟩, rt, bk, ct⟩ σ H) : tSeq s1 s2 ⟨nx, rt, bk, ct⟩ σ H := h
theorem w_next (q : nx σ H) : tNext ⟨nx, rt, bk, ct⟩ σ H := q
theorem w_brk (q : bk σ H) : tBreak ⟨nx, rt, bk, ct⟩ σ H := q
theorem w_cont (q : ct σ H) : tCont ⟨nx, rt, bk, ct⟩ σ H := q
theorem w_set {σ' : L2.St} (h : te σ H fun x H1 => nx (σ.set i (some x)) H1) : tAsg te (gName i) ⟨nx, rt, bk, ct⟩ σ H := h
theorem w_asg (h : te σ H fun x H1 => g x σ H1 nx) : tAsg te g ⟨nx, rt, bk, ct⟩ σ H := h
theorem w_ret (h : te σ H rt) : tRet te ⟨nx, rt, bk, ct⟩ σ H := h
theorem w_retN (h : rt .non H) : tRetN ⟨nx, rt, bk, ct⟩ σ H := h
theorem w_drop (h : te σ H fun _ H1 => nx σ H1) : tDrop te ⟨nx, rt, bk, ct⟩ σ H := h
theorem w_if (h : t σ H fun b H1 => if b = true then s1 ⟨nx, rt, bk, ct⟩ σ H1 else s2 ⟨nx, rt, bk, ct⟩ σ H1) : tIfS t s1 s2 ⟨nx, rt, bk, ct⟩ σ H := h
theorem w_par {j : Nat} (h : tr σ H fun vs H1 => ∃ v w, vs = [v, w] ∧ nx ((σ.set i (some v)).set j (some w)) H1) : tPar i j tr ⟨nx, rt, bk, ct⟩ σ H := h
theorem w_two {a b : V} {R : V → V → Prop} (q : R a b) : ∃ v w, [a, b] = [v, w] ∧ R v w := ⟨a, b, rfl, q⟩
theorem w_par3 {j l : Nat} (h : tr σ H fun vs H1 => ∃ u v w, vs = [u, v, w] ∧ nx (((σ.set i (some u)).set j (some v)).set l (some w)) H1) : tPar3 i j l tr ⟨nx, rt, bk, ct⟩ σ H := h
theorem w_three {a b c : V} {R : V → V → V → Prop} (q : R a b c) : ∃ u v w, [a, b, c] = [u, v, w] ∧ R u v w := ⟨a, b, c, rfl, q⟩
theorem w_gset (q : nx (σ.set i (some v)) H) : gName i v σ H nx := q
theorem w_fld0 {f : Str} (h : te σ H fun x H1 => ∃ a C dx fs v, x = .ref a ∧ H1 a = some (.ins C dx fs) ∧ Cls K C ∧ NoAttr K C f ∧ fs.lookup f = some v ∧ Q v H1) : tFld K te f σ H Q := h
theorem w_fldAt {f : Str} {a dx : Addr} {fs : List (Str × V)} {R : V → Prop} (ha : H a = some (.ins C dx fs)) (hc : Cls K C) (hn : NoAttr K C f) (hl : fs.lookup f = some v) (q : R v) :
    ∃ a' C dx fs v, V.ref a = .ref a' ∧ H a' = some (.ins C dx fs) ∧ Cls K C ∧ NoAttr K C f ∧ fs.lookup f = some v ∧ R v := ⟨a, C, dx, fs, v, rfl, ha, hc, hn, hl, q⟩
end
def isIntD : PyData → Bool
  | .int _ => true
  | .bool _ => true
  | _ => false
def isBoolD : PyData → Bool
  | .bool _ => true
  | _ => false
def isStrD : PyData → Bool
  | .str _ => true
  | _ => false
def isTupD : PyData → Bool
  | .tuple _ => true
  | _ => false
def isLstD : PyData → Bool
  | .list _ => true
  | _ => false
section
variable {K : PySem.W.Frag} {H : Hp} {v : V} {d : PyData} {Q : VK}
theorem w_isInt (h : Dp K H v d) (q : Q (.bl (isIntD d)) H) : rIsiA K [v, .ty "int"] H Q := by
  cases h with
  | non => exact w_isi .non (by first | (show _ = some true; decide +kernel) | (show _ = some false; decide +kernel)) q
  | bl b => exact w_isi (.bl b) (by first | (show _ = some true; decide +kernel) | (show _ = some false; decide +kernel)) q
  | int b => exact w_isi (.int b) (by first | (show _ = some true; decide +kernel) | (show _ = some false; decide +kernel)) q
  | str b => exact w_isi (.str b) (by first | (show _ = some true; decide +kernel) | (show _ = some false; decide +kernel)) q
  | lst h _ => exact w_isi (.lst h) (by first | (show _ = some true; decide +kernel) | (show _ = some false; decide +kernel)) q
  | tup h _ => exact w_isi (.tup h) (by first | (show _ = some true; decide +kernel) | (show _ = some false; decide +kernel)) q
theorem w_isBool (h : Dp K H v d) (q : Q (.bl (isBoolD d)) H) : rIsiA K [v, .ty "bool"] H Q := by
  cases h with
  | non => exact w_isi .non (by first | (show _ = some true; decide +kernel) | (show _ = some false; decide +kernel)) q
  | bl b => exact w_isi (.bl b) (by first | (show _ = some true; decide +kernel) | (show _ = some false; decide +kernel)) q
  | int b => exact w_isi (.int b) (by first | (show _ = some true; decide +kernel) | (show _ = some false; decide +kernel)) q
  | str b => exact w_isi (.str b) (by first | (show _ = some true; decide +kernel) | (show _ = some false; decide +kernel)) q
  | lst h _ => exact w_isi (.lst h) (by first | (show _ = some true; decide +kernel) | (show _ = some false; decide +kernel)) q
  | tup h _ => exact w_isi (.tup h) (by first | (show _ = some true; decide +kernel) | (show _ = some false; decide +kernel)) q
theorem w_isStr (h : Dp K H v d) (q : Q (.bl (isStrD d)) H) : rIsiA K [v, .ty "str"] H Q := by
  cases h with
  | non => exact w_isi .non (by first | (show _ = some true; decide +kernel) | (show _ = some false; decide +kernel)) q
  | bl b => exact w_isi (.bl b) (by first | (show _ = some true; decide +kernel) | (show _ = some false; decide +kernel)) q
  | int b => exact w_isi (.int b) (by first | (show _ = some true; decide +kernel) | (show _ = some false; decide +kernel)) q
  | str b => exact w_isi (.str b) (by first | (show _ = some true; decide +kernel) | (show _ = some false; decide +kernel)) q
  | lst h _ => exact w_isi (.lst h) (by first | (show _ = some true; decide +kernel) | (show _ = some false; decide +kernel)) q
  | tup h _ => exact w_isi (.tup h) (by first | (show _ = some true; decide +kernel) | (show _ = some false; decide +kernel)) q
theorem w_isTup (h : Dp K H v d) (q : Q (.bl (isTupD d)) H) : rIsiA K [v, .ty "tuple"] H Q := by
  cases h with
  | non => exact w_isi .non (by first | (show _ = some true; decide +kernel) | (show _ = some false; decide +kernel)) q
  | bl b => exact w_isi (.bl b) (by first | (show _ = some true; decide +kernel) | (show _ = some false; decide +kernel)) q
  | int b => exact w_isi (.int b) (by first | (show _ = some true; decide +kernel) | (show _ = some false; decide +kernel)) q
  | str b => exact w_isi (.str b) (by first | (show _ = some true; decide +kernel) | (show _ = some false; decide +kernel)) q
  | lst h _ => exact w_isi (.lst h) (by first | (show _ = some true; decide +kernel) | (show _ = some false; decide +kernel)) q
  | tup h _ => exact w_isi (.tup h) (by first | (show _ = some true; decide +kernel) | (show _ = some false; decide +kernel)) q
theorem w_isLst (h : Dp K H v d) (q : Q (.bl (isLstD d)) H) : rIsiA K [v, .ty "list"] H Q := by
  cases h with
  | non => exact w_isi .non (by first | (show _ = some true; decide +kernel) | (show _ = some false; decide +kernel)) q
  | bl b => exact w_isi (.bl b) (by first | (show _ = some true; decide +kernel) | (show _ = some false; decide +kernel)) q
  | int b => exact w_isi (.int b) (by first | (show _ = some true; decide +kernel) | (show _ = some false; decide +kernel)) q
  | str b => exact w_isi (.str b) (by first | (show _ = some true; decide +kernel) | (show _ = some false; decide +kernel)) q
  | lst h _ => exact w_isi (.lst h) (by first | (show _ = some true; decide +kernel) | (show _ = some false; decide +kernel)) q
  | tup h _ => exact w_isi (.tup h) (by first | (show _ = some true; decide +kernel) | (show _ = some false; decide +kernel)) q
theorem lc_str {x : Str} {g : TG} {tt : TT} {te : TE} {vs : List Nat} {σ : L2.St} {H1 : Hp} {D : Addr} {Qd : Hp → Prop} (Pv : Nat → Hp → Prop) (h0 : Pv 0 (upd H1 D (.lst [])))
    (hs : ∀ i c H, x.cps.toList[i]? = some c → Pv i H → g (.str ⟨#[c]⟩) (wipe σ vs) H fun σ2 H2 => wipe σ2 vs = wipe σ vs ∧ tt σ2 H2 fun b H3 =>
      if b = true then te σ2 H3 fun y H4 => ∃ acc, H4 D = some (.lst acc) ∧ acc.length < sizeLine ∧ Pv (i + 1) (upd H4 D (.lst (acc ++ [y]))) else Pv (i + 1) H3) (hd : ∀ H, Pv x.cps.toList.length H → Qd H) :
    ∃ W : Nat → Nat → Hp → Prop, (∃ m, W 0 m (upd H1 D (.lst []))) ∧ ∀ i m H, W i m H →
      ((Its x).stop i H ∧ Qd H) ∨ ((Its x).go i H ∧ ∃ Nx : Hp → Prop, (∀ H', Nx H' → ∃ m', m' < m ∧ W (i + 1) m' H') ∧ ∀ v H', (Its x).yld i H v H' → g v (wipe σ vs) H' fun σ2 H2 => wipe σ2 vs = wipe σ vs ∧ tt σ2 H2 fun b H3 =>
        if b = true then te σ2 H3 fun y H4 => ∃ acc, H4 D = some (.lst acc) ∧ acc.length < sizeLine ∧ Nx (upd H4 D (.lst (acc ++ [y]))) else Nx H3) := by
  have hz : x.cps.toList.length = x.cps.size := Array.length_toList
  refine ⟨fun i m H => m = x.cps.size - i ∧ i ≤ x.cps.size ∧ Pv i H, ⟨x.cps.size, by omega, Nat.zero_le _, h0⟩, fun i m H z => ?_⟩
  obtain ⟨rfl, hi, p⟩ := z
  by_cases hlt : i < x.cps.size
  · refine .inr ⟨hlt, Pv (i + 1), fun H' p' => ⟨x.cps.size - (i + 1), by omega, rfl, hlt, p'⟩, fun v H' y => ?_⟩
    obtain ⟨rfl, c, hc, rfl⟩ := y
    exact hs i c _ (by rw [Array.getElem?_toList]; exact hc) p
  · have e : i = x.cps.size := by omega
    subst e
    exact .inl ⟨Nat.le_refl _, hd H (by rw [hz]; exact p)⟩
end
theorem lst_keep {H H' : Hp} {D : Addr} {ys : List V} (e : Same H H') (n : H D = none) : Same H (upd H' D (.lst ys)) := Same.mut e n
theorem w_lcS {K : PySem.W.Frag} {x : Str} {i j : Nat} {vs : List Nat} {te : TE} {σ : L2.St} {H : Hp} {Q : VK} (f : Nat → V) (hv : σ[i]? = some (some (.str x))) (hz : x.length ≤ 10000000)
    (hw : ∀ v, wipe ((wipe σ vs).set j (some v)) vs = wipe σ vs)
    (he : ∀ c H1, c ∈ x.cps.toList → Same H H1 → ∀ R : VK, (∀ H2, Same H1 H2 → R (f c) H2) → te ((wipe σ vs).set j (some (.str ⟨#[c]⟩))) H1 R)
    (q : ∀ D H2, H D = none → Same H H2 → H2 D = some (.lst (x.cps.toList.map f)) → Q (.ref D) H2) : tLc (iAny K (tVar i)) (gName j) tYes te vs σ H Q := by
  refine ⟨_, hv, fun D hD => ?_⟩
  have hl : x.cps.toList.length = x.length := Array.length_toList
  have big : (10000000 : Nat) < sizeLine := by decide
  refine lc_str (fun n H' => Same H H' ∧ H' D = some (.lst ((x.cps.toList.take n).map f))) ⟨same_upd hD, upd_same⟩ (fun n c H' hc p => ?_) (fun H' p => ?_)
  · obtain ⟨p1, p2⟩ := p
    refine ⟨hw _, ?_⟩
    simp only [tYes, if_true]
    refine he c H' (List.mem_iff_getElem?.mpr ⟨n, hc⟩) p1 _ fun H2 e2 => ⟨_, e2 D _ p2, ?_, Same.mut (p1.trans e2) hD, ?_⟩
    · rw [List.length_map, List.length_take]
      have : n < x.cps.toList.length := (List.getElem?_eq_some_iff.mp hc).1
      omega
    · rw [upd_same, List.take_add_one, hc, List.map_append]
      rfl
  · obtain ⟨p1, p2⟩ := p
    rw [List.take_length] at p2
    exact q D H' hD p1 p2
theorem w_all {K : PySem.W.Frag} {D : Addr} {bs : List Bool} {H : Hp} {Q : VK} (h : SqL K H D (bs.map V.bl)) (q : Q (.bl (bs.all id)) H) : rAll K [.ref D] H Q := ⟨D, bs, rfl, h, q⟩
theorem w_any {K : PySem.W.Frag} {D : Addr} {bs : List Bool} {H : Hp} {Q : VK} (h : SqL K H D (bs.map V.bl)) (q : Q (.bl (bs.any id)) H) : rAny K [.ref D] H Q := ⟨D, bs, rfl, h, q⟩
def Lp (J : It) (g : TG) (tb : TS) (D : Ends) (σ : L2.St) (H : Hp) : Prop := ∃ W : Nat → Nat → L2.St → Hp → Prop, (∃ m, W 0 m σ H) ∧ ∀ i m σ H, W i m σ H →
  (J.stop i H ∧ D.nx σ H) ∨ (J.go i H ∧ ∃ N : L2.St → Hp → Prop, (∀ σ' H', N σ' H' → ∃ m', m' < m ∧ W (i + 1) m' σ' H') ∧ ∀ x H', J.yld i H x H' → g x σ H' fun σ2 H2 => tb { D with nx := N, ct := N, bk := D.nx } σ2 H2)
section
variable {K : PySem.W.Frag} {σ : L2.St} {H : Hp} {ta : TA} {te : TE} {g : TG} {tb : TS} {nx bk ct : L2.St → Hp → Prop} {rt : VK} {a : Addr} {xs : List V} {x : Str} {D : Ends}
theorem w_for1 (h : ta σ H fun vs H1 => ∃ j : Int, vs = [.int j] ∧ -(2 ^ 62) ≤ j ∧ j < 2 ^ 62 ∧ Lp (Itr 0 j.toNat) g tb D σ H1) : tFor (iRng1 ta) g tb D σ H := h
theorem w_for2 (h : ta σ H fun vs H1 => ∃ i j : Int, vs = [.int i, .int j] ∧ (-(2 ^ 62) ≤ i ∧ i < 2 ^ 62 ∧ -(2 ^ 62) ≤ j ∧ j < 2 ^ 62) ∧ Lp (Itr i (j - i).toNat) g tb D σ H1) : tFor (iRng2 ta) g tb D σ H := h
theorem w_for3 (h : ta σ H fun vs H1 => ∃ (i j c : Int) (n : Nat), vs = [.int i, .int j, .int c] ∧ RgC i j c n ∧ Lp (Itc i c n) g tb D σ H1) : tFor (iRng3 ta) g tb D σ H := h
theorem w_forA (h : te σ H fun v H1 => itA K v H1 fun J H2 => Lp J g tb D σ H2) : tFor (iAny K te) g tb D σ H := h
theorem w_forE (h : te σ H fun v H1 => ∃ x, v = .str x ∧ Lp (Ites x) g tb D σ H1) : tFor (iEnumA te) g tb D σ H := h
theorem lp_range {n : Nat} {j : Nat} (Pv : Nat → L2.St → Hp → Prop) (h0 : Pv 0 σ H) (hs : ∀ i σ' H', i < n → Pv i σ' H' → tb ⟨Pv (i + 1), rt, nx, Pv (i + 1)⟩ (σ'.set j (some (.int (i : Nat)))) H') (hd : ∀ σ' H', Pv n σ' H' → nx σ' H') :
    Lp (Itr 0 n) (gName j) tb ⟨nx, rt, bk, ct⟩ σ H :=
  for_range Pv h0 (fun i σ' H' hi p => by
    have e : (0 : Int) + (i : Nat) = (i : Nat) := Int.zero_add _
    show tb _ (σ'.set j (some (.int (0 + (i : Nat))))) H'
    rw [e]
    exact hs i σ' H' hi p) hd
theorem r1_of {m : Int} {n : Nat} (hm : m = (n : Int)) (hn : n ≤ 1000000000) (h : Lp (Itr 0 n) g tb D σ H) : ∃ j : Int, [V.int m] = [.int j] ∧ -(2 ^ 62) ≤ j ∧ j < 2 ^ 62 ∧ Lp (Itr 0 j.toNat) g tb D σ H := by
  refine ⟨m, rfl, by omega, by omega, ?_⟩
  rw [hm, Int.toNat_natCast]
  exact h
theorem lp_rangeC {lo c : Int} {n j : Nat} (Pv : Nat → L2.St → Hp → Prop) (h0 : Pv 0 σ H) (hs : ∀ i σ' H', i < n → Pv i σ' H' → tb ⟨Pv (i + 1), rt, nx, Pv (i + 1)⟩ (σ'.set j (some (.int (lo + (i : Nat) * c)))) H') (hd : ∀ σ' H', Pv n σ' H' → nx σ' H') :
    Lp (Itc lo c n) (gName j) tb ⟨nx, rt, bk, ct⟩ σ H := for_rangeC Pv h0 hs hd
theorem r3_down {n : Nat} (hn : n ≤ 1000000000) (h : Lp (Itc ((n : Int) - 1) (-1) n) g tb D σ H) : ∃ (i j c : Int) (k : Nat), [V.int ((n : Int) - 1), V.int (-1), V.int (-1)] = [.int i, .int j, .int c] ∧ RgC i j c k ∧ Lp (Itc i c k) g tb D σ H := by
  have e : ((n : Int) - 1 - (-1)).toNat = n := by omega
  have r := RgC.neg (i := (n : Int) - 1) (j := -1) (by omega) (by omega) (by decide) (by decide)
  rw [e] at r
  exact ⟨_, _, _, n, rfl, r, h⟩
theorem lp_list (hq : SqL K H a xs) (Pv : Nat → L2.St → Hp → Prop) (h0 : Pv 0 σ H) (hl : ∀ i σ' H', i ≤ xs.length → Pv i σ' H' → SqL K H' a xs)
    (hs : ∀ i y σ' H', xs[i]? = some y → Pv i σ' H' → g y σ' H' fun σ2 H2 => tb ⟨Pv (i + 1), rt, nx, Pv (i + 1)⟩ σ2 H2) (hd : ∀ σ' H', Pv xs.length σ' H' → nx σ' H') :
    itA K (.ref a) H fun J H2 => Lp J g tb ⟨nx, rt, bk, ct⟩ σ H2 := .inl ⟨⟨xs, hq⟩, for_list Pv h0 hl hs hd⟩
theorem lp_tup (hq : SqT K H a xs) (Pv : Nat → L2.St → Hp → Prop) (h0 : Pv 0 σ H) (hl : ∀ i σ' H', i ≤ xs.length → Pv i σ' H' → SqT K H' a xs)
    (hs : ∀ i y σ' H', xs[i]? = some y → Pv i σ' H' → g y σ' H' fun σ2 H2 => tb ⟨Pv (i + 1), rt, nx, Pv (i + 1)⟩ σ2 H2) (hd : ∀ σ' H', Pv xs.length σ' H' → nx σ' H') :
    itA K (.ref a) H fun J H2 => Lp J g tb ⟨nx, rt, bk, ct⟩ σ H2 := .inr ⟨⟨xs, hq⟩, for_tup Pv h0 hl hs hd⟩
theorem lp_str (Pv : Nat → L2.St → Hp → Prop) (h0 : Pv 0 σ H) (hs : ∀ i c σ' H', x.cps.toList[i]? = some c → Pv i σ' H' → g (.str ⟨#[c]⟩) σ' H' fun σ2 H2 => tb ⟨Pv (i + 1), rt, nx, Pv (i + 1)⟩ σ2 H2)
    (hd : ∀ σ' H', Pv x.cps.toList.length σ' H' → nx σ' H') : itA K (.str x) H fun J H2 => Lp J g tb ⟨nx, rt, bk, ct⟩ σ H2 := by
  have hz : x.cps.toList.length = x.cps.size := Array.length_toList
  refine ⟨fun i m σ H => m = x.cps.size - i ∧ i ≤ x.cps.size ∧ Pv i σ H, ⟨x.cps.size, by omega, Nat.zero_le _, h0⟩, fun i m σ H z => ?_⟩
  obtain ⟨rfl, hi, p⟩ := z
  by_cases hlt : i < x.cps.size
  · refine .inr ⟨hlt, Pv (i + 1), fun σ' H' p' => ⟨x.cps.size - (i + 1), by omega, rfl, hlt, p'⟩, fun v H' y => ?_⟩
    obtain ⟨rfl, c, hc, rfl⟩ := y
    exact hs i c σ _ (by rw [Array.getElem?_toList]; exact hc) p
  · have e : i = x.cps.size := by omega
    subst e
    exact .inl ⟨Nat.le_refl _, hd σ H (by rw [hz]; exact p)⟩
theorem lp_enum {j k : Nat} (Pv : Nat → L2.St → Hp → Prop) (h0 : Pv 0 σ H)
    (hs : ∀ i c σ' H' H2, x.cps.toList[i]? = some c → Pv i σ' H' → Same H' H2 → tb ⟨Pv (i + 1), rt, nx, Pv (i + 1)⟩ ((σ'.set j (some (.int (i : Nat)))).set k (some (.str ⟨#[c]⟩))) H2)
    (hd : ∀ σ' H', Pv x.cps.toList.length σ' H' → nx σ' H') : Lp (Ites x) (gTup K 2 (gCons (gName j) (gCons (gName k) gNil))) tb ⟨nx, rt, bk, ct⟩ σ H := by
  have hz : x.cps.toList.length = x.cps.size := Array.length_toList
  refine ⟨fun i m σ H => m = x.cps.size - i ∧ i ≤ x.cps.size ∧ Pv i σ H, ⟨x.cps.size, by omega, Nat.zero_le _, h0⟩, fun i m σ H z => ?_⟩
  obtain ⟨rfl, hi, p⟩ := z
  by_cases hlt : i < x.cps.size
  · refine .inr ⟨hlt, Pv (i + 1), fun σ' H' p' => ⟨x.cps.size - (i + 1), by omega, rfl, hlt, p'⟩, fun v H' y => ?_⟩
    obtain ⟨T, c, rfl, hT, rfl, hc⟩ := y
    refine ⟨T, _, rfl, SqT.of upd_same, rfl, _, _, rfl, _, _, rfl, rfl, ?_⟩
    exact hs i c σ _ _ (by rw [Array.getElem?_toList]; exact hc) p (same_upd hT)
  · have e : i = x.cps.size := by omega
    subst e
    exact .inl ⟨rfl, hd σ H (by rw [hz]; exact p)⟩
end
def tMid (t u : TS) : TS := fun D σ H => ∃ M : L2.St → Hp → Prop, t { D with nx := M } σ H ∧ ∀ σ' H', M σ' H' → u D σ' H'
theorem pss_mid {X : Cx} {st : Stmt} {rest : List Stmt} {t u : TS} (h1 : PS X st t) (h2 : PSs X rest u) : PSs X (st :: rest) (tMid t u) := by
  refine ⟨fun pins s σ H D I h => ?_⟩
  obtain ⟨M, hm, hu⟩ := h
  refine wpAny_execs_cons (thn (h1.run pins s σ H { D with nx := M } I hm) fun f s1 q => ?_)
  cases f with
  | next =>
    obtain ⟨σ', H', I', q⟩ := q
    exact h2.run pins s1 σ' H' D I' (hu σ' H' q)
  | ret v => exact q
  | brk => exact q
  | cont => exact q
theorem w_mid {t u : TS} {nx bk ct : L2.St → Hp → Prop} {rt : VK} {σ : L2.St} {H : Hp} (M : L2.St → Hp → Prop) (h1 : t ⟨M, rt, bk, ct⟩ σ H) (h2 : ∀ σ' H', M σ' H' → u ⟨nx, rt, bk, ct⟩ σ' H') : tMid t u ⟨nx, rt, bk, ct⟩ σ H := ⟨M, h1, h2⟩
section
variable {K : PySem.W.Frag} {T : String} {r : V → List V → Hp → VK → Prop} {to : TE} {t : TA} {σ : L2.St} {H : Hp} {Q : VK} {l : Addr} {xs : List V} {y : V} {R : Prop}
theorem w_bm0 (h : to σ H fun x H1 => tyV K T x H1 ∧ r x [] H1 Q) : tBM0 K T r to σ H Q := h
theorem w_bm (h : to σ H fun x H1 => tyV K T x H1 ∧ t σ H1 fun xs H2 => r x xs H2 Q) : tBM K T r to t σ H Q := h
theorem w_ty (h : H l = some (.lst xs)) (q : R) : tyV K "list" (.ref l) H ∧ R := ⟨Or.inl ⟨rfl, _, SqL.of h⟩, q⟩
theorem w_appG (h : H l = some (.lst xs)) (hl : xs.length ≤ 10000000) (q : ∀ H', But l H H' → Txt H H' → H' l = some (.lst (xs ++ [y])) → Q .non H') : rAppend (.ref l) [y] H Q :=
  ⟨l, xs, y, rfl, rfl, h, Nat.lt_of_le_of_lt hl (by decide), q _ (But.upd (But.refl H)) (Txt.lst h) upd_same⟩
theorem w_popG (h : H l = some (.lst (xs ++ [y]))) (q : ∀ H', But l H H' → Txt H H' → H' l = some (.lst xs) → Q y H') : rPop (.ref l) [] H Q := by
  refine ⟨l, xs ++ [y], y, rfl, rfl, h, ?_, ?_⟩
  · rw [List.length_append, List.length_singleton, Nat.add_sub_cancel, List.getElem?_append_right (Nat.le_refl _), Nat.sub_self]
    rfl
  · have e : (xs ++ [y]).dropLast = xs := by simp
    rw [e]
    exact q _ (But.upd (But.refl H)) (Txt.lst h) upd_same
theorem same_but {H0 H1 H2 : Hp} (e : Same H0 H1) (b : But l H1 H2) (n : H0 l = none) : Same H0 H2 := fun a o h => b a o (ne_of_none h n) (e a o h)
theorem w_gtup {n : Nat} {t : TGs} {a : Addr} {xs : List V} {R : L2.St → Hp → Prop} (h : SqT K H a xs) (hl : xs.length = n) (q : t xs σ H R) : gTup K n t (.ref a) σ H R := ⟨a, xs, rfl, h, hl, q⟩
theorem w_gcons {g : TG} {t : TGs} {v : V} {vs : List V} {R : L2.St → Hp → Prop} (q : g v σ H fun σ' H' => t vs σ' H' R) : gCons g t (v :: vs) σ H R := ⟨v, vs, rfl, q⟩
theorem w_gnil {R : L2.St → Hp → Prop} (q : R σ H) : gNil [] σ H R := ⟨rfl, q⟩
end
theorem str_ext {a b : Str} (h : a.cps.toList = b.cps.toList) : a = b := by
  cases a
  cases b
  congr 1
  exact Array.toList_inj.mp h
theorem app_l (a b : Str) : (a ++ b).cps.toList = a.cps.toList ++ b.cps.toList := Array.toList_append
theorem len_l (s : Str) : s.cps.toList.length = s.length := Array.length_toList
theorem app_len (a b : Str) : (a ++ b).length = a.length + b.length := by
  rw [← len_l, app_l, List.length_append, len_l, len_l]
theorem fold_l (sep : Str) : ∀ (r : List Str) (acc : Array Nat), (r.foldl (fun acc p => acc ++ sep.cps ++ p.cps) acc).toList = acc.toList ++ (r.map fun q => sep.cps.toList ++ q.cps.toList).flatten
  | [], acc => by simp
  | q :: r, acc => by
    rw [List.foldl_cons, fold_l sep r]
    simp
theorem join_l (sep p : Str) (r : List Str) : (Txt.join sep (p :: r)).cps.toList = p.cps.toList ++ (r.map fun q => sep.cps.toList ++ q.cps.toList).flatten := by
  show (List.foldl _ p.cps r).toList = _
  exact fold_l sep r p.cps
theorem join_nil (sep : Str) : Txt.join sep [] = ⟨#[]⟩ := rfl
theorem join_flat : ∀ parts : List Str, (Txt.join ⟨#[]⟩ parts).cps.toList = (parts.map fun s => s.cps.toList).flatten
  | [] => rfl
  | p :: r => by
    rw [join_l]
    simp
theorem join_len (parts : List Str) : ((parts.map fun s => s.cps.toList).flatten).length = (parts.map (·.length)).sum := by
  rw [List.length_flatten, List.map_map]
  congr 1
theorem w_m1 {r : V → List V → Hp → VK → Prop} {to te : TE} {σ : L2.St} {H : Hp} {Q : VK} (h : to σ H fun x H1 => (∃ a, x = .str a) ∧ te σ H1 fun y H2 => r x [y] H2 Q) : tM1 r to te σ H Q := h
theorem w_isstr {a : Str} {R : Prop} (q : R) : (∃ b, V.str a = .str b) ∧ R := ⟨⟨a, rfl⟩, q⟩
theorem w_join {K : PySem.W.Frag} {a : Str} {p : Addr} {ys : List Str} {H : Hp} {Q : VK} (h : SqA K H p (ys.map V.str)) (hl : (ys.map (·.length)).sum + ys.length * a.length ≤ 10000000) (q : Q (.str (Txt.join a ys)) H) :
    ∃ a' p', ∃ ys : List Str, V.str a = .str a' ∧ [V.ref p] = [.ref p'] ∧ SqA K H p' (ys.map V.str) ∧ (ys.map (·.length)).sum + ys.length * a'.length ≤ 16777216 ∧ Q (.str (Txt.join a' ys)) H := ⟨a, p, ys, rfl, rfl, h, Nat.le_trans hl (by decide), q⟩
theorem w_while {c : TT} {tb : TS} {D : Ends} {σ : L2.St} {H : Hp} (h : ∃ W : Nat → L2.St → Hp → Prop, (∃ m, W m σ H) ∧ ∀ m σ H, W m σ H → c σ H fun b H1 => if b = true then ∃ N : L2.St → Hp → Prop, (∀ σ' H', N σ' H' → ∃ m', m' < m ∧ W m' σ' H') ∧ tb { D with nx := N, ct := N, bk := D.nx } σ H1 else D.nx σ H1) : tWhile c tb D σ H := h
theorem bnotT {b : Bool} (h : b = false) : (!b) = true := by rw [h] <;> rfl
theorem bnotF {b : Bool} (h : b = true) : (!b) = false := by rw [h] <;> rfl
theorem w_start {t : TS} {D : Ends} {N : List Str} {vs : List V} {σ : L2.St} {H : Hp} (e : start N vs = σ) (h : t D σ H) : t D (start N vs) H := by rw [e]; exact h
theorem at_same {H H' : Hp} {a : Addr} {o : HO} (e : Same H H') (h : H a = some o) : H' a = some o := e a o h
theorem at_but {H H' : Hp} {p a : Addr} {o : HO} (e : But p H H') (n : a ≠ p) (h : H a = some o) : H' a = some o := e a o n h
theorem sqa_l {K : PySem.W.Frag} {H : Hp} {a : Addr} {xs : List V} (h : SqL K H a xs) : SqA K H a xs := .inl h
theorem sqa_t {K : PySem.W.Frag} {H : Hp} {a : Addr} {xs : List V} (h : SqT K H a xs) : SqA K H a xs := .inr h
theorem none_same {H H' : Hp} {p : Addr} (e : Same H H') (h : H' p = none) : H p = none := Same.free e h
end Lay

set_option exponentiation.threshold 256
set_option Elab.async false
set_option linter.all false
set_option maxRecDepth 100000
set_option maxHeartbeats 4000000
namespace Lay
open PySem PySem.Spec PyProof.Rows L2 PySem.NumText PySem.W PySem.Calls
theorem intMax_none {M : Model} {A : Around} {E : Value → Shared → Prop} {s : Shared} {Q : Nat → Shared → Prop} (hn : s.heap.NoDigits) (h : Q 4300 s) : wpAny M A Builtin.intMaxStrDigits Q E s := by
  obtain ⟨mc, hns, hnone⟩ := hn
  unfold Builtin.intMaxStrDigits
  refine wpAny_bind (wpAny_nsGet hns ?_)
  rw [hnone]
  exact wpAny_pure h
theorem wp_textG {M : Model} {A : Around} {E : Value → Shared → Prop} {s : Shared} {Q : Value → Shared → Prop} {v : Value} {text : List Nat} {n : Int} (hn : s.heap.NoDigits)
    (hr0 : (int_private% "readNumeral") 0 10 (text.takeWhile (· != 0)) = (int_private% "Numeral.value") n) (hr : (int_private% "readNumeral") 4300 10 (text.takeWhile (· != 0)) = (int_private% "Numeral.value") n)
    (ha : ((text.takeWhile (· != 0)).length == text.length) = true) (h : Q (.int n s.toks) { s with toks := s.toks + 1 }) :
    wpAny M A ((int_private% "intFromText") v text 10) Q E s := by
  by_cases hs : (text.takeWhile (· != 0)).length ≤ 640
  · exact PySem.W.KIN.wp_text hs hr0 ha h
  obtain ⟨hp, g, d, tk, os⟩ := s
  repeat (any_goals (first
    | assumption
    | (with_reducible refine wpAny_ite_false (decide_eq_false hs) ?_)
    | (with_reducible refine wpAny_ite_true (decide_eq_true ha) ?_)
    | (with_reducible refine intMax_none hn ?_)
    | wp_step))
  all_goals (try rw [hr])
  all_goals (try dsimp only)
  repeat (any_goals (first
    | assumption
    | (with_reducible refine wpAny_ite_true (decide_eq_true ha) ?_)
    | (with_reducible refine intMax_none hn ?_)
    | wp_step))
structure NumT (x : Str) (n : Int) : Prop where
  r0 : (int_private% "readNumeral") 0 10 (numSeenOf x) = (int_private% "Numeral.value") n
  r1 : (int_private% "readNumeral") 4300 10 (numSeenOf x) = (int_private% "Numeral.value") n
  ln : ((numSeenOf x).length == (numTextOf x).length) = true
theorem meets_text {x : Str} {u : Tok} {n : Int} (z : NumT x n) : Meets (Builtin.«int.__new__» ⟨[.type "int", .str x u], []⟩) (fun _ R s => s.heap.NoDigits ∧ R (.ok (.ret (.int n s.toks))) { s with toks := s.toks + 1 }) :=
  Meets.of_wp fun prog w A R s hs => by
    obtain ⟨hn, h⟩ := hs
    obtain ⟨hp, g, d, tk, os⟩ := s
    have f1 := F.conv_sub_int
    have f2 := F.madeHere_int
    have f3 := PySem.W.KIN.str_int
    have f4 := PySem.W.KIN.str_idx
    have f5 := PySem.W.KIN.str_trunc
    have f6 : typeOf (.str x u) = pure (.type "str") := rfl
    repeat (any_goals (first
      | assumption
      | ((with_reducible show wpAny _ _ ((int_private% "intFromText") _ _ _) _ _ _); refine wp_textG hn z.r0 z.r1 z.ln ?_)
      | wp_step))
    all_goals first | exact ⟨_, rfl, h⟩ | skip
theorem call_textG {prog : Program} {w : World} {A : Around} {E : Value → Shared → Prop} {s : Shared} {Q : Value → Shared → Prop} {x : Str} {t : Tok} {n : Int} (z : NumT x n) (hn : s.heap.NoDigits) (h : Q (.int n s.toks) { s with toks := s.toks + 1 }) :
    wpAny (model prog w) A (call (.type "int") [.str x t]) Q E s :=
  call_int_1 (meets_text z) ⟨hn, (rfl : _), h⟩
theorem judge_ok {limit : Nat} {neg : Bool} {ds : Array Nat} (h : ds.size ≤ 4300) (hl : limit = 0 ∨ limit = 4300) : judge limit neg 10 false (some ds) = (int_private% "Numeral.value") (worth neg ds) := by
  unfold judge
  have e1 : (![2, 4, 8, 16, 32].contains 10 && limit != 0 && decide (ds.size > limit)) = false := by
    rcases hl with rfl | rfl
    · rfl
    · rw [decide_eq_false (by omega)]
      simp
  have e2 : ((10 : Nat) == 10 && decide (ds.size > 6000)) = false := by
    rw [decide_eq_false (by omega)]
    rfl
  simp only [e1, e2]
  rfl
theorem numT_of {x : Str} (h : ∀ c ∈ x.cps.toList, c = 45 ∨ (48 ≤ c ∧ c ≤ 57)) {ds : Array Nat} (hd : digits? 10 (core x.cps.toList) = some ds) (hz : ds.size ≤ 4300) : NumT x (worth (sign (x.cps.toList.dropWhile blank)).1 ds) := by
  obtain ⟨e1, e2⟩ := numText_signs h
  refine ⟨?_, ?_, ?_⟩
  · rw [readNumeral_ten, e2, hd]
    exact judge_ok hz (.inl rfl)
  · rw [readNumeral_ten, e2, hd]
    exact judge_ok hz (.inr rfl)
  · rw [e1, e2]
    exact beq_self_eq_true _
theorem numT_digits {x : Str} (h : AllDigits x.cps.toList) (h1 : x.cps.toList ≠ []) (h2 : x.length ≤ 4300) : NumT x ((digitsVal x.cps.toList : Nat) : Int) := by
  have hs : ∀ c ∈ x.cps.toList, c = 45 ∨ (48 ≤ c ∧ c ≤ 57) := fun c hc => Or.inr (h c hc)
  have hl : x.cps.toList.length = x.length := Array.length_toList
  have key := fun ds hd hz => numT_of hs (ds := ds) hd hz
  generalize x.cps.toList = cs at *
  cases cs with
  | nil => exact absurd rfl h1
  | cons c cs =>
    have hc := h.head
    have es : sign ((c :: cs).dropWhile blank) = (false, c :: cs) := by rw [dropWhile_digits h]; exact sign_of (by omega) (by omega)
    have ec : core (c :: cs) = c :: cs := by
      unfold core
      rw [es]
      show ((c :: cs).reverse.dropWhile blank).reverse = c :: cs
      rw [dropWhile_digits h.reverse, List.reverse_reverse]
    have hsz := push_size (c :: cs) #[]
    have hv := push_foldl (c :: cs) #[]
    have k := key _ (by rw [ec]; exact digits_of h h1) (by rw [hsz]; simp only [Array.size_empty]; omega)
    rw [es] at k
    unfold worth at k
    unfold digitsVal
    rw [hv] at k
    exact k
theorem numT_neg {x : Str} {cs : List Nat} (hx : x.cps.toList = 45 :: cs) (h : AllDigits cs) (h1 : cs ≠ []) (h2 : x.length ≤ 4300) : NumT x (-((digitsVal cs : Nat) : Int)) := by
  have hs : ∀ c ∈ x.cps.toList, c = 45 ∨ (48 ≤ c ∧ c ≤ 57) := by
    rw [hx]
    intro c hc
    rcases List.mem_cons.mp hc with e | hc
    · exact Or.inl e
    · exact Or.inr (h c hc)
  have hl : x.cps.toList.length = x.length := Array.length_toList
  have key := fun ds hd hz => numT_of hs (ds := ds) hd hz
  rw [hx] at hl key
  rw [List.length_cons] at hl
  have es : sign ((45 :: cs).dropWhile blank) = (true, cs) := by rw [dropWhile_of (by decide)]; rfl
  have ec : core (45 :: cs) = cs := by
    unfold core
    rw [es]
    show (cs.reverse.dropWhile blank).reverse = cs
    rw [dropWhile_digits h.reverse, List.reverse_reverse]
  have hsz := push_size cs #[]
  have hv := push_foldl cs #[]
  have k := key _ (by rw [ec]; exact digits_of h h1) (by rw [hsz]; simp only [Array.size_empty]; omega)
  rw [es] at k
  unfold worth at k
  unfold digitsVal
  rw [hv] at k
  exact k
section
variable {X : Cx}
def rIntG : List V → Hp → VK → Prop := fun xs H Q => match xs with
  | [.int i] => Q (.int i) H
  | [.str a] => ∃ n, NumT a n ∧ Q (.int n) H
  | _ => False
theorem call_intG (z : PySem.W.nsIn X.K cStatics "sys.int_max_str_digits" = some none) : CallR X (.type "int") rIntG := by
  intro pins s σ H xs us Q I r h
  unfold rIntG at h
  split at h
  · exact call_int1 pins s σ H _ us Q I r (.inl ⟨_, rfl, h⟩)
  · obtain ⟨n, h1, q⟩ := h
    obtain ⟨u, rfl, t, rfl⟩ := vals1 r
    exact call_textG h1 (noDigits_of I.kIn z I.nolimit) ⟨.int n, H, I.tok _, ⟨_, rfl⟩, q⟩
  · exact h.elim
end
theorem cut_l (z : Str) (lo hi : Option Int) : (cutS z lo hi).cps.toList = (z.cps.toList.drop (HT.sIx z.length 0 lo)).take (HT.sIx z.length z.length hi - HT.sIx z.length 0 lo) := rfl
theorem cut_hi (z : Str) (i : Nat) : (cutS z none (some (i : Int))).cps.toList = z.cps.toList.take i := by
  rw [cut_l, HT.sIx_nat, HT.sIx_none, List.drop_zero, Nat.sub_zero, ← len_l]
  by_cases h : i ≤ z.cps.toList.length
  · rw [Nat.min_eq_left h]
  · rw [Nat.min_eq_right (by omega), List.take_length, List.take_of_length_le (by omega)]
theorem cut_lo (z : Str) (i : Nat) : (cutS z (some (i : Int)) none).cps.toList = z.cps.toList.drop i := by
  rw [cut_l, HT.sIx_nat, HT.sIx_none, ← len_l]
  rw [List.take_of_length_le (by rw [List.length_drop]; omega)]
  by_cases h : i ≤ z.cps.toList.length
  · rw [Nat.min_eq_left h]
  · rw [Nat.min_eq_right (by omega), List.drop_length, List.drop_of_length_le (by omega)]
theorem cut_lh (z : Str) (i j : Nat) (h : j ≤ z.length) : (cutS z (some (i : Int)) (some (j : Int))).cps.toList = (z.cps.toList.take j).drop i := by
  rw [cut_l, HT.sIx_nat, HT.sIx_nat, Nat.min_eq_left h, List.drop_take]
  by_cases hi : i ≤ z.length
  · rw [Nat.min_eq_left hi]
  · rw [Nat.min_eq_right (by omega)]
    have e1 : j - z.length = 0 := by omega
    have e2 : j - i = 0 := by omega
    rw [e1, e2, List.take_zero, List.take_zero]
section
variable {σ : L2.St} {H : Hp} {Q : VK} {K : PySem.W.Frag} {C a dx : Addr} {m f : Str} {fs fs' : List (Str × V)} {nx bk ct : L2.St → Hp → Prop} {rt : VK} {ta tv : TE} {y : V} {R : Prop} {RR : List (Str × V) → Prop}
theorem w_sfld (h : tv σ H fun y H1 => ta σ H1 fun x H2 => ∃ a C dx fs, x = .ref a ∧ H2 a = some (.ins C dx fs) ∧ Cls K C ∧ NoAttr K C f ∧ fs.length < 1000 ∧ nx σ (upd H2 a (.ins C dx (putF f y fs)))) : sFld K ta tv f ⟨nx, rt, bk, ct⟩ σ H := h
theorem w_sfldAt {R : Hp → Prop} (ha : H a = some (.ins C dx fs)) (hc : Cls K C) (hn : NoAttr K C f) (hl : fs.length < 1000) (q : ∀ H', But a H H' → Txt H H' → H' a = some (.ins C dx (putF f y fs)) → R H') :
    ∃ a' C dx fs, V.ref a = .ref a' ∧ H a' = some (.ins C dx fs) ∧ Cls K C ∧ NoAttr K C f ∧ fs.length < 1000 ∧ R (upd H a' (.ins C dx (putF f y fs))) :=
  ⟨a, C, dx, fs, rfl, ha, hc, hn, hl, q _ (But.upd (But.refl H)) (Txt.ins ha) upd_same⟩
theorem w_methAt {R : Prop} (h1 : H a = some (.ins C dx fs)) (h2 : fs.lookup m = none) (q : R) : ∃ a' dx fs, V.ref a = .ref a' ∧ H a' = some (.ins C dx fs) ∧ fs.lookup m = none ∧ R := ⟨a, dx, fs, rfl, h1, h2, q⟩
theorem made_same {H : Hp} {x dx C : Addr} (h1 : H x = none) (h2 : H dx = none) : Same H (upd (upd H dx (.own x)) x (.ins C dx [])) := fun b o hb => by
  rw [upd_ne (ne_of_none hb h1), upd_ne (ne_of_none hb h2)]
  exact hb
def tMakeG (C : Addr) (sp : Sp) (E : XK) (t : TA) : TE := fun σ H Q => t σ H fun vs H1 => ∀ a dx H2, H1 a = none → H2 a = some (.ins C dx []) → Same H1 H2 → sp (.ref a :: vs) H2 (fun v H3 => v = .non ∧ Q (.ref a) H3) E
theorem w_make {sp : Sp} {E : XK} {σ : L2.St} {H : Hp} {Q : VK} {C : Addr} {tr : TA} (h : tr σ H fun vs H1 => ∀ a dx H2, H1 a = none → H2 a = some (.ins C dx []) → Same H1 H2 → sp (.ref a :: vs) H2 (fun v H3 => v = .non ∧ Q (.ref a) H3) E) : tMakeG C sp E tr σ H Q := h
section
variable {X : Cx} {j k : Nat} {sp : Sp} {x : Str} {p pos : Pos} {e : Expr} {es : List Expr} {t : TA} {C : Addr}
theorem pe_newG0 (c : MkC X.prog X.w X.K X.mg X.base k x C sp) (hr : Room j X.A) (hk : k + 1 ≤ j) (hg : Gl X x := by rfl) (hdb : (x == ("__debug__" : Str)) = false := by decide) :
    PE X (.Call (.Name x p) [] [] pos) (tMakeG C sp E0 tNil) := by
  obtain ⟨f, fd, ps, F, M, hm, b⟩ := c.ex
  exact ⟨fun pins s σ H Q I hw => (pe_make0 (p := p) (pos := pos) M F (hr.mono hk) hg hm b .nil pass0 hdb).run pins s σ H Q I fun y dx h1 h2 hn => hw y dx _ h1 upd_same (made_same h1 h2)⟩
theorem pe_newG (c : MkC X.prog X.w X.K X.mg X.base k x C sp) (hr : Room j X.A) (hk : k + 1 ≤ j) (ha : PA X (e :: es) t) (hg : Gl X x := by rfl) (hdb : (x == ("__debug__" : Str)) = false := by decide)
    (he : starEach (e :: es) X.env = (false, eval e X.env) :: starEach es X.env := by rfl) (hpl : (backTo pos (starEach es X.env)).any (·.1) = false := by rfl) :
    PE X (.Call (.Name x p) (e :: es) [] pos) (tMakeG C sp E0 t) := by
  obtain ⟨f, fd, ps, F, M, hm, b⟩ := c.ex
  refine ⟨fun pins s σ H Q I hw => (pe_make (p := p) (pos := pos) M F (hr.mono hk) hg hm b .nil pass0 (PA.cl ha) hdb he hpl).run pins s σ H Q I ⟨_, hw, fun vs H1 q y dx h1 h2 hn => ?_⟩⟩
  have z := q y dx _ h1 upd_same (made_same h1 h2)
  rw [List.append_nil]
  exact z
end
end
end Lay

set_option exponentiation.threshold 256
set_option Elab.async false
set_option linter.all false
set_option maxRecDepth 100000
set_option maxHeartbeats 4000000
namespace Lay
open PySem PySem.Spec PyProof.Rows L2
def LcG (J : It) (g : TG) (tt : TT) (te : TE) (vs : List Nat) (σ : L2.St) (H1 : Hp) (Q : VK) : Prop := ∀ D, H1 D = none → ∃ W : Nat → Nat → Hp → Prop, (∃ m, W 0 m (upd H1 D (.lst []))) ∧ ∀ i m H, W i m H →
  (J.stop i H ∧ Q (.ref D) H) ∨ (J.go i H ∧ ∃ Nx : Hp → Prop, (∀ H', Nx H' → ∃ m', m' < m ∧ W (i + 1) m' H') ∧ ∀ x H', J.yld i H x H' → g x (wipe σ vs) H' fun σ2 H2 => wipe σ2 vs = wipe σ vs ∧ tt σ2 H2 fun b H3 =>
    if b = true then te σ2 H3 fun y H4 => ∃ acc, H4 D = some (.lst acc) ∧ acc.length < sizeLine ∧ Nx (upd H4 D (.lst (acc ++ [y]))) else Nx H3)
section
variable {K : PySem.W.Frag} {σ : L2.St} {H H1 : Hp} {Q : VK} {ta : TA} {te te0 : TE} {g : TG} {tt : TT} {vs : List Nat} {a : Addr} {xs : List V} {wi : TI} {j : Nat}
theorem w_lcI (h : wi σ H fun J H1 => LcG J g tt te vs σ H1 Q) : tLc wi g tt te vs σ H Q := h
theorem w_iAny {R : It → Hp → Prop} (h : te0 σ H fun v H1 => itA K v H1 R) : iAny K te0 σ H R := h
theorem w_iR1 {R : It → Hp → Prop} (h : ta σ H fun vs H1 => ∃ j : Int, vs = [.int j] ∧ -(2 ^ 62) ≤ j ∧ j < 2 ^ 62 ∧ R (Itr 0 j.toNat) H1) : iRng1 ta σ H R := h
theorem w_yes {QT : Bool → Hp → Prop} (q : QT true H) : tYes σ H QT := q
def LcS (te : TE) (vs : List Nat) (j : Nat) (σ : L2.St) (H1 : Hp) (Q : VK) (n : Nat) (at_ : Nat → V → Prop) (inv : Hp → Prop) : Prop := ∀ D, H1 D = none → ∃ Pv : Nat → List V → Hp → Prop,
  (∀ H2, Same H1 H2 → H2 D = some (.lst []) → Pv 0 [] H2) ∧ (∀ i acc H', Pv i acc H' → inv H') ∧
  (∀ i y acc H' (R : VK), at_ i y → Pv i acc H' → H' D = some (.lst acc) → (∀ z H4, H4 D = some (.lst acc) → acc.length ≤ 10000000 → (∀ H5, But D H4 H5 → Txt H4 H5 → H5 D = some (.lst (acc ++ [z])) → Pv (i + 1) (acc ++ [z]) H5) → R z H4) → te ((wipe σ vs).set j (some y)) H' R) ∧
  (∀ acc H', Pv n acc H' → H' D = some (.lst acc) → Q (.ref D) H')
theorem lc_step {D : Addr} {Pv : Nat → List V → Hp → Prop} {i : Nat} {y : V} {H' : Hp} (hw : ∀ v, wipe ((wipe σ vs).set j (some v)) vs = wipe σ vs)
    (hs : ∀ acc (R : VK), Pv i acc H' → H' D = some (.lst acc) → (∀ z H4, H4 D = some (.lst acc) → acc.length ≤ 10000000 → (∀ H5, But D H4 H5 → Txt H4 H5 → H5 D = some (.lst (acc ++ [z])) → Pv (i + 1) (acc ++ [z]) H5) → R z H4) → te ((wipe σ vs).set j (some y)) H' R)
    (p : ∃ acc, H' D = some (.lst acc) ∧ Pv i acc H') : gName j y (wipe σ vs) H' fun σ2 H2 => wipe σ2 vs = wipe σ vs ∧ tYes σ2 H2 fun b H3 =>
      if b = true then te σ2 H3 fun y H4 => ∃ acc, H4 D = some (.lst acc) ∧ acc.length < sizeLine ∧ (∃ acc', upd H4 D (.lst (acc ++ [y])) D = some (.lst acc') ∧ Pv (i + 1) acc' (upd H4 D (.lst (acc ++ [y])))) else ∃ acc', H3 D = some (.lst acc') ∧ Pv (i + 1) acc' H3 := by
  obtain ⟨acc, h1, h2⟩ := p
  refine ⟨hw y, w_yes (w_iteT ?_)⟩
  exact hs acc _ h2 h1 fun z H4 q1 q2 q3 => ⟨acc, q1, Nat.lt_of_le_of_lt q2 (by decide), acc ++ [z], upd_same, q3 _ (But.upd (But.refl H4)) (Txt.lst q1) upd_same⟩
theorem lcL (hw : ∀ v, wipe ((wipe σ vs).set j (some v)) vs = wipe σ vs) (hq : SqL K H1 a xs) (h : LcS te vs j σ H1 Q xs.length (fun i y => xs[i]? = some y) (fun H' => SqL K H' a xs)) : itA K (.ref a) H1 fun J H2 => LcG J (gName j) tYes te vs σ H2 Q := by
  refine .inl ⟨⟨xs, hq⟩, fun D hD => ?_⟩
  obtain ⟨Pv, h0, hl, hs, hd⟩ := h D hD
  refine lc_list (xs := xs) (fun i H' => ∃ acc, H' D = some (.lst acc) ∧ Pv i acc H') ⟨[], upd_same, h0 _ (same_upd hD) upd_same⟩ (fun i H' hi p => ?_) (fun i y H' hy p => ?_) (fun H' p => ?_)
  · obtain ⟨acc, _, p2⟩ := p
    exact hl _ _ _ p2
  · exact lc_step hw (fun acc R q1 q2 q3 => hs i y acc H' R hy q1 q2 q3) p
  · obtain ⟨acc, p1, p2⟩ := p
    exact hd _ _ p2 p1
theorem lcT (hw : ∀ v, wipe ((wipe σ vs).set j (some v)) vs = wipe σ vs) (hq : SqT K H1 a xs) (h : LcS te vs j σ H1 Q xs.length (fun i y => xs[i]? = some y) (fun H' => SqT K H' a xs)) : itA K (.ref a) H1 fun J H2 => LcG J (gName j) tYes te vs σ H2 Q := by
  refine .inr ⟨⟨xs, hq⟩, fun D hD => ?_⟩
  obtain ⟨Pv, h0, hl, hs, hd⟩ := h D hD
  refine lc_tup (xs := xs) (fun i H' => ∃ acc, H' D = some (.lst acc) ∧ Pv i acc H') ⟨[], upd_same, h0 _ (same_upd hD) upd_same⟩ (fun i H' hi p => ?_) (fun i y H' hy p => ?_) (fun H' p => ?_)
  · obtain ⟨acc, _, p2⟩ := p
    exact hl _ _ _ p2
  · exact lc_step hw (fun acc R q1 q2 q3 => hs i y acc H' R hy q1 q2 q3) p
  · obtain ⟨acc, p1, p2⟩ := p
    exact hd _ _ p2 p1
theorem lcR {n : Nat} (hw : ∀ v, wipe ((wipe σ vs).set j (some v)) vs = wipe σ vs) (h : LcS te vs j σ H1 Q n (fun i y => i < n ∧ y = .int (i : Nat)) (fun _ => True)) : LcG (Itr 0 n) (gName j) tYes te vs σ H1 Q := fun D hD => by
  obtain ⟨Pv, h0, _, hs, hd⟩ := h D hD
  refine lc_range (fun i H' => ∃ acc, H' D = some (.lst acc) ∧ Pv i acc H') ⟨[], upd_same, h0 _ (same_upd hD) upd_same⟩ (fun i H' hi p => ?_) (fun H' p => ?_)
  · have e : (0 : Int) + (i : Nat) = (i : Nat) := Int.zero_add _
    show gName j (.int (0 + (i : Nat))) _ _ _
    rw [e]
    exact lc_step hw (fun acc R q1 q2 q3 => hs i _ acc H' R ⟨hi, rfl⟩ q1 q2 q3) p
  · obtain ⟨acc, p1, p2⟩ := p
    exact hd _ _ p2 p1
theorem lcX {x : Str} (hw : ∀ v, wipe ((wipe σ vs).set j (some v)) vs = wipe σ vs) (h : LcS te vs j σ H1 Q x.cps.toList.length (fun i y => ∃ c, x.cps.toList[i]? = some c ∧ y = .str ⟨#[c]⟩) (fun _ => True)) : itA K (.str x) H1 fun J H2 => LcG J (gName j) tYes te vs σ H2 Q := fun D hD => by
  obtain ⟨Pv, h0, _, hs, hd⟩ := h D hD
  refine lc_str (fun i H' => ∃ acc, H' D = some (.lst acc) ∧ Pv i acc H') ⟨[], upd_same, h0 _ (same_upd hD) upd_same⟩ (fun i c H' hy p => ?_) (fun H' p => ?_)
  · exact lc_step hw (fun acc R q1 q2 q3 => hs i _ acc H' R ⟨c, hy, rfl⟩ q1 q2 q3) p
  · obtain ⟨acc, p1, p2⟩ := p
    exact hd _ _ p2 p1
theorem lr1_of {m : Int} {n : Nat} (hm : m = (n : Int)) (hn : n ≤ 1000000000) (h : LcG (Itr 0 n) g tt te vs σ H Q) : ∃ j : Int, [V.int m] = [.int j] ∧ -(2 ^ 62) ≤ j ∧ j < 2 ^ 62 ∧ LcG (Itr 0 j.toNat) g tt te vs σ H Q := by
  refine ⟨m, rfl, by omega, by omega, ?_⟩
  rw [hm, Int.toNat_natCast]
  exact h
theorem LcS.map {n : Nat} {ys : List V} {at_ : Nat → V → Prop} {inv : Hp → Prop} (f : V → V) (hn : n = ys.length) (hl : ys.length ≤ 10000000) (hat : ∀ i y, at_ i y → ys[i]? = some y) (hi : ∀ H', Same H1 H' → inv H')
    (he : ∀ y H2, y ∈ ys → Same H1 H2 → ∀ R : VK, (∀ H3, Same H2 H3 → R (f y) H3) → te ((wipe σ vs).set j (some y)) H2 R) (q : ∀ D H2, H1 D = none → Same H1 H2 → H2 D = some (.lst (ys.map f)) → Q (.ref D) H2) : LcS te vs j σ H1 Q n at_ inv := fun D hD => by
  subst hn
  refine ⟨fun i acc H' => i ≤ ys.length ∧ acc = (ys.take i).map f ∧ Same H1 H', fun H2 e h => ⟨Nat.zero_le _, rfl, e⟩, fun i acc H' p => hi H' p.2.2, fun i y acc H' R hy p hD2 hR => ?_, fun acc H' p hD2 => ?_⟩
  · obtain ⟨p1, rfl, p2⟩ := p
    have hy' := hat i y hy
    have hlt := (List.getElem?_eq_some_iff.mp hy').1
    refine he y H' (List.mem_of_getElem? hy') p2 R fun H3 e3 => hR (f y) H3 (e3 _ _ hD2) ?_ fun H5 b5 t5 h5 => ⟨hlt, ?_, same_but (p2.trans e3) b5 hD⟩
    · rw [List.length_map, List.length_take]
      omega
    · rw [List.take_add_one, hy', List.map_append]
      rfl
  · obtain ⟨p1, rfl, p2⟩ := p
    rw [List.take_length] at hD2
    exact q D H' hD p2 hD2
theorem LcS.mapI {ys zs : List V} {inv : Hp → Prop} (hz : zs.length = ys.length) (hl : ys.length ≤ 10000000) (hi : ∀ H', Same H1 H' → inv H')
    (he : ∀ (i : Nat) y z H2, ys[i]? = some y → zs[i]? = some z → Same H1 H2 → ∀ R : VK, (∀ H3, Same H2 H3 → R z H3) → te ((wipe σ vs).set j (some y)) H2 R) (q : ∀ D H2, H1 D = none → Same H1 H2 → H2 D = some (.lst zs) → Q (.ref D) H2) :
    LcS te vs j σ H1 Q ys.length (fun i y => ys[i]? = some y) inv := fun D hD => by
  refine ⟨fun i acc H' => i ≤ ys.length ∧ acc = zs.take i ∧ Same H1 H', fun H2 e h => ⟨Nat.zero_le _, rfl, e⟩, fun i acc H' p => hi H' p.2.2, fun i y acc H' R hy p hD2 hR => ?_, fun acc H' p hD2 => ?_⟩
  · obtain ⟨p1, rfl, p2⟩ := p
    have hlt := (List.getElem?_eq_some_iff.mp hy).1
    have hzi : zs[i]? = some zs[i] := List.getElem?_eq_getElem (by omega)
    refine he i y zs[i] H' hy hzi p2 R fun H3 e3 => hR zs[i] H3 (e3 _ _ hD2) ?_ fun H5 b5 t5 h5 => ⟨hlt, ?_, same_but (p2.trans e3) b5 hD⟩
    · rw [List.length_take]
      omega
    · rw [List.take_add_one, hzi]
      rfl
  · obtain ⟨p1, rfl, p2⟩ := p
    rw [← hz, List.take_length] at hD2
    exact q D H' hD p2 hD2
end
section
variable {σ : L2.St} {H : Hp} {l : Addr} {xs : List V} {v : V} {k : Int} {to ti : TE} {t : TSet} {Q : L2.St → Hp → Prop}
theorem w_ixL {K : PySem.W.Frag} {R : VK} {n : Int} {y : V} (h : H l = some (.lst xs)) (ha : atI xs n = some y) (q : R y H) : rIxA K (.ref l) (.int n) H R := ⟨n, xs, y, rfl, .inl (SqL.of h), ha, q⟩
theorem w_gsub (h : to σ H fun o H1 => ti σ H1 fun i H2 => t o i v H2 fun H3 => Q σ H3) : gSub to ti t v σ H Q := h
theorem w_setl {R : Hp → Prop} {i : Nat} (h : H l = some (.lst xs)) (hk : k = (i : Int)) (hi : i < xs.length) (q : ∀ H', But l H H' → Txt H H' → H' l = some (.lst (xs.set i v)) → R H') : rSetL (.ref l) (.int k) v H R := by
  refine ⟨l, xs, k, i, rfl, rfl, h, ?_, q _ (But.upd (But.refl H)) (Txt.lst h) upd_same⟩
  unfold ixN
  rw [hk, if_pos (by omega), if_pos (by omega)]
  rfl
end
structure DrAt (H : Hp) (pd : Addr) (c : Nat) (pc : Addr) (cells : List Int) (i : Nat) (x : Int) (k : Nat) (s : Int) : Prop where
  obj : H pd = some (.lst [.ref pc, .int (i : Nat), .int x, .int (k : Nat), .int s, .int (c : Nat)])
  cel : H pc = some (.lst (cells.map V.int))
  ne : pc ≠ pd
  le : i ≤ cells.length
def Dr (H : Hp) (pd pc : Addr) (c : Nat) : Prop := ∃ c0 cells i x k s, c0 ≤ c ∧ DrAt H pd c0 pc cells i x k s
theorem Dr.same {H H' : Hp} {pd pc : Addr} {c : Nat} (e : Same H H') (d : Dr H pd pc c) : Dr H' pd pc c := by
  obtain ⟨c0, cells, i, x, k, s, hl, D⟩ := d
  exact ⟨c0, cells, i, x, k, s, hl, e _ _ D.obj, e _ _ D.cel, D.ne, D.le⟩
theorem Dr.mono {H : Hp} {pd pc : Addr} {c c' : Nat} (d : Dr H pd pc c) (h : c ≤ c') : Dr H pd pc c' := by
  obtain ⟨c0, cells, i, x, k, s, hl, D⟩ := d
  exact ⟨c0, cells, i, x, k, s, Nat.le_trans hl h, D⟩
theorem Dr.but {H H' : Hp} {pd pc p : Addr} {c : Nat} (e : But p H H') (d : Dr H pd pc c) (h1 : pd ≠ p) (h2 : pc ≠ p) : Dr H' pd pc c := by
  obtain ⟨c0, cells, i, x, k, s, hl, D⟩ := d
  exact ⟨c0, cells, i, x, k, s, hl, e _ _ h1 D.obj, e _ _ h2 D.cel, D.ne, D.le⟩
theorem Dr.new {H : Hp} {pd pc p : Addr} {c : Nat} (d : Dr H pd pc c) (h : H p = none) : pd ≠ p ∧ pc ≠ p := by
  obtain ⟨c0, cells, i, x, k, s, hl, D⟩ := d
  exact ⟨ne_of_none D.obj h, ne_of_none D.cel h⟩
theorem but_new {H H1 H2 : Hp} {p D : Addr} (a : But p H H1) (n : H D = none) (b : But D H1 H2) : But p H H2 := fun x o hx ho => b x o (ne_of_none ho n) (a x o hx ho)
def spTakeN (_ : PySem.W.Frag) : Sp := fun vs H Q _ => ∃ pd pc c, ∃ many : Int, vs = [.ref pd, .int many] ∧ 0 < many ∧ many < 1073741824 ∧ Dr H pd pc c ∧ c ≤ 1000000 ∧ ∀ (m : Nat) H', (m : Int) < many → But pd H H' → Txt H H' → Dr H' pd pc (c + 1) → Q (.int (m : Nat)) H'
def spDraw (K : PySem.W.Frag) : Sp := fun vs H Q _ => ∃ a, ∃ ns : List Int, vs = [.ref a] ∧ SqL K H a (ns.map V.int) ∧ ns.length ≤ 1000 ∧ ∀ pd pc H', H pd = none → H pc = none → Same H H' → Dr H' pd pc 0 → Q (.ref pd) H'
theorem cutV_hi (xs : List V) (i : Nat) : cutV xs none (some (i : Int)) = xs.take i := by
  unfold cutV
  rw [HT.sIx_nat, HT.sIx_none, List.drop_zero, Nat.sub_zero]
  by_cases h : i ≤ xs.length
  · rw [Nat.min_eq_left h]
  · rw [Nat.min_eq_right (by omega), List.take_length, List.take_of_length_le (by omega)]
theorem cutV_lo (xs : List V) (i : Nat) : cutV xs (some (i : Int)) none = xs.drop i := by
  unfold cutV
  rw [HT.sIx_nat, HT.sIx_none]
  rw [List.take_of_length_le (by rw [List.length_drop]; omega)]
  by_cases h : i ≤ xs.length
  · rw [Nat.min_eq_left h]
  · rw [Nat.min_eq_right (by omega), List.drop_length, List.drop_of_length_le (by omega)]
theorem w_dispC {σ : L2.St} {H : Hp} {Q : VK} {kvs : List (Key × V)} (hk : kvs.length ≤ 15) (h : ∀ p H3, H p = none → Same H H3 → H3 p = some (.dK (mergeK [] kvs)) → Q (.ref p) H3) : tDisp (kvs.map fun kv => (tC (kV kv.1), tC kv.2)) σ H Q := by
  intro p hp
  have key : ∀ (l : List (Key × V)) (R : List (V × V) → Hp → Prop) H1, R (l.map fun kv => (kV kv.1, kv.2)) H1 → tPairs (l.map fun kv => (tC (kV kv.1), tC kv.2)) σ H1 R := by
    intro l
    induction l with
    | nil => exact fun R H1 r => r
    | cons a l ih => exact fun R H1 r => ih (fun ps H3 => R ((kV a.1, a.2) :: ps) H3) H1 r
  exact key kvs _ _ ⟨upd_same, kvs, rfl, hk, h p _ hp (Same.mut (same_upd hp) hp) upd_same⟩
section
variable {σ : L2.St} {H : Hp} {Q : VK} {td ty tx : TE} {p : Addr} {kvs : List (Key × V)} {k : Key} {y z v : V}
theorem w_dget (h : td σ H fun x H1 => ty σ H1 fun y H2 => ∃ a v, x = .ref a ∧ DGet H2 a y (some v) ∧ Q v H2) : tDGet td ty σ H Q := h
theorem w_dgetAt {R : V → Prop} (h : H p = some (.dK kvs)) (e : valV kvs k = some v) (q : R v) : ∃ a v, V.ref p = .ref a ∧ DGet H a (kV k) (some v) ∧ R v := ⟨p, v, rfl, e ▸ DGet.k h, q⟩
theorem w_dget2 (h : td σ H fun x H1 => ∃ a, x = .ref a ∧ IsD H1 a ∧ ty σ H1 fun y H2 => tx σ H2 fun z H3 => ∃ o, DGet H3 a y o ∧ Q (o.getD z) H3) : tDGet2 td ty tx σ H Q := h
theorem w_isD {R : Addr → Prop} (h : H p = some (.dK kvs)) (q : R p) : ∃ a, V.ref p = .ref a ∧ IsD H a ∧ R a := ⟨p, rfl, .inl ⟨kvs, .inl h⟩, q⟩
theorem w_dget2At {R : Option V → Prop} (h : H p = some (.dK kvs)) (q : R (valV kvs k)) : ∃ o, DGet H p (kV k) o ∧ R o := ⟨_, DGet.k h, q⟩
end
theorem w_joinR {K : PySem.W.Frag} {a : Str} {p : Addr} {ys : List Str} {H : Hp} {R : V → Prop} (h : SqA K H p (ys.map V.str)) (hl : (ys.map (·.length)).sum + ys.length * a.length ≤ 10000000) (q : R (.str (Txt.join a ys))) :
    ∃ a' p', ∃ ys : List Str, V.str a = .str a' ∧ [V.ref p] = [.ref p'] ∧ SqA K H p' (ys.map V.str) ∧ (ys.map (·.length)).sum + ys.length * a'.length ≤ 16777216 ∧ R (.str (Txt.join a' ys)) := ⟨a, p, ys, rfl, rfl, h, Nat.le_trans hl (by decide), q⟩
theorem fng0 {P : Program} {w : World} {K : PySem.W.Frag} {mg : Str → Option Value} {base : Heap} {x qual : Str} {st : Stmt} {f : Addr} {fd : FuncData} {N ps : List Str} {k : Nat} {sp : Sp} (F : Fun K x qual st f fd) (S : FnScope N ps (defScope st)) (len : ∀ vs H Q E, sp vs H Q E → vs.length = ps.length)
    (hbody : ∀ (cdv : Value) (A : Around) (outer : List Env) (s : Shared) (H : Hp) (vs : List V) (Q : VK) (E : XK), Bare (A.deeper (envOfC qual (defScope st) s.heap.objs.size f cdv)) → Room k (A.deeper (envOfC qual (defScope st) s.heap.objs.size f cdv)) → sp vs H Q E →
      ∃ t, PSs (cxOf CX0 P w K mg base N qual (defScope st) f cdv A outer s H E).nox (defBody st) t ∧ t { nx := fun _ H' => Q .non H', rt := Q } (start N vs) H) : FnG P w K mg base CX0 (k + 1) f fd ps sp :=
  fng F S len fun cdv A outer s H vs Q E hG hr h => by
    obtain ⟨t, ht, q⟩ := hbody cdv A outer s H vs Q E hG hr h
    exact ⟨t, ht.nox, q⟩
end Lay

set_option exponentiation.threshold 256
set_option Elab.async false
set_option linter.all false
set_option maxRecDepth 100000
set_option maxHeartbeats 4000000
namespace DataM
open PySem PySem.NumText
abbrev Tx := List Nat
def isLet (c : Nat) : Bool := decide (97 ≤ c ∧ c ≤ 122)
def isDig (c : Nat) : Bool := decide (48 ≤ c ∧ c ≤ 57)
def sep (c : Nat) : Bool := c == 91 || c == 93 || c == 44
def isWordT (p : Tx) : Bool := decide (1 ≤ p.length) && decide (p.length ≤ 12) && isLet (p.headD 0) && p.all fun c => isLet c || isDig c
def digs (i : Int) : Tx := (Str.ofString (toString i)).cps.toList
def bodyT (p : Tx) : Tx := if p.take 1 = [45] then p.drop 1 else p
def numOk (p : Tx) : Bool := decide (1 ≤ (bodyT p).length) && decide ((bodyT p).length ≤ 4000) && (bodyT p).all isDig && !(decide ((bodyT p).headD 0 = 48) && !decide (p = [48]))
def numV (p : Tx) : Int := if p.take 1 = [45] then -((digitsVal (bodyT p) : Nat) : Int) else ((digitsVal (bodyT p) : Nat) : Int)
def nats (m : Nat) : Tx := (Nat.toDigits 10 m).map Char.toNat
theorem digs_nat (m : Nat) : digs (m : Int) = nats m := PySem.W.KIN.signs_num m
theorem digs_neg (m : Nat) : digs (Int.negSucc m) = 45 :: nats (m + 1) := by
  unfold digs nats
  have e : toString (Int.negSucc m) = "-" ++ Nat.repr (m + 1) := rfl
  rw [e, PyProof.Rows.signs_ofString, String.toList_append, List.map_append, Nat.toList_repr]
  rfl
theorem digit_ok (d : Nat) (h : d < 10) : 48 ≤ (Nat.digitChar d).toNat ∧ (Nat.digitChar d).toNat ≤ 57 := by
  have : ∀ d : Nat, d < 10 → 48 ≤ (Nat.digitChar d).toNat ∧ (Nat.digitChar d).toNat ≤ 57 := by decide
  exact this d h
theorem nats_all (m : Nat) : ∀ c ∈ nats m, 48 ≤ c ∧ c ≤ 57 := by
  intro c hc
  obtain ⟨ch, h1, rfl⟩ := List.mem_map.mp hc
  induction m using Nat.strongRecOn with
  | _ m ih =>
    by_cases h : m < 10
    · rw [Nat.toDigits_of_lt_base h] at h1
      rw [List.mem_singleton.mp h1]
      exact digit_ok m h
    · have t : Nat.toDigits 10 (m / 10) ++ Nat.toDigits 10 (m % 10) = Nat.toDigits 10 (10 * (m / 10) + m % 10) := Nat.toDigits_append_toDigits (by decide) (by omega) (Nat.mod_lt m (by decide))
      rw [Nat.div_add_mod] at t
      rw [← t, List.mem_append] at h1
      rcases h1 with h1 | h1
      · exact ih (m / 10) (by omega) (by first | exact List.mem_map.mpr ⟨ch, h1, rfl⟩ | exact h1) (by first | exact h1 | exact List.mem_map.mpr ⟨ch, h1, rfl⟩)
      · have hm : m % 10 < 10 := Nat.mod_lt m (by decide)
        rw [Nat.toDigits_of_lt_base hm] at h1
        rw [List.mem_singleton.mp h1]
        exact digit_ok _ hm
theorem nats_val (m : Nat) : digitsVal (nats m) = m := PySem.W.KIN.val_back m
theorem nats_ne (m : Nat) : nats m ≠ [] := by
  intro e
  by_cases h : m < 10
  · unfold nats at e
    rw [Nat.toDigits_of_lt_base h] at e
    cases e
  · have t : Nat.toDigits 10 (m / 10) ++ Nat.toDigits 10 (m % 10) = Nat.toDigits 10 (10 * (m / 10) + m % 10) := Nat.toDigits_append_toDigits (by decide) (by omega) (Nat.mod_lt m (by decide))
    rw [Nat.div_add_mod] at t
    unfold nats at e
    rw [← t, List.map_append] at e
    have e2 := (List.append_eq_nil_iff.mp e).2
    rw [Nat.toDigits_of_lt_base (Nat.mod_lt m (by decide))] at e2
    cases e2
theorem digitChar_lt (d : Nat) (h : d < 10) (e : (Nat.digitChar d).toNat = 48) : d = 0 := by
  have : ∀ d : Nat, d < 10 → (Nat.digitChar d).toNat = 48 → d = 0 := by decide
  exact this d h e
theorem nats_head (m : Nat) (h : (nats m).headD 0 = 48) : m = 0 := by
  induction m using Nat.strongRecOn with
  | _ m ih =>
    by_cases hm : m < 10
    · unfold nats at h
      rw [Nat.toDigits_of_lt_base hm] at h
      exact digitChar_lt m hm h
    · exfalso
      have t : Nat.toDigits 10 (m / 10) ++ Nat.toDigits 10 (m % 10) = Nat.toDigits 10 (10 * (m / 10) + m % 10) := Nat.toDigits_append_toDigits (by decide) (by omega) (Nat.mod_lt m (by decide))
      rw [Nat.div_add_mod] at t
      have hn := nats_ne (m / 10)
      have e : nats m = nats (m / 10) ++ (Nat.toDigits 10 (m % 10)).map Char.toNat := by
        unfold nats
        rw [← t, List.map_append]
      rw [e] at h
      cases hl : nats (m / 10) with
      | nil => exact hn hl
      | cons a r =>
        rw [hl] at h
        have := ih (m / 10) (by omega) (by rw [hl]; exact h)
        omega
theorem nats_len (m k : Nat) (hk : 0 < k) (h : m < 10 ^ k) : (nats m).length ≤ k := by
  unfold nats
  rw [List.length_map]
  induction k generalizing m with
  | zero => omega
  | succ k ih =>
    by_cases hm : m < 10
    · rw [Nat.toDigits_of_lt_base hm]
      exact Nat.le_add_left 1 k
    · have t : Nat.toDigits 10 (m / 10) ++ Nat.toDigits 10 (m % 10) = Nat.toDigits 10 (10 * (m / 10) + m % 10) := Nat.toDigits_append_toDigits (by decide) (by omega) (Nat.mod_lt m (by decide))
      rw [Nat.div_add_mod] at t
      rw [← t, List.length_append, Nat.toDigits_of_lt_base (Nat.mod_lt m (by decide))]
      have hk0 : 0 < k := by
        rcases Nat.eq_zero_or_pos k with z | z
        · subst z
          simp at h
          omega
        · exact z
      have := ih (m / 10) hk0 (by rw [Nat.pow_succ] at h; omega)
      simp only [List.length_cons, List.length_nil]
      omega
theorem nats_of {cs : Tx} (h : AllDigits cs) (hne : cs ≠ []) (hh : cs.headD 0 = 48 → cs = [48]) : nats (digitsVal cs) = cs := by
  have hb : ∀ l : Tx, AllDigits l → (l.map Char.ofNat).map Char.toNat = l := by
    intro l hl
    rw [List.map_map]
    have : ∀ c ∈ l, (Char.toNat ∘ Char.ofNat) c = c := by
      intro c hc
      have := hl c hc
      have key : ∀ c : Nat, c < 58 → Char.toNat (Char.ofNat c) = c := by decide
      exact key c (by omega)
    rw [List.map_congr_left this, List.map_id']
  obtain ⟨n, hn⟩ : ∃ n, cs.length = n + 1 := by
    cases cs with
    | nil => exact absurd rfl hne
    | cons a r => exact ⟨r.length, rfl⟩
  unfold nats
  cases cs with
  | nil => exact absurd rfl hne
  | cons a r =>
    have ha := h a List.mem_cons_self
    by_cases e : a = 48
    · subst e
      cases hh rfl
      decide
    · rw [toDigits_digitsVal n (a :: r) hn h (.inr ⟨a, r, rfl, by omega⟩)]
      exact hb _ h
theorem allDig_of {p : Tx} (h : p.all isDig = true) : AllDigits p := fun c hc => of_decide_eq_true (List.all_eq_true.mp h c hc)
theorem allDig_to {p : Tx} (h : AllDigits p) : p.all isDig = true := List.all_eq_true.mpr fun c hc => decide_eq_true (h c hc)
theorem body_neg (q : Tx) : bodyT (45 :: q) = q := by
  unfold bodyT
  rw [if_pos (by rfl)]
  rfl
theorem body_pos {p : Tx} (h : p.take 1 ≠ [45]) : bodyT p = p := by
  unfold bodyT
  rw [if_neg h]
theorem num_digs (i : Int) (h : i.natAbs < 10 ^ 4000) : numOk (digs i) = true ∧ numV (digs i) = i := by
  cases i with
  | ofNat m =>
    have e : digs (Int.ofNat m) = nats m := digs_nat m
    have h1 : m < 10 ^ 4000 := h
    have hd := nats_all m
    have ht : (nats m).take 1 ≠ [45] := by
      cases hl : nats m with
      | nil => exact absurd hl (nats_ne m)
      | cons a r =>
        have := hd a (by rw [hl]; exact List.mem_cons_self)
        intro z
        have z' : [a] = [45] := z
        injection z' with z1 _
        omega
    rw [e]
    refine ⟨?_, ?_⟩
    · unfold numOk
      rw [body_pos ht, allDig_to hd]
      have l1 : 1 ≤ (nats m).length := List.length_pos_iff.mpr (nats_ne m)
      have l2 : (nats m).length ≤ 4000 := nats_len m 4000 (by decide) h1
      rw [decide_eq_true l1, decide_eq_true l2]
      by_cases c : (nats m).headD 0 = 48
      · have := nats_head m c
        subst this
        decide
      · rw [decide_eq_false c]
        rfl
    · unfold numV
      rw [if_neg ht, body_pos ht, nats_val]
      rfl
  | negSucc m =>
    have h1 : m + 1 < 10 ^ 4000 := h
    have hd := nats_all (m + 1)
    rw [digs_neg]
    refine ⟨?_, ?_⟩
    · unfold numOk
      rw [body_neg, allDig_to hd]
      have l1 : 1 ≤ (nats (m + 1)).length := List.length_pos_iff.mpr (nats_ne _)
      have l2 : (nats (m + 1)).length ≤ 4000 := nats_len _ 4000 (by decide) h1
      rw [decide_eq_true l1, decide_eq_true l2]
      have c : ¬ (nats (m + 1)).headD 0 = 48 := fun z => by
        have := nats_head _ z
        omega
      rw [decide_eq_false c]
      rfl
    · unfold numV
      rw [if_pos (by rfl), body_neg, nats_val]
      rfl
theorem digs_num (p : Tx) (h : numOk p = true) : digs (numV p) = p := by
  unfold numOk at h
  simp only [Bool.and_eq_true, Bool.not_eq_true', Bool.and_eq_false_iff, decide_eq_true_eq, decide_eq_false_iff_not, Bool.not_eq_false'] at h
  obtain ⟨⟨⟨h1, h2⟩, h3⟩, h4⟩ := h
  have hd := allDig_of h3
  have hne : bodyT p ≠ [] := List.length_pos_iff.mp h1
  unfold numV
  by_cases c : p.take 1 = [45]
  · rw [if_pos c]
    have hp : p = 45 :: bodyT p := by
      unfold bodyT
      rw [if_pos c]
      cases p with
      | nil => cases c
      | cons a r =>
        have z : [a] = [45] := c
        injection z with z1 _
        subst z1
        rfl
    have hh : ¬ (bodyT p).headD 0 = 48 := by
      rcases h4 with z | z
      · exact z
      · rw [z] at c
        cases c
    have hpos : 0 < digitsVal (bodyT p) := by
      cases hl : bodyT p with
      | nil => exact absurd hl hne
      | cons a r =>
        have ha := hd a (by rw [hl]; exact List.mem_cons_self)
        rw [hl] at hh
        have hh' : ¬ a = 48 := hh
        exact digitsVal_pos (by omega)
    obtain ⟨m, hm⟩ : ∃ m, digitsVal (bodyT p) = m + 1 := ⟨digitsVal (bodyT p) - 1, by omega⟩
    rw [hm, show -(((m + 1 : Nat)) : Int) = Int.negSucc m from rfl, digs_neg, ← hm, nats_of hd hne (fun z => absurd z hh)]
    exact hp.symm
  · rw [if_neg c, digs_nat, nats_of hd hne (fun z => ?_), body_pos c]
    rcases h4 with y | y
    · exact absurd z y
    · rw [y]
      rfl
mutual
def wr : PyData → Option Tx
  | .tuple ds => (wrj ds).map fun l => 91 :: (l ++ [93])
  | .str s => if isWordT s.cps.toList then some s.cps.toList else if s.cps.toList = [] then some [46] else none
  | .bool b => some (if b then [43] else [45])
  | .int i => some (digs i)
  | .none => none
  | .list _ => none
  | .dict _ => none
def wrj : List PyData → Option Tx
  | [] => some []
  | d :: ds => (wr d).bind fun a => (wrj ds).map fun b => if ds.isEmpty then a else a ++ 44 :: b
end
def pcs (tok : Tx) : Tx → List Tx
  | [] => if tok = [] then [] else [tok]
  | c :: r => if sep c then (if tok = [] then [] else [tok]) ++ [c] :: pcs [] r else pcs (tok ++ [c]) r
def atomT (p : Tx) : Option PyData :=
  if p = [43] then some (.bool true) else if p = [45] then some (.bool false) else if p = [46] then some (.str ⟨#[]⟩) else
    if isWordT p then some (.str ⟨p.toArray⟩) else if numOk p then some (.int (numV p)) else none
structure R where
  st : List (List PyData)
  rd : Bool
  td : List PyData
def R.item (r : R) (v : PyData) : Option R := if r.rd then (match r.st with | [] => some ⟨[], false, r.td ++ [v]⟩ | row :: s => some ⟨(row ++ [v]) :: s, false, r.td⟩) else none
def R.opn (r : R) : Option R := if r.rd = true ∧ r.st.length < 1000 then some ⟨[] :: r.st, r.rd, r.td⟩ else none
def R.cls (r : R) : Option R := match r.st with
  | [] => none
  | row :: s => if r.rd = true ∧ row ≠ [] then none else R.item ⟨s, true, r.td⟩ (.tuple row)
def R.com (r : R) : Option R := if r.rd = true ∨ r.st = [] then none else some ⟨r.st, true, r.td⟩
def R.take (r : R) (p : Tx) : Option R := if p = [91] then r.opn else if p = [93] then r.cls else if p = [44] then r.com else (atomT p).bind r.item
def R.zero : R := ⟨[], true, []⟩
def R.fin (r : R) : Option PyData := match r.st, r.td with
  | [], [v] => some v
  | _, _ => none
def readT (l : Tx) : Option PyData := ((pcs [] l).foldlM R.take R.zero).bind R.fin
theorem pcs_flat : ∀ (l tok : Tx), (pcs tok l).flatten = tok ++ l
  | [], tok => by
    unfold pcs
    by_cases h : tok = []
    · rw [if_pos h, h]
      rfl
    · rw [if_neg h]
      simp
  | c :: r, tok => by
    unfold pcs
    by_cases hs : sep c = true
    · rw [if_pos hs, List.flatten_append, List.flatten_cons, pcs_flat r []]
      by_cases h : tok = []
      · rw [if_pos h, h]
        rfl
      · rw [if_neg h]
        simp
    · rw [if_neg hs, pcs_flat r (tok ++ [c])]
      simp
inductive WrC : List PyData → Tx → Prop
  | nil : WrC [] []
  | snoc {row : List PyData} {l a : Tx} {v : PyData} : WrC row l → wr v = some a → WrC (row ++ [v]) (l ++ a ++ [44])
inductive Pre : List (List PyData) → Tx → Prop
  | nil : Pre [] []
  | cons {s : List (List PyData)} {row : List PyData} {l a : Tx} : Pre s l → WrC row a → Pre (row :: s) (l ++ 91 :: a)
inductive Ren : R → Tx → Prop
  | ready {st : List (List PyData)} {l : Tx} : Pre st l → Ren ⟨st, true, []⟩ l
  | top {v : PyData} {l : Tx} : wr v = some l → Ren ⟨[], false, [v]⟩ l
  | inn {s : List (List PyData)} {row : List PyData} {v : PyData} {l a b : Tx} : Pre s l → WrC row a → wr v = some b → Ren ⟨(row ++ [v]) :: s, false, []⟩ (l ++ 91 :: (a ++ b))
theorem wrj_snoc : ∀ (ds : List PyData) (v : PyData) (l b : Tx), WrC ds l → wr v = some b → wrj (ds ++ [v]) = some (l ++ b) := by
  intro ds
  have key : ∀ (ds : List PyData) (v : PyData) (l b : Tx), (∃ parts : List Tx, ds.length = parts.length ∧ (∀ (i : Nat) (d : PyData) (p : Tx), ds[i]? = some d → parts[i]? = some p → wr d = some p) ∧ l = (parts.map fun p => p ++ [44]).flatten) → wr v = some b → wrj (ds ++ [v]) = some (l ++ b) := by
    intro ds
    induction ds with
    | nil =>
      intro v l b ⟨parts, h1, h2, h3⟩ hb
      have : parts = [] := by
        cases parts with
        | nil => rfl
        | cons a r => simp at h1
      subst this
      subst h3
      show wrj [v] = _
      simp only [wrj, hb]
      rfl
    | cons d ds ih =>
      intro v l b ⟨parts, h1, h2, h3⟩ hb
      cases parts with
      | nil => simp at h1
      | cons p parts =>
        have hd := h2 0 d p rfl rfl
        have ht := ih v (parts.map fun p => p ++ [44]).flatten b ⟨parts, by simpa using h1, fun i d p e1 e2 => h2 (i + 1) d p (by simpa using e1) (by simpa using e2), rfl⟩ hb
        show wrj (d :: (ds ++ [v])) = _
        simp only [wrj, hd, ht]
        subst h3
        show some (if (ds ++ [v]).isEmpty = true then p else p ++ 44 :: ((parts.map fun p => p ++ [44]).flatten ++ b)) = _
        rw [if_neg (by simp)]
        simp
  intro v l b hl hb
  refine key ds v l b ?_ hb
  clear hb
  induction hl with
  | nil => exact ⟨[], rfl, fun i d p e => by simp at e, rfl⟩
  | @snoc row l a u h1 h2 ih =>
    obtain ⟨parts, e1, e2, e3⟩ := ih
    refine ⟨parts ++ [a], by simp [e1], fun i d p q1 q2 => ?_, by rw [e3]; simp⟩
    by_cases hi : i < row.length
    · rw [List.getElem?_append_left hi] at q1
      rw [List.getElem?_append_left (by omega)] at q2
      exact e2 i d p q1 q2
    · rw [List.getElem?_append_right (by omega)] at q1
      rw [List.getElem?_append_right (by omega)] at q2
      cases hj : i - row.length with
      | zero =>
        rw [hj] at q1
        rw [show i - parts.length = 0 by omega] at q2
        simp at q1 q2
        subst q1 q2
        exact h2
      | succ k =>
        rw [hj] at q1
        simp at q1
theorem atom_wr {p : Tx} {v : PyData} (h : atomT p = some v) : wr v = some p := by
  unfold atomT at h
  split at h
  · rename_i e
    cases h
    rw [e]
    rfl
  · split at h
    · rename_i e
      cases h
      rw [e]
      rfl
    · split at h
      · rename_i e
        cases h
        rw [e]
        rfl
      · split at h
        · rename_i e
          cases h
          simp only [wr, e]
          rfl
        · split at h
          · rename_i e
            cases h
            simp only [wr]
            rw [digs_num p e]
          · cases h
theorem item_ren {s : List (List PyData)} {l b : Tx} {v : PyData} {r : R} (hp : Pre s l) (hb : wr v = some b) (h : R.item ⟨s, true, []⟩ v = some r) : Ren r (l ++ b) := by
  unfold R.item at h
  rw [if_pos rfl] at h
  cases hp with
  | nil =>
    cases h
    exact .top hb
  | @cons s row l a h1 h2 =>
    cases h
    have := Ren.inn h1 h2 hb
    simpa using this
theorem take_ren {r r' : R} {l p : Tx} (hr : Ren r l) (h : r.take p = some r') : Ren r' (l ++ p) := by
  unfold R.take at h
  split at h
  · rename_i e
    subst e
    unfold R.opn at h
    cases hr with
    | ready hp =>
      split at h
      · cases h
        exact .ready (.cons hp .nil)
      · cases h
    | top hb => simp at h
    | inn h1 h2 h3 => simp at h
  · split at h
    · rename_i e
      subst e
      unfold R.cls at h
      cases hr with
      | ready hp =>
        cases hp with
        | nil => cases h
        | @cons s row l a h1 h2 =>
          simp only at h
          split at h
          · cases h
          · rename_i c
            have e0 : row = [] := by
              by_cases q : row = []
              · exact q
              · simp [q] at c
            have ea : a = [] := by
              cases h2 with
              | nil => rfl
              | snoc _ _ => simp at e0
            subst e0
            subst ea
            have := item_ren h1 (show wr (.tuple []) = some [91, 93] from rfl) h
            simpa using this
      | top hb => cases h
      | @inn s row v l a b h1 h2 h3 =>
        simp only at h
        split at h
        · rename_i c
          exact absurd c.1 (by decide)
        · have hw : wr (.tuple (row ++ [v])) = some (91 :: ((a ++ b) ++ [93])) := by
            simp only [wr, wrj_snoc row v a b h2 h3]
            rfl
          have := item_ren h1 hw h
          simpa using this
    · split at h
      · rename_i e
        subst e
        unfold R.com at h
        cases hr with
        | ready hp => simp at h
        | top hb => simp at h
        | @inn s row v l a b h1 h2 h3 =>
          split at h
          · cases h
          · cases h
            have := Ren.ready (Pre.cons h1 (WrC.snoc h2 h3))
            simpa using this
      · cases ha : atomT p with
        | none =>
          rw [ha] at h
          cases h
        | some v =>
          rw [ha] at h
          have h' : r.item v = some r' := h
          cases hr with
          | ready hp => exact item_ren hp (atom_wr ha) h'
          | top hb => simp [R.item] at h'
          | inn h1 h2 h3 => simp [R.item] at h'
theorem fold_ren : ∀ (ps : List Tx) {r r' : R} {l : Tx}, Ren r l → ps.foldlM R.take r = some r' → Ren r' (l ++ ps.flatten)
  | [], r, r', l, hr, h => by
    cases h
    simpa using hr
  | p :: ps, r, r', l, hr, h => by
    rw [List.foldlM_cons] at h
    cases hp : r.take p with
    | none =>
      rw [hp] at h
      cases h
    | some r1 =>
      rw [hp] at h
      have := fold_ren ps (take_ren hr hp) h
      simpa using this
theorem read_wr {l : Tx} {v : PyData} (h : readT l = some v) : wr v = some l := by
  unfold readT at h
  cases hf : (pcs [] l).foldlM R.take R.zero with
  | none =>
    rw [hf] at h
    cases h
  | some r =>
    rw [hf] at h
    have hr := fold_ren _ (Ren.ready Pre.nil) hf
    rw [pcs_flat] at hr
    have h' : r.fin = some v := h
    unfold R.fin at h'
    cases hr with
    | ready hp =>
      cases hp with
      | nil => cases h'
      | cons _ _ => cases h'
    | top hb =>
      cases h'
      exact hb
    | inn _ _ _ => cases h'
mutual
def dep : PyData → Nat
  | .tuple ds => depAll ds + 1
  | _ => 0
def depAll : List PyData → Nat
  | [] => 0
  | d :: ds => max (dep d) (depAll ds)
end
mutual
def okI : PyData → Prop
  | .tuple ds => okIs ds
  | .int i => i.natAbs < 10 ^ 4000
  | _ => True
def okIs : List PyData → Prop
  | [] => True
  | d :: ds => okI d ∧ okIs ds
end
theorem pcs_tok : ∀ (p tok t : Tx), (∀ c ∈ p, sep c = false) → pcs tok (p ++ t) = pcs (tok ++ p) t
  | [], tok, t, _ => by simp
  | c :: p, tok, t, h => by
    show pcs tok (c :: (p ++ t)) = _
    rw [show pcs tok (c :: (p ++ t)) = if sep c then (if tok = [] then [] else [tok]) ++ [c] :: pcs [] (p ++ t) else pcs (tok ++ [c]) (p ++ t) from rfl,
      h c List.mem_cons_self, if_neg Bool.false_ne_true, pcs_tok p (tok ++ [c]) t (fun d hd => h d (List.mem_cons_of_mem _ hd))]
    simp
def Brk (t : Tx) : Prop := t = [] ∨ ∃ c t', t = c :: t' ∧ sep c = true
theorem pcs_sep {c : Nat} {t : Tx} (h : sep c = true) : pcs [] (c :: t) = [c] :: pcs [] t := by
  rw [show pcs [] (c :: t) = if sep c then (if ([] : Tx) = [] then [] else [[]]) ++ [c] :: pcs [] t else pcs ([] ++ [c]) t from rfl, h, if_pos rfl, if_pos rfl]
  rfl
theorem pcs_atom {p t : Tx} (h : ∀ c ∈ p, sep c = false) (hne : p ≠ []) (ht : Brk t) : pcs [] (p ++ t) = p :: pcs [] t := by
  rw [pcs_tok p [] t h]
  rcases ht with rfl | ⟨c, t', rfl, hc⟩
  · show (if ([] : Tx) ++ p = [] then [] else [[] ++ p]) = _
    rw [List.nil_append, if_neg hne]
    rfl
  · rw [pcs_sep hc, show pcs ([] ++ p) (c :: t') = if sep c then (if ([] : Tx) ++ p = [] then [] else [[] ++ p]) ++ [c] :: pcs [] t' else pcs ([] ++ p ++ [c]) t' from rfl, hc, if_pos rfl, List.nil_append, if_neg hne]
    rfl
theorem word_sep {p : Tx} (h : isWordT p = true) : p ≠ [] ∧ (∀ c ∈ p, sep c = false) ∧ isLet (p.headD 0) = true := by
  unfold isWordT at h
  simp only [Bool.and_eq_true, decide_eq_true_eq] at h
  obtain ⟨⟨⟨h1, h2⟩, h3⟩, h4⟩ := h
  refine ⟨List.length_pos_iff.mp h1, fun c hc => ?_, h3⟩
  have := List.all_eq_true.mp h4 c hc
  unfold isLet isDig at this
  simp only [Bool.or_eq_true, decide_eq_true_eq] at this
  unfold sep
  simp only [Bool.or_eq_false_iff, beq_eq_false_iff_ne]
  omega
theorem digs_sep (i : Int) : digs i ≠ [] ∧ (∀ c ∈ digs i, sep c = false ∧ isLet c = false ∧ c ≠ 43 ∧ c ≠ 46) ∧ digs i ≠ [45] := by
  have hs : ∀ c, (48 ≤ c ∧ c ≤ 57) ∨ c = 45 → sep c = false ∧ isLet c = false ∧ c ≠ 43 ∧ c ≠ 46 := by
    intro c hc
    unfold sep isLet
    simp only [Bool.or_eq_false_iff, beq_eq_false_iff_ne, decide_eq_false_iff_not]
    omega
  cases i with
  | ofNat m =>
    have e : digs (Int.ofNat m) = nats m := digs_nat m
    rw [e]
    refine ⟨nats_ne m, fun c hc => hs c (.inl (nats_all m c hc)), fun z => ?_⟩
    have := nats_all m 45 (by rw [z]; exact List.mem_cons_self)
    omega
  | negSucc m =>
    rw [digs_neg]
    refine ⟨List.cons_ne_nil _ _, fun c hc => ?_, fun z => ?_⟩
    · rcases List.mem_cons.mp hc with q | q
      · exact hs c (.inr q)
      · exact hs c (.inl (nats_all _ c q))
    · injection z with _ z2
      exact nats_ne _ z2
theorem digs_word (i : Int) : isWordT (digs i) = false := by
  obtain ⟨h1, h2, _⟩ := digs_sep i
  cases h : isWordT (digs i) with
  | false => rfl
  | true =>
    obtain ⟨_, _, h3⟩ := word_sep h
    cases hl : digs i with
    | nil => exact absurd hl h1
    | cons a r =>
      rw [hl] at h3
      have := (h2 a (by rw [hl]; exact List.mem_cons_self)).2.1
      have h3' : isLet a = true := h3
      rw [this] at h3'
      cases h3'
theorem atom_digs (i : Int) (h : i.natAbs < 10 ^ 4000) : atomT (digs i) = some (.int i) := by
  obtain ⟨h1, h2, h3⟩ := digs_sep i
  obtain ⟨n1, n2⟩ := num_digs i h
  unfold atomT
  rw [if_neg, if_neg h3, if_neg, digs_word, if_neg Bool.false_ne_true, n1, if_pos rfl, n2]
  · intro z
    exact (h2 46 (by rw [z]; exact List.mem_cons_self)).2.2.2 rfl
  · intro z
    exact (h2 43 (by rw [z]; exact List.mem_cons_self)).2.2.1 rfl
theorem str_back (s : Str) : (⟨s.cps.toList.toArray⟩ : Str) = s := by
  cases s
  simp
theorem atom_word (s : Str) (h : isWordT s.cps.toList = true) : atomT s.cps.toList = some (.str s) := by
  obtain ⟨h1, h2, h3⟩ := word_sep h
  have nl : ∀ c, c = 43 ∨ c = 45 ∨ c = 46 → s.cps.toList ≠ [c] := by
    intro c hc z
    rw [z] at h3
    have h3' : isLet c = true := h3
    unfold isLet at h3'
    have := of_decide_eq_true h3'
    omega
  unfold atomT
  rw [if_neg (nl 43 (.inl rfl)), if_neg (nl 45 (.inr (.inl rfl))), if_neg (nl 46 (.inr (.inr rfl))), h, if_pos rfl, str_back]
theorem take_atom {r r' : R} {p : Tx} {v : PyData} (hs : ∀ c ∈ p, sep c = false) (ha : atomT p = some v) (hi : r.item v = some r') : r.take p = some r' := by
  have np : ∀ c, sep c = true → p ≠ [c] := by
    intro c hc z
    have := hs c (by rw [z]; exact List.mem_cons_self)
    rw [hc] at this
    cases this
  unfold R.take
  rw [if_neg (np 91 (by decide)), if_neg (np 93 (by decide)), if_neg (np 44 (by decide)), ha]
  exact hi
theorem fold_atom {r r' : R} {p t : Tx} {v : PyData} (hne : p ≠ []) (hs : ∀ c ∈ p, sep c = false) (ha : atomT p = some v) (hi : r.item v = some r') (ht : Brk t) :
    (pcs [] (p ++ t)).foldlM R.take r = (pcs [] t).foldlM R.take r' := by
  rw [pcs_atom hs hne ht, List.foldlM_cons, take_atom hs ha hi]
  rfl
mutual
theorem fold_wr : ∀ (d : PyData) (l t : Tx) (r r' : R), wr d = some l → okI d → r.st.length + dep d ≤ 1000 → r.rd = true → Brk t → r.item d = some r' →
    (pcs [] (l ++ t)).foldlM R.take r = (pcs [] t).foldlM R.take r'
  | .tuple ds, l, t, r, r', hw, ho, hd, hr, ht, hi => by
    obtain ⟨j, hj, rfl⟩ : ∃ j, wrj ds = some j ∧ l = 91 :: (j ++ [93]) := by
      simp only [wr] at hw
      cases q : wrj ds with
      | none => rw [q] at hw; cases hw
      | some j => rw [q] at hw; cases hw; exact ⟨j, rfl, rfl⟩
    simp only [dep] at hd
    have e1 : (91 :: (j ++ [93])) ++ t = 91 :: (j ++ 93 :: t) := by simp
    have e2 : r.take [91] = some ⟨[] :: r.st, r.rd, r.td⟩ := by
      show r.opn = _
      unfold R.opn
      rw [if_pos ⟨hr, by omega⟩]
    rw [e1, pcs_sep (by decide), List.foldlM_cons, e2]
    show (pcs [] (j ++ 93 :: t)).foldlM R.take ⟨[] :: r.st, r.rd, r.td⟩ = _
    rw [hr]
    refine fold_wrj ds j t [] r.st r.td r' hj (by simpa [okI] using ho) (by omega) ?_ (.inl rfl)
    have e3 : r = ⟨r.st, true, r.td⟩ := by
      cases r
      simp only at hr
      rw [hr]
    rw [List.nil_append, ← e3]
    exact hi
  | .str s, l, t, r, r', hw, ho, hd, hr, ht, hi => by
    simp only [wr] at hw
    split at hw
    · rename_i h
      cases hw
      obtain ⟨h1, h2, _⟩ := word_sep h
      exact fold_atom h1 h2 (atom_word s h) hi ht
    · split at hw
      · rename_i h
        cases hw
        have es : s = ⟨#[]⟩ := by
          rw [← str_back s, h]
        subst es
        exact fold_atom (by decide) (by decide) rfl hi ht
      · cases hw
  | .bool b, l, t, r, r', hw, ho, hd, hr, ht, hi => by
    cases b with
    | true =>
      cases hw
      exact fold_atom (by decide) (by decide) rfl hi ht
    | false =>
      cases hw
      exact fold_atom (by decide) (by decide) rfl hi ht
  | .int i, l, t, r, r', hw, ho, hd, hr, ht, hi => by
    cases hw
    obtain ⟨h1, h2, _⟩ := digs_sep i
    exact fold_atom h1 (fun c hc => (h2 c hc).1) (atom_digs i (by simpa [okI] using ho)) hi ht
  | .none, l, t, r, r', hw, _, _, _, _, _ => by cases hw
  | .list _, l, t, r, r', hw, _, _, _, _, _ => by cases hw
  | .dict _, l, t, r, r', hw, _, _, _, _, _ => by cases hw
theorem fold_wrj : ∀ (ds : List PyData) (l t : Tx) (row : List PyData) (s : List (List PyData)) (td : List PyData) (r' : R), wrj ds = some l → okIs ds → s.length + 1 + depAll ds ≤ 1000 →
    R.item ⟨s, true, td⟩ (.tuple (row ++ ds)) = some r' → (row = [] ∨ ds ≠ []) → (pcs [] (l ++ 93 :: t)).foldlM R.take ⟨row :: s, true, td⟩ = (pcs [] t).foldlM R.take r'
  | [], l, t, row, s, td, r', hw, ho, hd, hi, hn => by
    cases hw
    have hr : row = [] := by
      rcases hn with h | h
      · exact h
      · exact absurd rfl h
    subst hr
    rw [List.nil_append, pcs_sep (by decide), List.foldlM_cons]
    have e : R.take ⟨[] :: s, true, td⟩ [93] = some r' := by
      unfold R.take
      rw [if_neg (by decide), if_pos rfl]
      unfold R.cls
      simp only
      rw [if_neg (by simp)]
      simpa using hi
    rw [e]
    rfl
  | d :: ds, l, t, row, s, td, r', hw, ho, hd, hi, hn => by
    simp only [wrj] at hw
    cases ha : wr d with
    | none => rw [ha] at hw; cases hw
    | some a =>
      rw [ha] at hw
      cases hb : wrj ds with
      | none => rw [hb] at hw; cases hw
      | some b =>
        rw [hb] at hw
        simp only [Option.bind_some, Option.map_some] at hw
        simp only [okIs] at ho
        simp only [depAll] at hd
        have it : R.item ⟨row :: s, true, td⟩ d = some ⟨(row ++ [d]) :: s, false, td⟩ := rfl
        cases ds with
        | nil =>
          have el : l = a := by simpa using hw.symm
          subst el
          rw [fold_wr d l (93 :: t) ⟨row :: s, true, td⟩ _ ha ho.1 (by simp only [List.length_cons]; omega) rfl (.inr ⟨93, t, rfl, by decide⟩) it]
          rw [pcs_sep (by decide), List.foldlM_cons]
          have e : R.take ⟨(row ++ [d]) :: s, false, td⟩ [93] = some r' := by
            unfold R.take
            rw [if_neg (by decide), if_pos rfl]
            unfold R.cls
            simp only
            rw [if_neg (by simp)]
            exact hi
          rw [e]
          rfl
        | cons d2 ds2 =>
          have el : l = a ++ 44 :: b := by simpa using hw.symm
          subst el
          have e1 : (a ++ 44 :: b) ++ 93 :: t = a ++ (44 :: (b ++ 93 :: t)) := by simp
          rw [e1, fold_wr d a (44 :: (b ++ 93 :: t)) ⟨row :: s, true, td⟩ _ ha ho.1 (by simp only [List.length_cons]; omega) rfl (.inr ⟨44, _, rfl, by decide⟩) it]
          rw [pcs_sep (by decide), List.foldlM_cons]
          have e : R.take ⟨(row ++ [d]) :: s, false, td⟩ [44] = some ⟨(row ++ [d]) :: s, true, td⟩ := rfl
          rw [e]
          show (pcs [] (b ++ 93 :: t)).foldlM R.take ⟨(row ++ [d]) :: s, true, td⟩ = _
          refine fold_wrj (d2 :: ds2) b t (row ++ [d]) s td r' hb ho.2 (by omega) ?_ (.inr (List.cons_ne_nil _ _))
          rw [List.append_assoc]
          exact hi
end
theorem wr_read {d : PyData} {l : Tx} (h : wr d = some l) (ho : okI d) (hd : dep d ≤ 1000) : readT l = some d := by
  have := fold_wr d l [] R.zero ⟨[], false, [d]⟩ h ho (by simpa [R.zero] using hd) rfl (.inl rfl) rfl
  unfold readT
  rw [List.append_nil] at this
  rw [this]
  rfl
end DataM

set_option exponentiation.threshold 256
set_option Elab.async false
set_option linter.all false
set_option maxRecDepth 100000
set_option maxHeartbeats 4000000
set_option exponentiation.threshold 10
namespace DataM
open PySem PySem.NumText
def wt (c : Nat) : Int := if c = 91 then 1 else if c = 93 then -1 else 0
def sm : Tx → Int
  | [] => 0
  | c :: l => wt c + sm l
def mb : Tx → Int
  | [] => 0
  | c :: l => max 0 (wt c + mb l)
theorem wt_le (c : Nat) : -1 ≤ wt c ∧ wt c ≤ 1 := by
  unfold wt
  split
  · omega
  · split <;> omega
theorem mb_nonneg : ∀ l, 0 ≤ mb l
  | [] => Int.le_refl 0
  | c :: l => by
    simp only [mb]
    omega
theorem sm_app : ∀ a b, sm (a ++ b) = sm a + sm b
  | [], b => by simp [sm]
  | c :: a, b => by
    rw [List.cons_append]
    simp only [sm, sm_app a b]
    omega
theorem mb_app : ∀ a b, mb (a ++ b) = max (mb a) (sm a + mb b)
  | [], b => by
    have := mb_nonneg b
    simp only [List.nil_append, mb, sm]
    omega
  | c :: a, b => by
    rw [List.cons_append]
    simp only [mb, sm, mb_app a b]
    omega
theorem flat0 : ∀ {l : Tx}, (∀ c ∈ l, sep c = false) → sm l = 0 ∧ mb l = 0
  | [], _ => ⟨rfl, rfl⟩
  | c :: l, h => by
    have h1 := h c List.mem_cons_self
    have h2 := flat0 (l := l) fun x hx => h x (List.mem_cons_of_mem _ hx)
    have e : wt c = 0 := by
      unfold wt
      rw [if_neg (by intro z; subst z; cases h1), if_neg (by intro z; subst z; cases h1)]
    simp only [sm, mb, e]
    omega
mutual
theorem mb_wr : ∀ (d : PyData) (l : Tx), wr d = some l → sm l = 0 ∧ mb l = (dep d : Int)
  | .tuple ds, l, h => by
    simp only [wr] at h
    cases hx : wrj ds with
    | none =>
      rw [hx] at h
      cases h
    | some x =>
      rw [hx] at h
      cases h
      have ih := mb_wrj ds x hx
      have e1 : wt 91 = 1 := rfl
      have e2 : wt 93 = -1 := rfl
      show sm (91 :: (x ++ [93])) = 0 ∧ mb (91 :: (x ++ [93])) = _
      simp only [sm, mb, sm_app, mb_app, dep, e1, e2]
      omega
  | .str s, l, h => by
    simp only [wr] at h
    split at h
    · rename_i hw
      cases h
      have := flat0 (word_sep hw).2.1
      simp only [dep]
      omega
    · split at h
      · cases h
        simp only [dep]
        exact ⟨rfl, rfl⟩
      · cases h
  | .bool b, l, h => by
    simp only [wr] at h
    cases h
    cases b <;> exact ⟨rfl, rfl⟩
  | .int i, l, h => by
    simp only [wr] at h
    cases h
    have := flat0 fun c hc => ((digs_sep i).2.1 c hc).1
    simp only [dep]
    omega
  | .none, _, h => by cases h
  | .list _, _, h => by cases h
  | .dict _, _, h => by cases h
theorem mb_wrj : ∀ (ds : List PyData) (l : Tx), wrj ds = some l → sm l = 0 ∧ mb l = (depAll ds : Int)
  | [], l, h => by
    simp only [wrj] at h
    cases h
    exact ⟨rfl, rfl⟩
  | d :: ds, l, h => by
    simp only [wrj] at h
    cases ha : wr d with
    | none =>
      rw [ha] at h
      cases h
    | some a =>
      cases hb : wrj ds with
      | none =>
        rw [ha, hb] at h
        cases h
      | some b =>
        rw [ha, hb] at h
        have i1 := mb_wr d a ha
        have i2 := mb_wrj ds b hb
        have e1 : wt 44 = 0 := rfl
        cases ds with
        | nil =>
          simp at h
          subst h
          simp only [depAll]
          omega
        | cons d2 ds =>
          simp at h
          subst h
          simp only [sm, mb, sm_app, mb_app, depAll, e1] at *
          omega
end
theorem mb_cons (c : Nat) (l : Tx) : mb (c :: l) ≤ mb l + 1 ∧ mb l ≤ mb (c :: l) + 1 := by
  have h1 := wt_le c
  have h2 := mb_nonneg l
  simp only [mb]
  omega
theorem mb_ins (a : Tx) (c : Nat) (b : Tx) : mb (a ++ c :: b) ≤ mb (a ++ b) + 1 := by
  rw [mb_app, mb_app]
  have := mb_cons c b
  omega
theorem mb_del (a : Tx) (c : Nat) (b : Tx) : mb (a ++ b) ≤ mb (a ++ c :: b) + 1 := by
  rw [mb_app, mb_app]
  have := mb_cons c b
  omega
theorem sm_pre (a b : Tx) : sm a ≤ mb (a ++ b) := by
  rw [mb_app]
  have := mb_nonneg b
  omega
def Runs (M : Nat) (l : Tx) : Prop := ∀ a p b, l = a ++ p ++ b → (∀ c ∈ p, sep c = false) → p.length ≤ M
theorem Runs.sub {M : Nat} {a l b : Tx} (h : Runs M (a ++ l ++ b)) : Runs M l := fun x p y e hp => h (a ++ x) p (y ++ b) (by rw [e]; simp) hp
theorem Runs.app {M N : Nat} {a b : Tx} (h : Runs M a) (k : Runs N b) : Runs (M + N) (a ++ b) := fun x p y e hp => by
  rw [List.append_assoc] at e
  rcases List.append_eq_append_iff.mp e with ⟨z, e1, e2⟩ | ⟨z, e1, e2⟩
  · have := k z p y (by rw [e2, List.append_assoc]) hp
    omega
  · rcases List.append_eq_append_iff.mp e2 with ⟨u, e3, e4⟩ | ⟨u, e3, e4⟩
    · have := h x p u (by rw [e1, e3]; simp) hp
      omega
    · have h1 := h x z [] (by rw [e1]; simp) fun c hc => hp c (by rw [e3]; exact List.mem_append_left _ hc)
      have h2 := k [] u y (by rw [e4]; rfl) fun c hc => hp c (by rw [e3]; exact List.mem_append_right _ hc)
      rw [e3, List.length_append]
      omega
theorem Runs.sep {M : Nat} {a b : Tx} {s : Nat} (hs : sep s = true) (h : Runs M a) (k : Runs M b) : Runs M (a ++ s :: b) := fun x p y e hp => by
  rw [List.append_assoc] at e
  rcases List.append_eq_append_iff.mp e with ⟨z, e1, e2⟩ | ⟨z, e1, e2⟩
  · cases z with
    | nil =>
      cases p with
      | nil => simp
      | cons c p =>
        have e3 : s = c := by
          simp at e2
          exact e2.1
        have := hp c List.mem_cons_self
        rw [← e3, hs] at this
        cases this
    | cons c z =>
      have e3 : b = z ++ (p ++ y) := by
        simp at e2
        exact e2.2
      exact k z p y (by rw [e3, List.append_assoc]) hp
  · rcases List.append_eq_append_iff.mp e2 with ⟨u, e3, e4⟩ | ⟨u, e3, e4⟩
    · exact h x p u (by rw [e1, e3]; simp) hp
    · cases u with
      | nil => exact h x p [] (by rw [e1, e3]; simp) hp
      | cons c u =>
        have e5 : s = c := by
          simp at e4
          exact e4.1
        have := hp c (by rw [e3]; simp)
        rw [← e5, hs] at this
        cases this
theorem Runs.of_len {M : Nat} {l : Tx} (h : l.length ≤ M) : Runs M l := fun a p b e _ => by
  rw [e] at h
  simp at h
  omega
theorem Runs.mono {M N : Nat} {l : Tx} (h : Runs M l) (k : M ≤ N) : Runs N l := fun a p b e hp => Nat.le_trans (h a p b e hp) k
theorem Runs.take {M : Nat} {l : Tx} (h : Runs M l) (i : Nat) : Runs M (l.take i) := fun a p b e hp => h a p (b ++ l.drop i) (by rw [← List.append_assoc, ← e, List.take_append_drop]) hp
theorem Runs.drop {M : Nat} {l : Tx} (h : Runs M l) (i : Nat) : Runs M (l.drop i) := fun a p b e hp => h (l.take i ++ a) p b (by
  have e2 : l = l.take i ++ l.drop i := (List.take_append_drop i l).symm
  rw [e] at e2
  simpa [List.append_assoc] using e2) hp
theorem val_lt : ∀ (cs : Tx) (a : Nat), AllDigits cs → cs.foldl (fun acc c => acc * 10 + (c - 48)) a < (a + 1) * 10 ^ cs.length
  | [], a, _ => by simp
  | c :: cs, a, h => by
    have hc := h.head
    have ih := val_lt cs (a * 10 + (c - 48)) h.tail
    rw [List.foldl_cons, List.length_cons, Nat.pow_succ]
    refine Nat.lt_of_lt_of_le ih ?_
    have : a * 10 + (c - 48) + 1 ≤ (a + 1) * 10 := by omega
    calc (a * 10 + (c - 48) + 1) * 10 ^ cs.length ≤ ((a + 1) * 10) * 10 ^ cs.length := Nat.mul_le_mul_right _ this
      _ = (a + 1) * (10 ^ cs.length * 10) := by rw [Nat.mul_assoc, Nat.mul_comm 10]
theorem nats_lt (m k : Nat) (h : (nats m).length ≤ k) : m < 10 ^ k := by
  have h1 := val_lt (nats m) 0 (nats_all m)
  have h2 : digitsVal (nats m) = m := nats_val m
  unfold digitsVal at h2
  rw [h2] at h1
  have : 10 ^ (nats m).length ≤ 10 ^ k := Nat.pow_le_pow_right (by decide) h
  omega
theorem digs_lt (i : Int) (k : Nat) (h : (digs i).length ≤ k) : i.natAbs < 10 ^ k := by
  cases i with
  | ofNat m =>
    rw [show (Int.ofNat m) = (m : Int) from rfl, digs_nat] at h
    exact nats_lt m k h
  | negSucc m =>
    rw [digs_neg] at h
    show m + 1 < 10 ^ k
    refine nats_lt (m + 1) k ?_
    simp at h
    omega
mutual
def intsB (M : Nat) : PyData → Prop
  | .tuple ds => intsBs M ds
  | .int i => i.natAbs < 10 ^ M
  | _ => True
def intsBs (M : Nat) : List PyData → Prop
  | [] => True
  | d :: ds => intsB M d ∧ intsBs M ds
end
mutual
theorem wr_ints {M : Nat} : ∀ (d : PyData) (l : Tx), wr d = some l → Runs M l → intsB M d
  | .tuple ds, l, h, k => by
    simp only [wr] at h
    cases hx : wrj ds with
    | none =>
      rw [hx] at h
      cases h
    | some x =>
      rw [hx] at h
      cases h
      simp only [intsB]
      exact wrj_ints ds x hx (Runs.sub (a := [91]) (b := [93]) k)
  | .int i, l, h, k => by
    simp only [wr] at h
    cases h
    simp only [intsB]
    exact digs_lt i M (k [] (digs i) [] (by simp) fun c hc => ((digs_sep i).2.1 c hc).1)
  | .str s, l, h, k => by simp only [intsB]
  | .bool b, l, h, k => by simp only [intsB]
  | .none, _, h, _ => by cases h
  | .list _, _, h, _ => by cases h
  | .dict _, _, h, _ => by cases h
theorem wrj_ints {M : Nat} : ∀ (ds : List PyData) (l : Tx), wrj ds = some l → Runs M l → intsBs M ds
  | [], l, h, k => by simp only [intsBs]
  | d :: ds, l, h, k => by
    simp only [wrj] at h
    cases ha : wr d with
    | none =>
      rw [ha] at h
      cases h
    | some a =>
      cases hb : wrj ds with
      | none =>
        rw [ha, hb] at h
        cases h
      | some b =>
        rw [ha, hb] at h
        simp only [intsBs]
        cases ds with
        | nil =>
          simp at h
          subst h
          exact ⟨wr_ints d a ha k, by simp only [intsBs]⟩
        | cons d2 ds =>
          simp at h
          subst h
          exact ⟨wr_ints d a ha (Runs.sub (a := []) (b := 44 :: b) (by simpa using k)), wrj_ints (d2 :: ds) b hb (Runs.sub (a := a ++ [44]) (b := []) (by simpa using k))⟩
end
end DataM

set_option exponentiation.threshold 256
set_option Elab.async false
set_option linter.all false
set_option maxRecDepth 100000
set_option maxHeartbeats 4000000
set_option exponentiation.threshold 10
namespace DataM
open PySem PySem.NumText
structure LS where
  rows : List (List PyData)
  dn : Option PyData
  tok : Tx
  ah : Bool
def LS.flush (s : LS) : Option LS := if s.tok = [] then some s else (atomT s.tok).bind fun v => if s.ah = true then some ⟨s.rows, some v, [], false⟩ else none
def LS.act (s : LS) (c : Nat) : Option LS :=
  if c = 91 then (if s.ah = true then some ⟨[] :: s.rows, s.dn, s.tok, s.ah⟩ else none)
  else if c = 44 then (match s.ah, s.rows, s.dn with
    | false, row :: rest, some v => some ⟨(row ++ [v]) :: rest, s.dn, s.tok, true⟩
    | _, _, _ => none)
  else if c = 93 then (match s.rows with
    | [] => none
    | row :: rest => if s.ah = true ∧ row ≠ [] then none else some ⟨rest, some (.tuple (row ++ (if s.ah = true then [] else s.dn.toList))), s.tok, false⟩)
  else some s
def cut (c : Nat) : Bool := sep c || c == 59
def LS.step (s : LS) (c : Nat) : Option LS := if cut c = true then s.flush.bind fun s => s.act c else some ⟨s.rows, s.dn, s.tok ++ [c], s.ah⟩
def LS.zero : LS := ⟨[], none, [], true⟩
def LS.fin (s : LS) : Option PyData := if s.rows = [] ∧ s.ah = false then s.dn else none
def lr (l : Tx) : Option PyData := ((l ++ [59]).foldlM LS.step LS.zero).bind LS.fin
structure Sim (s : LS) (r : R) : Prop where
  rd : r.rd = s.ah
  yes : s.ah = true → r.st = s.rows ∧ r.td = []
  no : s.ah = false → ∃ v, s.dn = some v ∧ ((s.rows = [] ∧ r.st = [] ∧ r.td = [v]) ∨ ∃ row rest, s.rows = row :: rest ∧ r.st = (row ++ [v]) :: rest ∧ r.td = [])
theorem Sim.len {s : LS} {r : R} (h : Sim s r) : r.st.length = s.rows.length := by
  cases e : s.ah with
  | true => rw [(h.yes e).1]
  | false =>
    obtain ⟨v, _, ⟨h1, h2, _⟩ | ⟨row, rest, h1, h2, _⟩⟩ := h.no e
    · rw [h1, h2]
    · rw [h1, h2]
      simp
def Both (o : Option LS) (p : Option R) (n : Int) : Prop := (o = none ∧ p = none) ∨ ∃ s r, o = some s ∧ p = some r ∧ Sim s r ∧ s.tok = [] ∧ (s.rows.length : Int) = n
theorem item_sim {s : LS} {r : R} {v : PyData} {t : Tx} (h : Sim s r) : (s.ah = false ∧ r.item v = none) ∨ (s.ah = true ∧ ∃ r', r.item v = some r' ∧ Sim ⟨s.rows, some v, t, false⟩ r') := by
  cases e : s.ah with
  | false =>
    refine .inl ⟨rfl, ?_⟩
    unfold R.item
    rw [h.rd, e]
    rfl
  | true =>
    refine .inr ⟨rfl, ?_⟩
    obtain ⟨h1, h2⟩ := h.yes e
    unfold R.item
    rw [h.rd, e, h1, h2]
    cases hr : s.rows with
    | nil => exact ⟨_, rfl, rfl, fun z => (by cases z), fun _ => ⟨v, rfl, .inl ⟨rfl, rfl, rfl⟩⟩⟩
    | cons row rest => exact ⟨_, rfl, rfl, fun z => (by cases z), fun _ => ⟨v, rfl, .inr ⟨row, rest, rfl, rfl, rfl⟩⟩⟩
theorem take_tok {r : R} {p : Tx} (h : ∀ c ∈ p, sep c = false) : r.take p = (atomT p).bind r.item := by
  have ne : ∀ c, sep c = true → ¬ p = [c] := fun c hc e => by
    rw [e] at h
    rw [h c List.mem_cons_self] at hc
    cases hc
  unfold R.take
  rw [if_neg (ne 91 rfl), if_neg (ne 93 rfl), if_neg (ne 44 rfl)]
theorem flush_sim {s : LS} {r : R} (h : Sim s r) (ht : ∀ c ∈ s.tok, sep c = false) (hne : s.tok ≠ []) : Both s.flush (r.take s.tok) s.rows.length := by
  rw [take_tok ht]
  unfold LS.flush
  rw [if_neg hne]
  cases ha : atomT s.tok with
  | none => exact .inl ⟨rfl, rfl⟩
  | some v =>
    rcases item_sim (v := v) (t := []) h with ⟨e, k⟩ | ⟨e, r', k, hs⟩
    · refine .inl ⟨?_, k⟩
      show (if s.ah = true then _ else none) = none
      rw [e]
      rfl
    · refine .inr ⟨_, r', ?_, k, hs, rfl, rfl⟩
      show (if s.ah = true then _ else none) = _
      rw [e]
      rfl
theorem act_sim {s : LS} {r : R} {c : Nat} (h : Sim s r) (ht : s.tok = []) (hc : sep c = true) (hl : s.rows.length < 1000) : Both (s.act c) (r.take [c]) (s.rows.length + wt c) := by
  have hlen := h.len
  have hcc : c = 91 ∨ c = 93 ∨ c = 44 := by
    unfold sep at hc
    simp only [Bool.or_eq_true, beq_iff_eq] at hc
    omega
  rcases hcc with rfl | rfl | rfl
  · show Both (if s.ah = true then _ else none) r.opn _
    unfold R.opn
    cases e : s.ah with
    | false =>
      refine .inl ⟨rfl, ?_⟩
      rw [if_neg (by rw [h.rd, e]; simp)]
    | true =>
      obtain ⟨h1, h2⟩ := h.yes e
      refine .inr ⟨_, _, if_pos rfl, if_pos ⟨by rw [h.rd, e], by omega⟩, ⟨by rw [h.rd, e], fun _ => ⟨by rw [h1], h2⟩, fun z => (by cases z)⟩, ht, ?_⟩
      show (([] :: s.rows).length : Int) = s.rows.length + 1
      simp
  · show Both (match s.rows with
      | [] => none
      | row :: rest => if s.ah = true ∧ row ≠ [] then none else some ⟨rest, some (.tuple (row ++ (if s.ah = true then [] else s.dn.toList))), s.tok, false⟩) r.cls _
    unfold R.cls
    have close : ∀ (row : List PyData) (rest : List (List PyData)) (new : List PyData), s.rows = row :: rest → Both (some ⟨rest, some (.tuple new), s.tok, false⟩) (R.item ⟨rest, true, []⟩ (.tuple new)) (s.rows.length + wt 93) := fun row rest new hr => by
      have hs0 : Sim ⟨rest, none, [], true⟩ ⟨rest, true, []⟩ := ⟨rfl, fun _ => ⟨rfl, rfl⟩, fun z => (by cases z)⟩
      rcases item_sim (v := .tuple new) (t := s.tok) hs0 with ⟨e, _⟩ | ⟨_, r', k, hs⟩
      · cases e
      · refine .inr ⟨_, r', rfl, k, hs, ht, ?_⟩
        show ((rest.length : Nat) : Int) = _
        rw [hr, show wt 93 = -1 from rfl, List.length_cons]
        omega
    cases e : s.ah with
    | true =>
      obtain ⟨h1, h2⟩ := h.yes e
      rw [h1, h2]
      cases hr : s.rows with
      | nil => exact .inl ⟨rfl, rfl⟩
      | cons row rest =>
        rw [h.rd, e]
        by_cases hrow : row ≠ []
        · refine .inl ⟨if_pos ⟨rfl, hrow⟩, if_pos ⟨rfl, hrow⟩⟩
        · have e1 : (if (true = true ∧ row ≠ []) then none else some (⟨rest, some (.tuple (row ++ (if true = true then [] else s.dn.toList))), s.tok, false⟩ : LS)) = some ⟨rest, some (.tuple row), s.tok, false⟩ := by
            rw [if_neg (fun z => hrow z.2), if_pos rfl, List.append_nil]
          have e2 : (if (true = true ∧ row ≠ []) then none else R.item ⟨rest, true, []⟩ (.tuple row)) = R.item ⟨rest, true, []⟩ (.tuple row) := if_neg (fun z => hrow z.2)
          show Both (if (true = true ∧ row ≠ []) then none else some (⟨rest, some (.tuple (row ++ (if true = true then [] else s.dn.toList))), s.tok, false⟩ : LS)) (if (true = true ∧ row ≠ []) then none else R.item ⟨rest, true, []⟩ (.tuple row)) _
          rw [e1, e2, ← hr]
          exact close row rest row hr
    | false =>
      obtain ⟨v, hd, ⟨h1, h2, h3⟩ | ⟨row, rest, h1, h2, h3⟩⟩ := h.no e
      · rw [h1, h2]
        exact .inl ⟨rfl, rfl⟩
      · rw [h1, h2, h3, h.rd, e, hd]
        have e1 : (if (false = true ∧ row ≠ []) then none else some (⟨rest, some (.tuple (row ++ (if false = true then [] else (some v).toList))), s.tok, false⟩ : LS)) = some ⟨rest, some (.tuple (row ++ [v])), s.tok, false⟩ := by
          rw [if_neg (fun z => Bool.false_ne_true z.1), if_neg Bool.false_ne_true]
          rfl
        have e2 : (if (false = true ∧ row ++ [v] ≠ []) then none else R.item ⟨rest, true, []⟩ (.tuple (row ++ [v]))) = R.item ⟨rest, true, []⟩ (.tuple (row ++ [v])) := if_neg (fun z => Bool.false_ne_true z.1)
        show Both (if (false = true ∧ row ≠ []) then none else some (⟨rest, some (.tuple (row ++ (if false = true then [] else (some v).toList))), s.tok, false⟩ : LS)) (if (false = true ∧ row ++ [v] ≠ []) then none else R.item ⟨rest, true, []⟩ (.tuple (row ++ [v]))) _
        rw [e1, e2, ← h1]
        exact close row rest (row ++ [v]) h1
  · show Both (match s.ah, s.rows, s.dn with
      | false, row :: rest, some v => some ⟨(row ++ [v]) :: rest, s.dn, s.tok, true⟩
      | _, _, _ => none) r.com _
    unfold R.com
    cases e : s.ah with
    | true =>
      refine .inl ⟨rfl, ?_⟩
      rw [if_pos (.inl (by rw [h.rd, e]))]
    | false =>
      obtain ⟨v, hd, ⟨h1, h2, h3⟩ | ⟨row, rest, h1, h2, h3⟩⟩ := h.no e
      · refine .inl ⟨?_, ?_⟩
        · rw [h1]
        · rw [if_pos (.inr h2)]
      · rw [h1, hd, h2, if_neg (by rw [h.rd, e]; simp)]
        refine .inr ⟨_, _, rfl, rfl, ⟨rfl, fun _ => ⟨rfl, h3⟩, fun z => (by cases z)⟩, ht, ?_⟩
        rw [show wt 44 = 0 from rfl]
        simp
theorem fin_sim {s : LS} {r : R} (h : Sim s r) : R.fin r = LS.fin s := by
  unfold R.fin LS.fin
  cases e : s.ah with
  | true =>
    obtain ⟨h1, h2⟩ := h.yes e
    rw [h2, if_neg (by simp)]
    cases r.st <;> rfl
  | false =>
    obtain ⟨v, hd, ⟨h1, h2, h3⟩ | ⟨row, rest, h1, h2, h3⟩⟩ := h.no e
    · rw [h2, h3, h1, hd]
      rfl
    · rw [h2, h1, if_neg (by simp)]
theorem pcs_cons' (tok : Tx) (c : Nat) (r : Tx) : pcs tok (c :: r) = if sep c then (if tok = [] then [] else [tok]) ++ [c] :: pcs [] r else pcs (tok ++ [c]) r := by
  rw [pcs]
theorem pcs_nil' (tok : Tx) : pcs tok [] = if tok = [] then [] else [tok] := by
  rw [pcs]
theorem run_sim : ∀ (l : Tx) (s : LS) (r : R), Sim s r → (∀ c ∈ s.tok, sep c = false) → (∀ c ∈ l, c ≠ 59) → s.rows.length + mb l ≤ 999 →
    ((pcs s.tok l).foldlM R.take r).bind R.fin = ((l ++ [59]).foldlM LS.step s).bind LS.fin
  | [], s, r, h, ht, _, _ => by
    show _ = (([59] : Tx).foldlM LS.step s).bind LS.fin
    have hstep : LS.step s 59 = s.flush.bind fun s => s.act 59 := rfl
    have hact : ∀ s : LS, s.act 59 = some s := fun s => rfl
    have e1 : (([59] : Tx).foldlM LS.step s) = s.flush := by
      show (LS.step s 59).bind (fun s' => some s') = _
      rw [hstep]
      cases s.flush with
      | none => rfl
      | some s' => exact congrArg (fun o : Option LS => o.bind fun s' => some s') (hact s')
    rw [e1, pcs_nil']
    by_cases hn : s.tok = []
    · rw [if_pos hn]
      unfold LS.flush
      rw [if_pos hn]
      exact fin_sim h
    · rw [if_neg hn]
      have e2 : ([s.tok].foldlM R.take r) = r.take s.tok := by
        show (r.take s.tok).bind (fun s' => some s') = _
        cases r.take s.tok <;> rfl
      rw [e2]
      rcases flush_sim h ht hn with ⟨k1, k2⟩ | ⟨s', r', k1, k2, k3, _⟩
      · rw [k1, k2]
        rfl
      · rw [k1, k2]
        exact fin_sim k3
  | c :: l, s, r, h, ht, hl, hb => by
    have hl2 : ∀ c ∈ l, c ≠ 59 := fun x hx => hl x (List.mem_cons_of_mem _ hx)
    have hc59 : c ≠ 59 := hl c List.mem_cons_self
    have hmb := mb_nonneg l
    have hwt := wt_le c
    simp only [mb] at hb
    rw [List.cons_append, pcs_cons', List.foldlM_cons]
    cases hs : sep c with
    | false =>
      have hcut : cut c = false := by
        unfold cut
        rw [hs, beq_eq_false_iff_ne.mpr hc59]
        rfl
      have hst : LS.step s c = some ⟨s.rows, s.dn, s.tok ++ [c], s.ah⟩ := by
        unfold LS.step
        rw [hcut]
        rfl
      rw [hst]
      have hw0 : wt c = 0 := by
        unfold wt
        rw [if_neg (by intro z; subst z; cases hs), if_neg (by intro z; subst z; cases hs)]
      show ((pcs (s.tok ++ [c]) l).foldlM R.take r).bind R.fin = ((l ++ [59]).foldlM LS.step ⟨s.rows, s.dn, s.tok ++ [c], s.ah⟩).bind LS.fin
      refine run_sim l ⟨s.rows, s.dn, s.tok ++ [c], s.ah⟩ r ⟨h.rd, h.yes, h.no⟩ (fun x hx => ?_) hl2 (by show (s.rows.length : Int) + mb l ≤ 999; omega)
      rcases List.mem_append.mp hx with hx | hx
      · exact ht x hx
      · rw [List.mem_singleton.mp hx]
        exact hs
    | true =>
      have hcut : cut c = true := by
        unfold cut
        rw [hs]
        rfl
      have hst : LS.step s c = s.flush.bind fun s => s.act c := by
        unfold LS.step
        rw [hcut]
        rfl
      rw [hst, if_pos rfl]
      have go : ∀ (s : LS) (r : R), Sim s r → s.tok = [] → s.rows.length + max 0 (wt c + mb l) ≤ 999 → (([c] :: pcs [] l).foldlM R.take r).bind R.fin = ((s.act c).bind fun s' => (l ++ [59]).foldlM LS.step s').bind LS.fin := fun s r h htok hb => by
        rw [List.foldlM_cons]
        have hlen : s.rows.length < 1000 := by omega
        rcases act_sim h htok hs hlen with ⟨k1, k2⟩ | ⟨s', r', k1, k2, k3, k4, k5⟩
        · rw [k1, k2]
          rfl
        · rw [k1, k2]
          have := run_sim l s' r' k3 (by rw [k4]; intro x hx; cases hx) hl2 (by omega)
          rw [k4] at this
          exact this
      by_cases hn : s.tok = []
      · rw [if_pos hn]
        unfold LS.flush
        rw [if_pos hn]
        exact go s r h hn hb
      · rw [if_neg hn]
        show ((s.tok :: [c] :: pcs [] l).foldlM R.take r).bind R.fin = _
        rw [List.foldlM_cons]
        rcases flush_sim h ht hn with ⟨k1, k2⟩ | ⟨s', r', k1, k2, k3, k4, k5⟩
        · rw [k1, k2]
          rfl
        · rw [k1, k2]
          exact go s' r' k3 k4 (by omega)
theorem lr_eq {l : Tx} (h1 : ∀ c ∈ l, c ≠ 59) (h2 : mb l ≤ 999) : readT l = lr l :=
  run_sim l LS.zero R.zero ⟨rfl, fun _ => ⟨rfl, rfl⟩, fun z => (by cases z)⟩ (fun c hc => (by cases hc)) h1 (by show ((0 : Nat) : Int) + mb l ≤ 999; omega)
mutual
def okP : PyData → Prop
  | .tuple ds => okPs ds
  | .str s => ∀ c ∈ s.cps.toList, c < 1114112
  | .bool _ => True
  | .int _ => True
  | _ => False
def okPs : List PyData → Prop
  | [] => True
  | d :: ds => okP d ∧ okPs ds
end
mutual
theorem okP_fz : ∀ d : PyData, okP d → Lay.fz d = true
  | .tuple ds, h => by
    simp only [okP] at h
    simp only [Lay.fz]
    exact okPs_fz ds h
  | .str _, _ | .bool _, _ | .int _, _ => by simp only [Lay.fz]
  | .none, h | .list _, h | .dict _, h => by simp only [okP] at h
theorem okPs_fz : ∀ ds : List PyData, okPs ds → Lay.fzAll ds = true
  | [], _ => rfl
  | d :: ds, h => by
    simp only [okPs] at h
    simp only [Lay.fzAll, okP_fz d h.1, okPs_fz ds h.2, Bool.and_self]
end
mutual
theorem okP_lay : ∀ d : PyData, okP d → d.canLay0 = true ∧ d.depth = dep d
  | .tuple ds, h => by
    simp only [okP] at h
    have := okPs_lay ds h
    simp only [PyData.canLay0, PyData.depth, dep]
    exact ⟨this.1, by rw [this.2]⟩
  | .str s, h => by
    simp only [okP] at h
    refine ⟨?_, rfl⟩
    show PyData.strOk s = true
    unfold PyData.strOk
    rw [← Array.all_toList, List.all_eq_true]
    exact fun c hc => decide_eq_true (h c hc)
  | .bool _, _ | .int _, _ => ⟨rfl, rfl⟩
  | .none, h | .list _, h | .dict _, h => by simp only [okP] at h
theorem okPs_lay : ∀ ds : List PyData, okPs ds → PyData.canLayAll0 ds = true ∧ PyData.depthAll ds = depAll ds
  | [], _ => ⟨rfl, rfl⟩
  | d :: ds, h => by
    simp only [okPs] at h
    have h1 := okP_lay d h.1
    have h2 := okPs_lay ds h.2
    simp only [PyData.canLayAll0, PyData.depthAll, depAll]
    exact ⟨by rw [h1.1, h2.1]; rfl, by rw [h1.2, h2.2]⟩
end
theorem okPs_app : ∀ {xs ys : List PyData}, okPs xs → okPs ys → okPs (xs ++ ys)
  | [], _, _, h => h
  | x :: xs, ys, h, k => by
    simp only [okPs, List.cons_append] at h ⊢
    exact ⟨h.1, okPs_app h.2 k⟩
theorem depAll_app : ∀ {xs ys : List PyData}, depAll (xs ++ ys) = max (depAll xs) (depAll ys)
  | [], ys => by simp [depAll]
  | x :: xs, ys => by
    rw [List.cons_append]
    simp only [depAll, depAll_app (xs := xs) (ys := ys)]
    omega
theorem word_small {p : Tx} (h : isWordT p = true) : ∀ c ∈ p, c < 1114112 := by
  unfold isWordT at h
  simp only [Bool.and_eq_true, decide_eq_true_eq, List.all_eq_true, Bool.or_eq_true] at h
  intro c hc
  have := h.2 c hc
  unfold isLet isDig at this
  simp only [decide_eq_true_eq] at this
  omega
theorem atom_okP {p : Tx} {v : PyData} (h : atomT p = some v) : okP v ∧ dep v = 0 := by
  unfold atomT at h
  repeat' split at h
  all_goals first
    | (cases h; exact ⟨trivial, rfl⟩)
    | (cases h; refine ⟨fun c hc => ?_, rfl⟩; first | exact word_small (by assumption) c hc | cases hc)
    | cases h
mutual
theorem wr_okP : ∀ (d : PyData) (l : Tx), wr d = some l → okP d
  | .tuple ds, l, h => by
    simp only [wr] at h
    cases hx : wrj ds with
    | none =>
      rw [hx] at h
      cases h
    | some x =>
      simp only [okP]
      exact wrj_okP ds x hx
  | .str s, l, h => by
    simp only [wr] at h
    simp only [okP]
    split at h
    · rename_i hw
      exact word_small hw
    · split at h
      · rename_i he
        rw [he]
        intro c hc
        cases hc
      · cases h
  | .bool _, _, _ | .int _, _, _ => by simp only [okP]
  | .none, _, h | .list _, _, h | .dict _, _, h => by cases h
theorem wrj_okP : ∀ (ds : List PyData) (l : Tx), wrj ds = some l → okPs ds
  | [], _, _ => by simp only [okPs]
  | d :: ds, l, h => by
    simp only [wrj] at h
    cases ha : wr d with
    | none =>
      rw [ha] at h
      cases h
    | some a =>
      cases hb : wrj ds with
      | none =>
        rw [ha, hb] at h
        cases h
      | some b =>
        simp only [okPs]
        exact ⟨wr_okP d a ha, wrj_okP ds b hb⟩
end
def rowsD (B : Nat) : List (List PyData) → Prop
  | [] => True
  | row :: rest => depAll row + rest.length + 1 ≤ B ∧ okPs row ∧ rowsD B rest
structure LD (B : Nat) (s : LS) (rest : Tx) : Prop where
  rows : rowsD B s.rows
  dn : s.ah = false → ∃ v, s.dn = some v ∧ dep v + s.rows.length ≤ B ∧ okP v
  bal : (s.rows.length : Int) + mb rest ≤ B
theorem LD.flush {B : Nat} {s s' : LS} {rest : Tx} (h : LD B s rest) (e : s.flush = some s') : LD B s' rest ∧ s'.tok = [] ∧ s'.rows = s.rows := by
  unfold LS.flush at e
  split at e
  · rename_i ht
    cases e
    exact ⟨h, ht, rfl⟩
  · cases ha : atomT s.tok with
    | none =>
      rw [ha] at e
      cases e
    | some v =>
      rw [ha] at e
      change (if s.ah = true then _ else none) = _ at e
      split at e
      · cases e
        have := atom_okP ha
        have hm := mb_nonneg rest
        have hb := h.bal
        refine ⟨⟨h.rows, fun _ => ⟨v, rfl, ?_, this.1⟩, h.bal⟩, rfl, rfl⟩
        show dep v + s.rows.length ≤ B
        omega
      · cases e
theorem LD.act {B : Nat} {s s' : LS} {rest : Tx} {c : Nat} (h : LD B s (c :: rest)) (e : s.act c = some s') : LD B s' rest := by
  have hb := h.bal
  simp only [mb] at hb
  have hm := mb_nonneg rest
  unfold LS.act at e
  split at e
  · rename_i hc
    subst hc
    have e1 : wt 91 = 1 := rfl
    rw [e1] at hb
    split at e
    · rename_i ha
      cases e
      refine ⟨⟨?_, by simp only [okPs], h.rows⟩, fun z => ?_, ?_⟩
      · simp only [depAll]
        omega
      · change s.ah = false at z
        rw [ha] at z
        cases z
      · show (((s.rows.length + 1 : Nat)) : Int) + _ ≤ _
        omega
    · cases e
  · split at e
    · rename_i hc
      subst hc
      have e1 : wt 44 = 0 := rfl
      rw [e1] at hb
      split at e
      · rename_i row rest' v ha hr hd
        cases e
        obtain ⟨v', hv, h1, h2⟩ := h.dn ha
        rw [hd] at hv
        cases hv
        have h3 := h.rows
        rw [hr] at h3 h1 hb
        refine ⟨⟨?_, okPs_app h3.2.1 ⟨h2, trivial⟩, h3.2.2⟩, fun z => (by cases z), ?_⟩
        · rw [depAll_app]
          simp only [depAll]
          have := h3.1
          simp only [List.length_cons] at h1
          omega
        · show (((rest'.length + 1 : Nat)) : Int) + _ ≤ _
          simp only [List.length_cons] at hb
          omega
      · cases e
    · split at e
      · rename_i hc
        subst hc
        have e1 : wt 93 = -1 := rfl
        rw [e1] at hb
        split at e
        · cases e
        · rename_i row rest' hr
          split at e
          · cases e
          · cases e
            have h3 := h.rows
            rw [hr] at h3 hb
            simp only [List.length_cons] at hb
            refine ⟨h3.2.2, fun _ => ⟨_, rfl, ?_, ?_⟩, ?_⟩
            · simp only [dep, depAll_app]
              have h4 := h3.1
              cases ha : s.ah with
              | true =>
                simp only [if_true, depAll]
                omega
              | false =>
                obtain ⟨v', hv, h1, h2⟩ := h.dn ha
                rw [hr] at h1
                simp only [List.length_cons] at h1
                simp only [Bool.false_eq_true, if_false, hv, Option.toList, depAll]
                omega
            · simp only [okP]
              refine okPs_app h3.2.1 ?_
              cases ha : s.ah with
              | true => simp only [if_true, okPs]
              | false =>
                obtain ⟨v', hv, h1, h2⟩ := h.dn ha
                simp only [Bool.false_eq_true, if_false, hv, Option.toList, okPs]
                exact ⟨h2, trivial⟩
            · show ((rest'.length : Nat) : Int) + _ ≤ _
              omega
      · cases e
        rename_i h1 h2 h3
        refine ⟨h.rows, h.dn, ?_⟩
        have e1 : wt c = 0 := by
          unfold wt
          rw [if_neg h1, if_neg h3]
        omega
theorem LD.step {B : Nat} {s s' : LS} {rest : Tx} {c : Nat} (h : LD B s (c :: rest)) (e : s.step c = some s') : LD B s' rest := by
  unfold LS.step at e
  split at e
  · cases hf : s.flush with
    | none =>
      rw [hf] at e
      cases e
    | some s2 =>
      rw [hf] at e
      exact LD.act (h.flush hf).1 e
  · rename_i hc
    cases e
    have hb := h.bal
    have hw : wt c = 0 := by
      unfold wt
      rw [if_neg (by intro z; subst z; exact hc rfl), if_neg (by intro z; subst z; exact hc rfl)]
    simp only [mb, hw] at hb
    exact ⟨h.rows, h.dn, by show ((s.rows.length : Nat) : Int) + _ ≤ _; omega⟩
theorem small_lt {s : Str} (h : ∀ c ∈ s.cps.toList, c < 1114112) : (PySem.reprText s).length ≤ 10 * s.length + 2 := PySem.StrLaws.reprText_len s fun c hc => Nat.lt_of_lt_of_le (h c hc) (by decide)
mutual
theorem shown_len : ∀ (d : PyData) (l : Tx), wr d = some l → d.shown.length ≤ 12 * l.length ∧ 1 ≤ l.length
  | .tuple ds, l, h => by
    simp only [wr] at h
    cases hx : wrj ds with
    | none =>
      rw [hx] at h
      cases h
    | some x =>
      rw [hx] at h
      cases h
      have ih := shown_lenj ds x hx
      have h1 := PySem.tupleText_len_le (PyData.shownAll ds)
      refine ⟨?_, by simp⟩
      show (PySem.tupleText (PyData.shownAll ds)).length ≤ 12 * (91 :: (x ++ [93])).length
      simp only [List.length_cons, List.length_append, List.length_nil]
      omega
  | .str s, l, h => by
    have hp := wr_okP (.str s) l h
    simp only [okP] at hp
    have h2 := small_lt hp
    simp only [wr] at h
    have hl : s.cps.toList.length = s.length := Array.length_toList
    split at h
    · rename_i hw
      cases h
      unfold isWordT at hw
      simp only [Bool.and_eq_true, decide_eq_true_eq] at hw
      show (PySem.reprText s).length ≤ _ ∧ _
      omega
    · split at h
      · rename_i he
        cases h
        rw [he] at hl
        show (PySem.reprText s).length ≤ 12 * 1 ∧ 1 ≤ 1
        simp at hl
        omega
      · cases h
  | .bool b, l, h => by
    simp only [wr] at h
    cases h
    cases b <;> exact ⟨by decide, by decide⟩
  | .int i, l, h => by
    simp only [wr] at h
    cases h
    have e : (digs i).length = (PyData.shown (.int i)).length := Array.length_toList
    have hne := (digs_sep i).1
    have : 1 ≤ (digs i).length := by
      cases hd : digs i with
      | nil => exact absurd hd hne
      | cons a b => simp
    omega
  | .none, _, h | .list _, _, h | .dict _, _, h => by cases h
theorem shown_lenj : ∀ (ds : List PyData) (l : Tx), wrj ds = some l → ((PyData.shownAll ds).map (·.length)).sum + 2 * (PyData.shownAll ds).length ≤ 12 * l.length + 12
  | [], l, h => by
    simp [PyData.shownAll]
  | d :: ds, l, h => by
    simp only [wrj] at h
    cases ha : wr d with
    | none =>
      rw [ha] at h
      cases h
    | some a =>
      cases hb : wrj ds with
      | none =>
        rw [ha, hb] at h
        cases h
      | some b =>
        rw [ha, hb] at h
        have i1 := shown_len d a ha
        have i2 := shown_lenj ds b hb
        simp only [PyData.shownAll, List.map_cons, List.sum_cons, List.length_cons]
        cases ds with
        | nil =>
          simp at h
          subst h
          simp only [PyData.shownAll, List.map_nil, List.sum_nil, List.length_nil] at *
          omega
        | cons d2 ds =>
          simp at h
          subst h
          simp only [List.length_append, List.length_cons]
          omega
end
mutual
theorem okP_show {M : Nat} (hM : M ≤ 570) : ∀ d : PyData, okP d → intsB M d → d.showable = true ∧ d.hasDict = false
  | .tuple ds, h, k => by
    simp only [okP] at h
    simp only [intsB] at k
    simp only [PyData.showable, PyData.hasDict]
    exact okPs_show hM ds h k
  | .str _, _, _ | .bool _, _, _ => ⟨rfl, rfl⟩
  | .int i, _, k => by
    simp only [intsB] at k
    refine ⟨?_, rfl⟩
    show decide (i.natAbs.log2 < 1920) = true
    refine decide_eq_true ?_
    by_cases h0 : i.natAbs = 0
    · rw [h0]
      decide
    · refine (Nat.log2_lt h0).mpr (Nat.lt_of_lt_of_le k ?_)
      refine Nat.le_trans (Nat.pow_le_pow_right (by decide) hM) ?_
      decide +kernel
  | .none, h, _ | .list _, h, _ | .dict _, h, _ => by simp only [okP] at h
theorem okPs_show {M : Nat} (hM : M ≤ 570) : ∀ ds : List PyData, okPs ds → intsBs M ds → PyData.showableAll ds = true ∧ PyData.hasDictAll ds = false
  | [], _, _ => ⟨rfl, rfl⟩
  | d :: ds, h, k => by
    simp only [okPs] at h
    simp only [intsBs] at k
    have h1 := okP_show hM d h.1 k.1
    have h2 := okPs_show hM ds h.2 k.2
    simp only [PyData.showableAll, PyData.hasDictAll, h1.1, h1.2, h2.1, h2.2]
    exact ⟨rfl, rfl⟩
end
end DataM

set_option exponentiation.threshold 256
set_option Elab.async false
set_option linter.all false
set_option maxRecDepth 100000
set_option maxHeartbeats 4000000
namespace K53
open PySem PySem.Spec PyProof.Rows L2 Lay
def topS (i : Nat) : Stmt := PySem.Challenge.pw_tablesswitched_k53_whole_plain_data.main.body.getD i (.Pass ⟨0, 0, 0, 0⟩)
abbrev s_is_whole : Stmt := topS 4
theorem sc_is_whole : FnScope ["value"] ["value"] (defScope s_is_whole) := ⟨rfl, rfl, rfl, by decide +kernel, rfl, by decide +kernel, by decide +kernel⟩
abbrev N_is_whole : List Str := ["value"]
abbrev s_is_word : Stmt := topS 12
theorem sc_is_word : FnScope ["value", "sign"] ["value"] (defScope s_is_word) := ⟨rfl, rfl, rfl, by decide +kernel, rfl, by decide +kernel, by decide +kernel⟩
abbrev N_is_word : List Str := ["value", "sign"]
abbrev s_is_short : Stmt := topS 13
theorem sc_is_short : FnScope ["value", "most", "_"] ["value"] (defScope s_is_short) := ⟨rfl, rfl, rfl, by decide +kernel, rfl, by decide +kernel, by decide +kernel⟩
abbrev N_is_short : List Str := ["value", "most", "_"]
abbrev s_atom_text : Stmt := topS 14
theorem sc_atom_text : FnScope ["value"] ["value"] (defScope s_atom_text) := ⟨rfl, rfl, rfl, by decide +kernel, rfl, by decide +kernel, by decide +kernel⟩
abbrev N_atom_text : List Str := ["value"]
abbrev s_write_data : Stmt := topS 15
theorem sc_write_data : FnScope ["data", "waiting", "found", "one", "depth", "k"] ["data"] (defScope s_write_data) := ⟨rfl, rfl, rfl, by decide +kernel, rfl, by decide +kernel, by decide +kernel⟩
abbrev N_write_data : List Str := ["data", "waiting", "found", "one", "depth", "k"]
abbrev s_read_whole : Stmt := topS 16
theorem sc_read_whole : FnScope ["text", "body", "sign"] ["text"] (defScope s_read_whole) := ⟨rfl, rfl, rfl, by decide +kernel, rfl, by decide +kernel, by decide +kernel⟩
abbrev N_read_whole : List Str := ["text", "body", "sign"]
abbrev s_read_atom : Stmt := topS 17
theorem sc_read_atom : FnScope ["piece"] ["piece"] (defScope s_read_atom) := ⟨rfl, rfl, rfl, by decide +kernel, rfl, by decide +kernel, by decide +kernel⟩
abbrev N_read_atom : List Str := ["piece"]
abbrev s_pieces_of : Stmt := topS 18
theorem sc_pieces_of : FnScope ["text", "found", "start", "place", "sign"] ["text"] (defScope s_pieces_of) := ⟨rfl, rfl, rfl, by decide +kernel, rfl, by decide +kernel, by decide +kernel⟩
abbrev N_pieces_of : List Str := ["text", "found", "start", "place", "sign"]
abbrev s_DataReader___init__ : Stmt := inClass (topS 19) 0
theorem sc_DataReader___init__ : FnScope ["self"] ["self"] (defScope s_DataReader___init__) := ⟨rfl, rfl, rfl, by decide +kernel, rfl, by decide +kernel, by decide +kernel⟩
abbrev N_DataReader___init__ : List Str := ["self"]
abbrev s_DataReader_item : Stmt := inClass (topS 19) 1
theorem sc_DataReader_item : FnScope ["self", "value"] ["self", "value"] (defScope s_DataReader_item) := ⟨rfl, rfl, rfl, by decide +kernel, rfl, by decide +kernel, by decide +kernel⟩
abbrev N_DataReader_item : List Str := ["self", "value"]
abbrev s_DataReader_open_one : Stmt := inClass (topS 19) 2
theorem sc_DataReader_open_one : FnScope ["self"] ["self"] (defScope s_DataReader_open_one) := ⟨rfl, rfl, rfl, by decide +kernel, rfl, by decide +kernel, by decide +kernel⟩
abbrev N_DataReader_open_one : List Str := ["self"]
abbrev s_DataReader_close_one : Stmt := inClass (topS 19) 3
theorem sc_DataReader_close_one : FnScope ["self", "found"] ["self"] (defScope s_DataReader_close_one) := ⟨rfl, rfl, rfl, by decide +kernel, rfl, by decide +kernel, by decide +kernel⟩
abbrev N_DataReader_close_one : List Str := ["self", "found"]
abbrev s_DataReader_comma : Stmt := inClass (topS 19) 4
theorem sc_DataReader_comma : FnScope ["self"] ["self"] (defScope s_DataReader_comma) := ⟨rfl, rfl, rfl, by decide +kernel, rfl, by decide +kernel, by decide +kernel⟩
abbrev N_DataReader_comma : List Str := ["self"]
abbrev s_DataReader_take : Stmt := inClass (topS 19) 5
theorem sc_DataReader_take : FnScope ["self", "piece"] ["self", "piece"] (defScope s_DataReader_take) := ⟨rfl, rfl, rfl, by decide +kernel, rfl, by decide +kernel, by decide +kernel⟩
abbrev N_DataReader_take : List Str := ["self", "piece"]
abbrev s_read_data : Stmt := topS 20
theorem sc_read_data : FnScope ["text", "reader", "piece"] ["text"] (defScope s_read_data) := ⟨rfl, rfl, rfl, by decide +kernel, rfl, by decide +kernel, by decide +kernel⟩
abbrev N_read_data : List Str := ["text", "reader", "piece"]
abbrev s__law_draw : Stmt := topS 22
theorem sc__law_draw : FnScope ["script", "seed", "cell"] ["script"] (defScope s__law_draw) := ⟨rfl, rfl, rfl, by decide +kernel, rfl, by decide +kernel, by decide +kernel⟩
abbrev N__law_draw : List Str := ["script", "seed", "cell"]
abbrev s__law_take : Stmt := topS 23
theorem sc__law_take : FnScope ["draw", "many", "found"] ["draw", "many"] (defScope s__law_take) := ⟨rfl, rfl, rfl, by decide +kernel, rfl, by decide +kernel, by decide +kernel⟩
abbrev N__law_take : List Str := ["draw", "many", "found"]
abbrev s__law_data : Stmt := topS 24
theorem sc__law_data : FnScope ["draw", "deep", "k", "turn"] ["draw", "deep"] (defScope s__law_data) := ⟨rfl, rfl, rfl, by decide +kernel, rfl, by decide +kernel, by decide +kernel⟩
abbrev N__law_data : List Str := ["draw", "deep", "k", "turn"]
abbrev s__law_word : Stmt := topS 25
theorem sc__law_word : FnScope ["value", "sign"] ["value"] (defScope s__law_word) := ⟨rfl, rfl, rfl, by decide +kernel, rfl, by decide +kernel, by decide +kernel⟩
abbrev N__law_word : List Str := ["value", "sign"]
abbrev s__law_written : Stmt := topS 26
theorem sc__law_written : FnScope ["data", "parts", "item"] ["data"] (defScope s__law_written) := ⟨rfl, rfl, rfl, by decide +kernel, rfl, by decide +kernel, by decide +kernel⟩
abbrev N__law_written : List Str := ["data", "parts", "item"]
abbrev s__law_number : Stmt := topS 27
theorem sc__law_number : FnScope ["text", "body", "sign"] ["text"] (defScope s__law_number) := ⟨rfl, rfl, rfl, by decide +kernel, rfl, by decide +kernel, by decide +kernel⟩
abbrev N__law_number : List Str := ["text", "body", "sign"]
abbrev s__law_read : Stmt := topS 28
theorem sc__law_read : FnScope ["text", "rows", "done", "token", "ahead", "sign", "atom", "row"] ["text"] (defScope s__law_read) := ⟨rfl, rfl, rfl, by decide +kernel, rfl, by decide +kernel, by decide +kernel⟩
abbrev N__law_read : List Str := ["text", "rows", "done", "token", "ahead", "sign", "atom", "row"]
abbrev s__law_told : Stmt := topS 29
theorem sc__law_told : FnScope ["which", "value"] ["which", "value"] (defScope s__law_told) := ⟨rfl, rfl, rfl, by decide +kernel, rfl, by decide +kernel, by decide +kernel⟩
abbrev N__law_told : List Str := ["which", "value"]
abbrev s_law : Stmt := topS 30
theorem sc_law : FnScope ["script", "draw", "turn", "data", "text", "again", "i", "sign", "other", "due", "bad", "long", "deep", "value"] ["script"] (defScope s_law) := ⟨rfl, rfl, rfl, by decide +kernel, rfl, by decide +kernel, by decide +kernel⟩
abbrev N_law : List Str := ["script", "draw", "turn", "data", "text", "again", "i", "sign", "other", "due", "bad", "long", "deep", "value"]
end K53

set_option exponentiation.threshold 256
set_option Elab.async false
set_option linter.all false
set_option maxRecDepth 100000
set_option maxHeartbeats 4000000
namespace K53
open PySem PySem.Spec PyProof.Rows L2 Lay DataM
local macro_rules | `(tactic| walk_at "1") => `(tactic| first
  | with_reducible refine w_seq ?_
  | ((with_reducible refine w_var (v := ?vv) ?hv ?_); (case hv => rfl))
  | with_reducible refine w_c ?_
  | with_reducible refine w_m1 ?_
  | with_reducible refine w_isstr ?_
  | with_reducible refine w_bm0 ?_
  | with_reducible refine w_bm ?_
  | with_reducible refine w_gcons ?_
  | with_reducible refine w_gnil ?_
  | ((with_reducible refine w_ty (xs := ?vv) ?hv ?_); (case hv => walk_at "hx"))
  | ((with_reducible refine w_gtup (xs := ?vv) ?hv ?hl ?_); (case hv => walk_at "hx"); (case hl => rfl))
  | with_reducible refine w_for1 ?_
  | with_reducible refine w_for2 ?_
  | with_reducible refine w_for3 ?_
  | with_reducible refine w_forA ?_
  | with_reducible refine w_forE ?_
  | ((with_reducible refine w_aug (x := ?vv) ?hv ?_); (case hv => rfl))
  | with_reducible refine w_op ?_
  | with_reducible refine w_cb ?_
  | with_reducible refine w_acons ?_
  | with_reducible refine w_anil ?_
  | with_reducible refine w_set ?_
  | with_reducible refine w_if ?_
  | with_reducible refine w_test ?_
  | with_reducible refine w_tB ?_
  | with_reducible refine w_bl ?_
  | with_reducible refine w_and ?_
  | with_reducible refine w_or ?_
  | with_reducible refine w_not ?_
  | with_reducible refine w_iteT ?_
  | with_reducible refine w_iteF ?_
  | with_reducible refine w_ret ?_
  | with_reducible refine w_next ?_
  | with_reducible refine w_drop ?_
  | with_reducible refine w_call ?_
  | with_reducible refine w_ifx ?_
  | with_reducible refine w_andV ?_
  | with_reducible refine w_orV ?_
  | with_reducible refine w_notV ?_
  | with_reducible refine w_sl ?_
  | with_reducible refine w_nopart ?_
  | with_reducible refine w_part ?_
  | with_reducible refine w_exint ?_
  | with_reducible refine w_chain ?_
  | with_reducible refine w_par ?_
  | with_reducible refine w_two ?_
  | with_reducible refine w_par3 ?_
  | with_reducible refine w_three ?_
  | with_reducible refine w_asg ?_
  | with_reducible refine w_gset ?_
  | with_reducible refine w_retN ?_
  | with_reducible refine w_brk ?_
  | with_reducible refine w_cont ?_
  | with_reducible refine w_un ?_
  | with_reducible refine w_neg ?_
  | with_reducible refine w_callS ?_
  | with_reducible refine w_tup0 ?_
  | with_reducible refine w_lst0 ?_
  | with_reducible refine w_fld0 ?_
  | with_reducible refine w_meth ?_)
local macro_rules | `(tactic| walk_at "2") => `(tactic| first
  | with_reducible refine w_add_int ?_
  | with_reducible refine w_sub ?_
  | ((with_reducible refine w_add_str ?hl ?_); (case hl => walk_at "len"))
  | ((with_reducible refine w_mod ?hl ?_); (case hl => first | decide | omega))
  | ((with_reducible refine w_fdiv ?h1 ?h2 ?_); (case h1 => first | decide | omega); (case h2 => first | decide | omega))
  | ((with_reducible refine w_mulR ?h1 ?h2 ?_); (case h1 => first | decide | omega); (case h2 => first | decide | omega))
  | ((with_reducible refine w_mulL ?h1 ?h2 ?_); (case h1 => first | decide | omega); (case h2 => first | decide | omega))
  | with_reducible refine w_iadd_int ?_
  | ((with_reducible refine w_iadd_str ?hl ?_); (case hl => walk_at "len"))
  | ((with_reducible refine w_mk ?hl ?_); (case hl => first | decide | (walk_at "len")))
  | with_reducible refine w_lt_int ?_
  | with_reducible refine w_lt_str ?_
  | with_reducible refine w_le_int ?_
  | with_reducible refine w_le_str ?_
  | with_reducible refine w_gt ?_
  | with_reducible refine w_ge ?_
  | with_reducible refine w_eq_int ?_
  | with_reducible refine w_eq_str ?_
  | with_reducible refine w_ne_int ?_
  | with_reducible refine w_ne_str ?_
  | ((with_reducible refine w_isInt (d := ?vd) ?hd ?_); (case hd => walk_at "dp"))
  | ((with_reducible refine w_isBool (d := ?vd) ?hd ?_); (case hd => walk_at "dp"))
  | ((with_reducible refine w_isStr (d := ?vd) ?hd ?_); (case hd => walk_at "dp"))
  | ((with_reducible refine w_isTup (d := ?vd) ?hd ?_); (case hd => walk_at "dp"))
  | ((with_reducible refine w_isLst (d := ?vd) ?hd ?_); (case hd => walk_at "dp"))
  | refine w_in_str ?_
  | refine w_nin_str ?_
  | with_reducible refine w_is ?_
  | with_reducible refine w_isnot ?_
  | ((with_reducible refine w_len_str ?hl ?_); (case hl => walk_at "len"))
  | ((with_reducible refine w_len (xs := ?vv) ?hl ?_); (case hl => walk_at "hx"))
  | with_reducible refine w_int_int ?_
  | with_reducible refine w_str_str ?_
  | with_reducible refine w_abs ?_
  | ((with_reducible refine w_sl_str ?hl ?_); (case hl => walk_at "len"))
  | ((with_reducible refine w_fldAt (C := ?vC) (dx := ?vdx) (fs := ?vfs) (v := ?vv) ?h1 ?h2 ?h3 ?h4 ?_); (case h1 => walk_at "hx"); (case h2 => assumption); (case h3 => assumption); (case h4 => rfl))
  | ((with_reducible refine w_iteP ?h1 ?_); (case h1 => walk_at "yes"))
  | ((with_reducible refine w_iteN ?h1 ?_); (case h1 => walk_at "no")))
local macro_rules | `(tactic| walk_at "yes") => `(tactic| first | assumption | ((with_reducible refine bnotT ?_); walk_at "no") | (refine decide_eq_true ?_; first | assumption | omega) | exact rfl)
local macro_rules | `(tactic| walk_at "no") => `(tactic| first | assumption | ((with_reducible refine bnotF ?_); walk_at "yes") | (refine decide_eq_false ?_; first | assumption | omega) | exact rfl)
local macro_rules | `(tactic| walk_at "len") => `(tactic| first | assumption | omega | decide)
local macro_rules | `(tactic| walk_at "ne") => `(tactic| first | assumption | (refine Ne.symm ?_; assumption))
local macro_rules | `(tactic| walk_at "hx") => `(tactic| first
  | assumption
  | exact upd_same
  | ((with_reducible refine sqa_l ?_); walk_at "hx")
  | ((with_reducible refine sqa_t ?_); walk_at "hx")
  | ((with_reducible refine SqL.of ?_); walk_at "hx")
  | ((with_reducible refine SqT.of ?_); walk_at "hx")
  | ((with_reducible refine at_same (by assumption) ?_); walk_at "hx")
  | ((with_reducible refine at_but (by assumption) ?hne ?_); (case hne => walk_at "ne"); walk_at "hx")
  | ((with_reducible refine Txt.tup (by assumption) _ _ ?_); walk_at "hx")
  | ((with_reducible refine Same.seq (by assumption) ?_); walk_at "hx")
  | ((with_reducible refine Same.seqT (by assumption) ?_); walk_at "hx")
  | ((with_reducible refine Dp.same (by assumption) _ _ ?_); walk_at "hx")
  | ((with_reducible refine DpAll.same (by assumption) _ _ ?_); walk_at "hx"))
local macro_rules | `(tactic| walk_at "go") => `(tactic| repeat (first | walk_at "1" | walk_at "2"))
local macro_rules | `(tactic| walk_at "dp") => `(tactic| first | exact .int _ | exact .str _ | exact .bl _ | exact .non | walk_at "hx")

abbrev sLET : Str := Str.ofString "abcdefghijklmnopqrstuvwxyz"
abbrev sDIG : Str := Str.ofString "0123456789"
structure Facts (w : World) (K : PySem.W.Frag) (mg : Str → Option Value) (CM : Addr) : Prop where
  b_isinstance : mg "isinstance" = none
  b_int : mg "int" = none
  b_bool : mg "bool" = none
  b_str : mg "str" = none
  b_tuple : mg "tuple" = none
  b_len : mg "len" = none
  b_all : mg "all" = none
  b_any : mg "any" = none
  b_range : mg "range" = none
  b_enumerate : mg "enumerate" = none
  b_abs : mg "abs" = none
  b_repr : mg "repr" = none
  c_LETTERS : ∃ u, mg "LETTERS" = some u ∧ RelV (.str sLET) u
  c_DIGITS : ∃ u, mg "DIGITS" = some u ∧ RelV (.str sDIG) u
  c_MOST_WORD : ∃ u, mg "MOST_WORD" = some u ∧ RelV (.int 12) u
  c_MOST_DEPTH : ∃ u, mg "MOST_DEPTH" = some u ∧ RelV (.int 1000) u
  c_MOST_DIGITS : ∃ u, mg "MOST_DIGITS" = some u ∧ RelV (.int 4000) u
  x_Malformed : PySem.W.excIn K CM [.type "ValueError", .type "Exception", .type "BaseException", .type "object"] "ValueError.__new__" = true
  g_Malformed : mg "Malformed" = some (.ref CM)
  k_Malformed : PySem.W.keepIn K (.ref CM) = true
  s_Malformed : PySem.W.subIn K (.ref CM) (.type "BaseException") = some true
  t_Malformed : PySem.W.typeIn K (.ref CM) = some (.type "type")
  e_Malformed : PySem.W.exmOne K (.ref CM) (.ref CM) = some true
  digits : PySem.W.nsIn K cStatics "sys.int_max_str_digits" = some none
theorem let_mem (c : Nat) : decide (c ∈ sLET.cps.toList) = isLet c := by
  unfold isLet
  congr 1
  apply propext
  show c ∈ [97, 98, 99, 100, 101, 102, 103, 104, 105, 106, 107, 108, 109, 110, 111, 112, 113, 114, 115, 116, 117, 118, 119, 120, 121, 122] ↔ _
  simp only [List.mem_cons, List.not_mem_nil, or_false]
  omega
theorem dig_mem (c : Nat) : decide (c ∈ sDIG.cps.toList) = isDig c := by
  unfold isDig
  congr 1
  apply propext
  show c ∈ [48, 49, 50, 51, 52, 53, 54, 55, 56, 57] ↔ _
  simp only [List.mem_cons, List.not_mem_nil, or_false]
  omega
def isWord : PyData → Bool
  | .str s => isWordT s.cps.toList
  | _ => false
def isWhole : PyData → Bool
  | .int _ => true
  | _ => false
def isShort : PyData → Bool
  | .int i => decide (i.natAbs < 10 ^ 4000)
  | _ => false
def shortS : PyData → Prop
  | .str s => s.length ≤ 1000000
  | _ => True
theorem len_cps (s : Str) : s.cps.toList.length = s.length := Array.length_toList
section
variable {P : Program} {w : World} {K : PySem.W.Frag} {mg : Str → Option Value} {base : Heap} {CM : Addr}
def spWhole (K : PySem.W.Frag) : Sp := fun vs H Q _ => ∃ v d, vs = [v] ∧ Dp K H v d ∧ Q (.bl (isWhole d)) H
theorem ok_is_whole {f : Addr} {fd : FuncData} (T : Facts w K mg CM) (F : Fun K "is_whole" "is_whole" s_is_whole f fd) : FnOk P w K mg base CX0 1 f fd ["value"] (spWhole K) := by
  refine F.ok sc_is_whole (fun vs H Q E h => ?_) (fun cdv A outer s H vs Q E hr h => ?_)
  · obtain ⟨v, d, rfl, _⟩ := h
    rfl
  · obtain ⟨v, d, rfl, hd, q⟩ := h
    refine ⟨_, (pss_one (ps_ret (pe_and (pe_callB (call_isiA (K := K)) (by rfl) T.b_isinstance (by decide +kernel) (pa_cons (pv 0) (pa_cons (pe_bltn (v := .ty "int") (by rfl) T.b_int (by decide +kernel) rfl) pa_nil))) (pe_one (pe_not (pe_callB (call_isiA (K := K)) (by rfl) T.b_isinstance (by decide +kernel) (pa_cons (pv 0) (pa_cons (pe_bltn (v := .ty "bool") (by rfl) T.b_bool (by decide +kernel) rfl) pa_nil)))))))), ?_⟩
    try dsimp only [cxOf]
    refine w_start (show _ = [some _] from rfl) ?_
    walk_at "go"
    cases d <;> (walk_at "go"; exact q)
def spWord (K : PySem.W.Frag) : Sp := fun vs H Q _ => ∃ v d, vs = [v] ∧ Dp K H v d ∧ shortS d ∧ ∀ H', Same H H' → Q (.bl (isWord d)) H'
theorem ok_is_word {f : Addr} {fd : FuncData} (T : Facts w K mg CM) (F : Fun K "is_word" "is_word" s_is_word f fd) : FnOk P w K mg base CX0 1 f fd ["value"] (spWord K) := by
  refine F.ok sc_is_word (fun vs H Q E h => ?_) (fun cdv A outer s H vs Q E hr h => ?_)
  · obtain ⟨v, d, rfl, _⟩ := h
    rfl
  · obtain ⟨v, d, rfl, hd, hz, q⟩ := h
    refine ⟨_, (pss_cons (ps_if (PW.pt (pw_or (pt_not (pt_val (pe_callB (call_isiA (K := K)) (by rfl) T.b_isinstance (by decide +kernel) (pa_cons (pv 0) (pa_cons (pe_bltn (v := .ty "str") (by rfl) T.b_str (by decide +kernel) rfl) pa_nil))))) (pw_or (pt_not (pt_chain op_leA op_leA pe_int (pe_callB (call_lenA (K := K)) (by rfl) T.b_len (by decide +kernel) (pa_cons (pv 0) pa_nil)) (pe_gc (by rfl) T.c_MOST_WORD))) (pw_or1 (pt_cmpR (op_notInA (K := K)) (pe_ix (ix_A (K := K)) (pv 0) pe_int (fun _ _ => rfl)) (pe_gc (by rfl) T.c_LETTERS) (by rfl)))))) (pss_one (ps_ret pe_bl)) pss_nil)
    (pss_one (ps_ret (pe_callB (all_A (K := K) rfl) (by rfl) T.b_all (by decide +kernel) (pa_cons (pe_lc (own := [("sign", 1)]) (g := gName 1) (tt := tYes) rfl sc_is_word.nd (pi_A (K := K) (pv 0)) (blkOk_by (N := N_is_word) (sc := defScope s_is_word) (by decide +kernel)) (fun _ _ _ _ _ => pg_name (i := 1) sc_is_word.nd rfl (Or.inl rfl)) (fun _ _ _ _ _ => pts_nil) (fun _ _ _ _ _ => (pe_or (pe_cmpR (op_inA (K := K)) (pv 1) (pe_gc (by rfl) T.c_LETTERS) (by rfl)) (pe_one (pe_cmpR (op_inA (K := K)) (pv 1) (pe_gc (by rfl) T.c_DIGITS) (by rfl)))))) pa_nil))))), ?_⟩
    try dsimp only [cxOf]
    refine w_start (show _ = [some _, none] from rfl) ?_
    walk_at "go"
    have no : ∀ d, isStrD d = false → isWord d = false := by
      intro d h
      cases d <;> first | rfl | cases h
    cases hi : isStrD d with
    | false =>
      walk_at "go"
      rw [← no d hi]
      exact q H (Same.refl H)
    | true =>
      cases d with
      | str s =>
        cases hd
        have hs : s.length ≤ 1000000 := hz
        walk_at "go"
        have e1 := len_cps s
        by_cases h1 : 1 ≤ s.length
        · walk_at "go"
          by_cases h2 : s.length ≤ 12
          · walk_at "go"
            cases hl : s.cps.toList with
            | nil =>
              rw [hl] at e1
              simp at e1
              omega
            | cons c r =>
              refine w_ix_str (z := s) (n := 0) (c := c) (by omega) (by rw [hl]; exact atI_nat (j := 0) rfl) ?_
              walk_at "go"
              rw [let_mem]
              have hw : isWord (.str s) = (isLet c && s.cps.toList.all fun c => isLet c || isDig c) := by
                show isWordT s.cps.toList = _
                unfold isWordT
                rw [len_cps, decide_eq_true h1, decide_eq_true h2, hl]
                rfl
              cases hc : isLet c with
              | false =>
                walk_at "go"
                have := q H (Same.refl H)
                rw [hw, hc] at this
                exact this
              | true =>
                walk_at "go"
                refine w_lcS (x := s) (fun c => .bl (isLet c || isDig c)) rfl (by omega) (fun v => rfl) (fun c H1 hc1 e2 R hR => ?_) (fun D H2 n2 e2 hD => ?_)
                · show tOrV _ _ [some (V.str s), some (.str ⟨#[c]⟩)] H1 R
                  walk_at "go"
                  rw [let_mem]
                  cases h : isLet c with
                  | true =>
                    walk_at "go"
                    have := hR H1 (Same.refl H1)
                    rw [h] at this
                    exact this
                  | false =>
                    walk_at "go"
                    rw [dig_mem]
                    have := hR H1 (Same.refl H1)
                    rw [h] at this
                    exact this
                · walk_at "go"
                  refine w_all (bs := s.cps.toList.map fun c => isLet c || isDig c) ?_ ?_
                  · rw [List.map_map]
                    exact SqL.of hD
                  · have := q H2 e2
                    rw [hw, hc] at this
                    rw [List.all_map]
                    exact this
          · walk_at "go"
            have := q H (Same.refl H)
            have hw : isWord (.str s) = false := by
              show isWordT s.cps.toList = _
              unfold isWordT
              rw [len_cps, decide_eq_true h1, decide_eq_false h2]
              rfl
            rw [hw] at this
            exact this
        · walk_at "go"
          have := q H (Same.refl H)
          have hw : isWord (.str s) = false := by
            show isWordT s.cps.toList = _
            unfold isWordT
            rw [len_cps, decide_eq_false h1]
            rfl
          rw [hw] at this
          exact this
      | _ => cases hi
end
end K53

set_option exponentiation.threshold 256
set_option Elab.async false
set_option linter.all false
set_option maxRecDepth 100000
set_option maxHeartbeats 4000000
namespace K53
open PySem PySem.Spec PyProof.Rows L2 Lay DataM
local macro_rules | `(tactic| walk_at "1") => `(tactic| first
  | with_reducible refine w_seq ?_
  | ((with_reducible refine w_var (v := ?vv) ?hv ?_); (case hv => rfl))
  | with_reducible refine w_c ?_
  | with_reducible refine w_m1 ?_
  | with_reducible refine w_isstr ?_
  | with_reducible refine w_bm0 ?_
  | with_reducible refine w_bm ?_
  | with_reducible refine w_gcons ?_
  | with_reducible refine w_gnil ?_
  | ((with_reducible refine w_ty (xs := ?vv) ?hv ?_); (case hv => walk_at "hx"))
  | ((with_reducible refine w_gtup (xs := ?vv) ?hv ?hl ?_); (case hv => walk_at "hx"); (case hl => rfl))
  | with_reducible refine w_for1 ?_
  | with_reducible refine w_for2 ?_
  | with_reducible refine w_for3 ?_
  | with_reducible refine w_forA ?_
  | with_reducible refine w_forE ?_
  | ((with_reducible refine w_aug (x := ?vv) ?hv ?_); (case hv => rfl))
  | with_reducible refine w_op ?_
  | with_reducible refine w_cb ?_
  | with_reducible refine w_acons ?_
  | with_reducible refine w_anil ?_
  | with_reducible refine w_set ?_
  | with_reducible refine w_if ?_
  | with_reducible refine w_test ?_
  | with_reducible refine w_tB ?_
  | with_reducible refine w_bl ?_
  | with_reducible refine w_and ?_
  | with_reducible refine w_or ?_
  | with_reducible refine w_not ?_
  | with_reducible refine w_iteT ?_
  | with_reducible refine w_iteF ?_
  | with_reducible refine w_ret ?_
  | with_reducible refine w_next ?_
  | with_reducible refine w_drop ?_
  | with_reducible refine w_call ?_
  | with_reducible refine w_ifx ?_
  | with_reducible refine w_andV ?_
  | with_reducible refine w_orV ?_
  | with_reducible refine w_notV ?_
  | with_reducible refine w_sl ?_
  | with_reducible refine w_nopart ?_
  | with_reducible refine w_part ?_
  | with_reducible refine w_exint ?_
  | with_reducible refine w_chain ?_
  | with_reducible refine w_par ?_
  | with_reducible refine w_two ?_
  | with_reducible refine w_par3 ?_
  | with_reducible refine w_three ?_
  | with_reducible refine w_asg ?_
  | with_reducible refine w_gset ?_
  | with_reducible refine w_retN ?_
  | with_reducible refine w_brk ?_
  | with_reducible refine w_cont ?_
  | with_reducible refine w_un ?_
  | with_reducible refine w_neg ?_
  | with_reducible refine w_callS ?_
  | with_reducible refine w_tup0 ?_
  | with_reducible refine w_lst0 ?_
  | with_reducible refine w_fld0 ?_
  | with_reducible refine w_meth ?_)
local macro_rules | `(tactic| walk_at "2") => `(tactic| first
  | with_reducible refine w_add_int ?_
  | with_reducible refine w_sub ?_
  | ((with_reducible refine w_add_str ?hl ?_); (case hl => walk_at "len"))
  | ((with_reducible refine w_mod ?hl ?_); (case hl => first | decide | omega))
  | ((with_reducible refine w_fdiv ?h1 ?h2 ?_); (case h1 => first | decide | omega); (case h2 => first | decide | omega))
  | ((with_reducible refine w_mulR ?h1 ?h2 ?_); (case h1 => first | decide | omega); (case h2 => first | decide | omega))
  | ((with_reducible refine w_mulL ?h1 ?h2 ?_); (case h1 => first | decide | omega); (case h2 => first | decide | omega))
  | with_reducible refine w_iadd_int ?_
  | ((with_reducible refine w_iadd_str ?hl ?_); (case hl => walk_at "len"))
  | ((with_reducible refine w_mk ?hl ?_); (case hl => first | decide | (walk_at "len")))
  | with_reducible refine w_lt_int ?_
  | with_reducible refine w_lt_str ?_
  | with_reducible refine w_le_int ?_
  | with_reducible refine w_le_str ?_
  | with_reducible refine w_gt ?_
  | with_reducible refine w_ge ?_
  | with_reducible refine w_eq_int ?_
  | with_reducible refine w_eq_str ?_
  | with_reducible refine w_ne_int ?_
  | with_reducible refine w_ne_str ?_
  | ((with_reducible refine w_isInt (d := ?vd) ?hd ?_); (case hd => walk_at "dp"))
  | ((with_reducible refine w_isBool (d := ?vd) ?hd ?_); (case hd => walk_at "dp"))
  | ((with_reducible refine w_isStr (d := ?vd) ?hd ?_); (case hd => walk_at "dp"))
  | ((with_reducible refine w_isTup (d := ?vd) ?hd ?_); (case hd => walk_at "dp"))
  | ((with_reducible refine w_isLst (d := ?vd) ?hd ?_); (case hd => walk_at "dp"))
  | refine w_in_str ?_
  | refine w_nin_str ?_
  | with_reducible refine w_is ?_
  | with_reducible refine w_isnot ?_
  | ((with_reducible refine w_len_str ?hl ?_); (case hl => walk_at "len"))
  | ((with_reducible refine w_len (xs := ?vv) ?hl ?_); (case hl => walk_at "hx"))
  | with_reducible refine w_int_int ?_
  | with_reducible refine w_str_str ?_
  | with_reducible refine w_abs ?_
  | ((with_reducible refine w_sl_str ?hl ?_); (case hl => walk_at "len"))
  | ((with_reducible refine w_fldAt (C := ?vC) (dx := ?vdx) (fs := ?vfs) (v := ?vv) ?h1 ?h2 ?h3 ?h4 ?_); (case h1 => walk_at "hx"); (case h2 => assumption); (case h3 => assumption); (case h4 => rfl))
  | ((with_reducible refine w_iteP ?h1 ?_); (case h1 => walk_at "yes"))
  | ((with_reducible refine w_iteN ?h1 ?_); (case h1 => walk_at "no")))
local macro_rules | `(tactic| walk_at "yes") => `(tactic| first | assumption | ((with_reducible refine bnotT ?_); walk_at "no") | (refine decide_eq_true ?_; first | assumption | omega) | exact rfl)
local macro_rules | `(tactic| walk_at "no") => `(tactic| first | assumption | ((with_reducible refine bnotF ?_); walk_at "yes") | (refine decide_eq_false ?_; first | assumption | omega) | exact rfl)
local macro_rules | `(tactic| walk_at "len") => `(tactic| first | assumption | omega | decide)
local macro_rules | `(tactic| walk_at "ne") => `(tactic| first | assumption | (refine Ne.symm ?_; assumption))
local macro_rules | `(tactic| walk_at "hx") => `(tactic| first
  | assumption
  | exact upd_same
  | ((with_reducible refine sqa_l ?_); walk_at "hx")
  | ((with_reducible refine sqa_t ?_); walk_at "hx")
  | ((with_reducible refine SqL.of ?_); walk_at "hx")
  | ((with_reducible refine SqT.of ?_); walk_at "hx")
  | ((with_reducible refine at_same (by assumption) ?_); walk_at "hx")
  | ((with_reducible refine at_but (by assumption) ?hne ?_); (case hne => walk_at "ne"); walk_at "hx")
  | ((with_reducible refine Txt.tup (by assumption) _ _ ?_); walk_at "hx")
  | ((with_reducible refine Same.seq (by assumption) ?_); walk_at "hx")
  | ((with_reducible refine Same.seqT (by assumption) ?_); walk_at "hx")
  | ((with_reducible refine Dp.same (by assumption) _ _ ?_); walk_at "hx")
  | ((with_reducible refine DpAll.same (by assumption) _ _ ?_); walk_at "hx"))
local macro_rules | `(tactic| walk_at "go") => `(tactic| repeat (first | walk_at "1" | walk_at "2"))
local macro_rules | `(tactic| walk_at "dp") => `(tactic| first | exact .int _ | exact .str _ | exact .bl _ | exact .non | walk_at "hx")

section
variable {P : Program} {w : World} {K : PySem.W.Frag} {mg : Str → Option Value} {base : Heap} {CM : Addr}
def spShort (K : PySem.W.Frag) : Sp := fun vs H Q _ => ∃ v d, vs = [v] ∧ Dp K H v d ∧ Q (.bl (isShort d)) H
def Mp (k : Nat) : Int := 10 ^ (32 * (k + 1))
theorem mp_step (k : Nat) : Mp k * 10 ^ 32 = Mp (k + 1) := by
  unfold Mp
  rw [← Int.pow_add]
  congr 1
theorem mp_lt {k : Nat} (h : k ≤ 124) : (Mp k).natAbs < 2 ^ 16001 := by
  unfold Mp
  rw [Int.natAbs_pow]
  have h1 : (10 : Int).natAbs ^ (32 * (k + 1)) ≤ 16 ^ (32 * (k + 1)) := Nat.pow_le_pow_left (by decide) _
  have h2 : 16 ^ (32 * (k + 1)) ≤ 16 ^ 4000 := Nat.pow_le_pow_right (by decide) (by omega)
  have h3 : (16 : Nat) ^ 4000 = 2 ^ 16000 := by rw [show (16 : Nat) = 2 ^ 4 from rfl, ← Nat.pow_mul]
  have h4 : (2 : Nat) ^ 16000 < 2 ^ 16001 := Nat.pow_lt_pow_right (by decide) (by decide)
  omega
theorem mp_ok {k : Nat} (h : k ≤ 124) : IntMulOk (Mp k) (10 ^ 32) :=
  (wide_mul (a := 16001) (b := 200) (mp_lt h) (by decide) (by decide) (by decide) (by decide)).ok
theorem mp_last : Mp 124 = ((10 ^ 4000 : Nat) : Int) := by
  unfold Mp
  rw [Int.natCast_pow]
  rfl
theorem mp_small {i : Int} (h1 : -Mp 0 < i) (h2 : i < Mp 0) : i.natAbs < 10 ^ 4000 := by
  have h3 : Mp 0 ≤ ((10 ^ 4000 : Nat) : Int) := by
    rw [← mp_last]
    unfold Mp
    rw [show ((10 : Int) ^ (32 * (0 + 1))) = ((10 ^ 32 : Nat) : Int) from rfl, show ((10 : Int) ^ (32 * (124 + 1))) = ((10 ^ 4000 : Nat) : Int) by rw [Int.natCast_pow] <;> rfl]
    exact Int.ofNat_le.mpr (Nat.pow_le_pow_right (by decide) (by decide))
  generalize (10 ^ 4000 : Nat) = B at h3 ⊢
  omega
theorem ok_is_short {f : Addr} {fd : FuncData} (T : Facts w K mg CM) (F : Fun K "is_short" "is_short" s_is_short f fd) (c_is_whole : Fn0 P w K mg base 1 "is_whole" (spWhole K)) : FnOk P w K mg base CX0 2 f fd ["value"] (spShort K) := by
  refine F.ok sc_is_short (fun vs H Q E h => ?_) (fun cdv A outer s H vs Q E hr h => ?_)
  · obtain ⟨v, d, rfl, _⟩ := h
    rfl
  · obtain ⟨v, d, rfl, hd, q⟩ := h
    refine ⟨_, (pss_cons (ps_if (pt_not (pt_val (pe_f0 c_is_whole hr (by decide) (pa_cons (pv 0) pa_nil)))) (pss_one (ps_ret pe_bl)) pss_nil)
    (pss_cons (ps_set (i := 1) sc_is_short.nd rfl (by first | exact Or.inl rfl | exact Or.inr rfl) (pe_op op_powA pe_int pe_int))
    (pss_mid (ps_if (pt_chain op_ltA op_ltA (pe_un un_neg (pv 1)) (pv 0) (pv 1)) (pss_one (ps_ret pe_bl)) pss_nil)
    (pss_cons (ps_for PassesOwn.never rfl (pi_range1 (by rfl) T.b_range (pa_cons (pe_op op_subA (pe_op op_fdivA (pe_gc (by rfl) T.c_MOST_DIGITS) pe_int) pe_int) pa_nil)) (pg_name (i := 2) sc_is_short.nd rfl (by first | exact Or.inl rfl | exact Or.inr rfl)) (pss_one (ps_aug (i := 1) sc_is_short.nd rfl (by first | exact Or.inl rfl | exact Or.inr rfl) (pe_op op_powA pe_int pe_int) ip_mulA)))
    (pss_one (ps_ret (pe_chain op_ltA op_ltA (pe_un un_neg (pv 1)) (pv 0) (pv 1)))))))), ?_⟩
    try dsimp only [cxOf]
    refine w_start (show _ = [some _, none, none] from rfl) ?_
    walk_at "go"
    refine ⟨v, d, rfl, hd, ?_⟩
    walk_at "go"
    cases hi : isWhole d with
    | false =>
      walk_at "go"
      have e : isShort d = false := by
        cases d <;> first | rfl | cases hi
      rw [e] at q
      exact q
    | true =>
      cases d with
      | int i =>
        cases hd
        walk_at "go"
        refine w_pow ⟨by decide, by decide, by decide⟩ ?_
        walk_at "go"
        have fin : ∀ b : Bool, (b = decide (i.natAbs < 10 ^ 4000)) → Q (.bl b) H := fun b e => by
          rw [e]
          exact q
        refine w_mid (fun σ' H' => σ' = [some (.int i), some (.int (Mp 0)), none] ∧ H = H') ?_ ?_
        · walk_at "go"
          show if decide (-Mp 0 < i) = true then _ else _
          refine w_ite (fun h1 => ?_) (fun h1 => ?_)
          · walk_at "go"
            show if decide (i < Mp 0) = true then _ else _
            refine w_ite (fun h2 => ?_) (fun h2 => ?_)
            · walk_at "go"
              exact fin true (decide_eq_true (mp_small (of_decide_eq_true h1) (of_decide_eq_true h2))).symm
            · walk_at "go"
              exact ⟨rfl, rfl⟩
          · walk_at "go"
            exact ⟨rfl, rfl⟩
        · rintro σ' H' ⟨rfl, rfl⟩
          walk_at "go"
          refine r1_of (n := 124) rfl (by decide) ?_
          refine lp_range (fun k σ' H' => H = H' ∧ ∃ o, σ' = [some (.int i), some (.int (Mp k)), o]) ⟨rfl, none, rfl⟩ (fun k σ' H' hk p => ?_) (fun σ' H' p => ?_)
          · obtain ⟨rfl, o, rfl⟩ := p
            walk_at "go"
            refine w_pow ⟨by decide, by decide, by decide⟩ ?_
            refine w_imul (mp_ok (by omega)) ?_
            refine ⟨rfl, some (.int (k : Nat)), ?_⟩
            show [some (V.int i), some (.int (Mp k * 10 ^ 32)), some (V.int (k : Nat))] = _
            rw [mp_step]
          · obtain ⟨rfl, o, rfl⟩ := p
            walk_at "go"
            rw [mp_last]
            generalize hB : (10 ^ 4000 : Nat) = B at fin ⊢
            refine w_ite (fun h1 => ?_) (fun h1 => ?_)
            · have h1' := of_decide_eq_true h1
              walk_at "go"
              refine fin _ ?_
              congr 1
              apply propext
              omega
            · have h1' := of_decide_eq_false h1
              walk_at "go"
              refine fin _ (decide_eq_false ?_).symm
              omega
      | _ => cases hi
end
end K53

set_option exponentiation.threshold 256
set_option Elab.async false
set_option linter.all false
set_option maxRecDepth 100000
set_option maxHeartbeats 4000000
set_option exponentiation.threshold 10
namespace K53
open PySem PySem.Spec PyProof.Rows L2 Lay DataM
local macro_rules | `(tactic| walk_at "1") => `(tactic| first
  | with_reducible refine w_seq ?_
  | ((with_reducible refine w_var (v := ?vv) ?hv ?_); (case hv => rfl))
  | with_reducible refine w_c ?_
  | with_reducible refine w_m1 ?_
  | with_reducible refine w_isstr ?_
  | with_reducible refine w_bm0 ?_
  | with_reducible refine w_bm ?_
  | with_reducible refine w_gcons ?_
  | with_reducible refine w_gnil ?_
  | ((with_reducible refine w_ty (xs := ?vv) ?hv ?_); (case hv => walk_at "hx"))
  | ((with_reducible refine w_gtup (xs := ?vv) ?hv ?hl ?_); (case hv => walk_at "hx"); (case hl => rfl))
  | with_reducible refine w_for1 ?_
  | with_reducible refine w_for2 ?_
  | with_reducible refine w_for3 ?_
  | with_reducible refine w_forA ?_
  | with_reducible refine w_forE ?_
  | ((with_reducible refine w_aug (x := ?vv) ?hv ?_); (case hv => rfl))
  | with_reducible refine w_op ?_
  | with_reducible refine w_cb ?_
  | with_reducible refine w_acons ?_
  | with_reducible refine w_anil ?_
  | with_reducible refine w_set ?_
  | with_reducible refine w_if ?_
  | with_reducible refine w_test ?_
  | with_reducible refine w_tB ?_
  | with_reducible refine w_bl ?_
  | with_reducible refine w_and ?_
  | with_reducible refine w_or ?_
  | with_reducible refine w_not ?_
  | with_reducible refine w_iteT ?_
  | with_reducible refine w_iteF ?_
  | with_reducible refine w_ret ?_
  | with_reducible refine w_next ?_
  | with_reducible refine w_drop ?_
  | with_reducible refine w_call ?_
  | with_reducible refine w_ifx ?_
  | with_reducible refine w_andV ?_
  | with_reducible refine w_orV ?_
  | with_reducible refine w_notV ?_
  | with_reducible refine w_sl ?_
  | with_reducible refine w_nopart ?_
  | with_reducible refine w_part ?_
  | with_reducible refine w_exint ?_
  | with_reducible refine w_chain ?_
  | with_reducible refine w_par ?_
  | with_reducible refine w_two ?_
  | with_reducible refine w_par3 ?_
  | with_reducible refine w_three ?_
  | with_reducible refine w_asg ?_
  | with_reducible refine w_gset ?_
  | with_reducible refine w_retN ?_
  | with_reducible refine w_brk ?_
  | with_reducible refine w_cont ?_
  | with_reducible refine w_un ?_
  | with_reducible refine w_neg ?_
  | with_reducible refine w_callS ?_
  | with_reducible refine w_tup0 ?_
  | with_reducible refine w_lst0 ?_
  | with_reducible refine w_fld0 ?_
  | with_reducible refine w_meth ?_)
local macro_rules | `(tactic| walk_at "2") => `(tactic| first
  | with_reducible refine w_add_int ?_
  | with_reducible refine w_sub ?_
  | ((with_reducible refine w_add_str ?hl ?_); (case hl => walk_at "len"))
  | ((with_reducible refine w_mod ?hl ?_); (case hl => first | decide | omega))
  | ((with_reducible refine w_fdiv ?h1 ?h2 ?_); (case h1 => first | decide | omega); (case h2 => first | decide | omega))
  | ((with_reducible refine w_mulR ?h1 ?h2 ?_); (case h1 => first | decide | omega); (case h2 => first | decide | omega))
  | ((with_reducible refine w_mulL ?h1 ?h2 ?_); (case h1 => first | decide | omega); (case h2 => first | decide | omega))
  | with_reducible refine w_iadd_int ?_
  | ((with_reducible refine w_iadd_str ?hl ?_); (case hl => walk_at "len"))
  | ((with_reducible refine w_mk ?hl ?_); (case hl => first | decide | (walk_at "len")))
  | with_reducible refine w_lt_int ?_
  | with_reducible refine w_lt_str ?_
  | with_reducible refine w_le_int ?_
  | with_reducible refine w_le_str ?_
  | with_reducible refine w_gt ?_
  | with_reducible refine w_ge ?_
  | with_reducible refine w_eq_int ?_
  | with_reducible refine w_eq_str ?_
  | with_reducible refine w_ne_int ?_
  | with_reducible refine w_ne_str ?_
  | ((with_reducible refine w_isInt (d := ?vd) ?hd ?_); (case hd => walk_at "dp"))
  | ((with_reducible refine w_isBool (d := ?vd) ?hd ?_); (case hd => walk_at "dp"))
  | ((with_reducible refine w_isStr (d := ?vd) ?hd ?_); (case hd => walk_at "dp"))
  | ((with_reducible refine w_isTup (d := ?vd) ?hd ?_); (case hd => walk_at "dp"))
  | ((with_reducible refine w_isLst (d := ?vd) ?hd ?_); (case hd => walk_at "dp"))
  | refine w_in_str ?_
  | refine w_nin_str ?_
  | with_reducible refine w_is ?_
  | with_reducible refine w_isnot ?_
  | ((with_reducible refine w_len_str ?hl ?_); (case hl => walk_at "len"))
  | ((with_reducible refine w_len (xs := ?vv) ?hl ?_); (case hl => walk_at "hx"))
  | with_reducible refine w_int_int ?_
  | with_reducible refine w_str_str ?_
  | with_reducible refine w_abs ?_
  | ((with_reducible refine w_sl_str ?hl ?_); (case hl => walk_at "len"))
  | ((with_reducible refine w_fldAt (C := ?vC) (dx := ?vdx) (fs := ?vfs) (v := ?vv) ?h1 ?h2 ?h3 ?h4 ?_); (case h1 => walk_at "hx"); (case h2 => assumption); (case h3 => assumption); (case h4 => rfl))
  | ((with_reducible refine w_iteP ?h1 ?_); (case h1 => walk_at "yes"))
  | ((with_reducible refine w_iteN ?h1 ?_); (case h1 => walk_at "no")))
local macro_rules | `(tactic| walk_at "yes") => `(tactic| first | assumption | ((with_reducible refine bnotT ?_); walk_at "no") | (refine decide_eq_true ?_; first | assumption | omega) | exact rfl)
local macro_rules | `(tactic| walk_at "no") => `(tactic| first | assumption | ((with_reducible refine bnotF ?_); walk_at "yes") | (refine decide_eq_false ?_; first | assumption | omega) | exact rfl)
local macro_rules | `(tactic| walk_at "len") => `(tactic| first | assumption | omega | decide)
local macro_rules | `(tactic| walk_at "ne") => `(tactic| first | assumption | (refine Ne.symm ?_; assumption))
local macro_rules | `(tactic| walk_at "hx") => `(tactic| first
  | assumption
  | exact upd_same
  | ((with_reducible refine sqa_l ?_); walk_at "hx")
  | ((with_reducible refine sqa_t ?_); walk_at "hx")
  | ((with_reducible refine SqL.of ?_); walk_at "hx")
  | ((with_reducible refine SqT.of ?_); walk_at "hx")
  | ((with_reducible refine at_same (by assumption) ?_); walk_at "hx")
  | ((with_reducible refine at_but (by assumption) ?hne ?_); (case hne => walk_at "ne"); walk_at "hx")
  | ((with_reducible refine Txt.tup (by assumption) _ _ ?_); walk_at "hx")
  | ((with_reducible refine Same.seq (by assumption) ?_); walk_at "hx")
  | ((with_reducible refine Same.seqT (by assumption) ?_); walk_at "hx")
  | ((with_reducible refine Dp.same (by assumption) _ _ ?_); walk_at "hx")
  | ((with_reducible refine DpAll.same (by assumption) _ _ ?_); walk_at "hx"))
local macro_rules | `(tactic| walk_at "go") => `(tactic| repeat (first | walk_at "1" | walk_at "2"))
local macro_rules | `(tactic| walk_at "dp") => `(tactic| first | exact .int _ | exact .str _ | exact .bl _ | exact .non | walk_at "hx")

section
variable {P : Program} {w : World} {K : PySem.W.Frag} {mg : Str → Option Value} {base : Heap} {CM : Addr}
def atomP : PyData → Option Str
  | .bool b => some (if b then "+" else "-")
  | .str s => if isWordT s.cps.toList then some s else if s = "" then some "." else none
  | .int i => if i.natAbs < 10 ^ 4000 then some (Str.ofString (toString i)) else none
  | _ => none
def spAtom (K : PySem.W.Frag) (CM : Addr) : Sp := fun vs H Q E => ∃ v d, vs = [v] ∧ Dp K H v d ∧ shortS d ∧ (∀ t, atomP d = some t → ∀ H', Same H H' → Q (.str t) H') ∧ (atomP d = none → ∀ H', Same H H' → E (.ref CM) none H')
theorem pow43 : (10 : Nat) ^ 4000 ≤ 10 ^ 4300 := Nat.pow_le_pow_right (by decide) (by decide)
theorem ok_atom_text {f : Addr} {fd : FuncData} (T : Facts w K mg CM) (F : Fun K "atom_text" "atom_text" s_atom_text f fd) (c_is_word : Fn0 P w K mg base 1 "is_word" (spWord K)) (c_is_short : Fn0 P w K mg base 2 "is_short" (spShort K)) :
    FnOk P w K mg base (L2.CX P w) 3 f fd ["value"] (spAtom K CM) := by
  refine F.okX sc_atom_text (fun vs H Q E h => ?_) (fun cdv A outer s H vs Q E hr h => ?_)
  · obtain ⟨v, d, rfl, _⟩ := h
    rfl
  · obtain ⟨v, d, rfl, hd, hz, q1, q2⟩ := h
    refine ⟨_, (pss_cons (ps_if (pt_val (pe_callB (call_isiA (K := K)) (by rfl) T.b_isinstance (by decide +kernel) (pa_cons (pv 0) (pa_cons (pe_bltn (v := .ty "bool") (by rfl) T.b_bool (by decide +kernel) rfl) pa_nil)))) (pss_one (ps_ret (pe_ifExp (pt_val (pv 0)) pe_str pe_str))) pss_nil)
    (pss_cons (ps_if (PW.pt (pw_and (pt_not (pt_val (pe_f0 c_is_word hr (by decide) (pa_cons (pv 0) pa_nil)))) (pw_and (pt_not (pt_val (pe_f0 c_is_short hr (by decide) (pa_cons (pv 0) pa_nil)))) (pw_and1 (pt_not (PW.pt (pw_and (pt_val (pe_callB (call_isiA (K := K)) (by rfl) T.b_isinstance (by decide +kernel) (pa_cons (pv 0) (pa_cons (pe_bltn (v := .ty "str") (by rfl) T.b_str (by decide +kernel) rfl) pa_nil)))) (pw_and1 (pt_cmpR (op_eqA (K := K) hr.units) (pv 0) pe_str (nomark _)))))))))) (pss_one (ps_raise rfl (takes_of rfl rfl rfl rfl) (pmk_own PySem.F.excBase_ValueError T.x_Malformed T.g_Malformed T.k_Malformed (raises_own T.s_Malformed T.t_Malformed) (by rfl)))) pss_nil)
    (pss_one (ps_ret (pe_ifExp (pt_cmpR (op_neA (K := K) hr.units) (pv 0) pe_str (nomark _)) (pe_callTy (call_strA rfl T.digits) (by rfl) T.b_str (by decide +kernel) (pa_cons (pv 0) pa_nil)) pe_str))))), ?_⟩
    try dsimp only [cxOf]
    refine w_start (show _ = [some _] from rfl) ?_
    walk_at "go"
    cases hb : isBoolD d with
    | true =>
      cases d with
      | bool b =>
        cases hd
        walk_at "go"
        cases b with
        | true =>
          walk_at "go"
          exact q1 _ rfl H (Same.refl H)
        | false =>
          walk_at "go"
          exact q1 _ rfl H (Same.refl H)
      | _ => cases hb
    | false =>
      walk_at "go"
      refine ⟨v, d, rfl, hd, hz, fun H1 e1 => ?_⟩
      have hd1 := Dp.same e1 d v hd
      walk_at "go"
      cases d with
      | bool b => cases hb
      | str s =>
        cases hd
        cases hw : isWordT s.cps.toList with
        | true =>
          have hw' : isWord (.str s) = true := hw
          walk_at "go"
          have hn : ¬ s = "" := by
            intro z
            rw [z] at hw
            exact absurd hw (by decide)
          walk_at "go"
          exact q1 s (by show (if isWordT s.cps.toList = true then some s else _) = some s; rw [if_pos hw]) H1 e1
        | false =>
          have hw' : isWord (.str s) = false := hw
          walk_at "go"
          refine ⟨_, _, rfl, .str s, ?_⟩
          have hs : isShort (.str s) = false := rfl
          walk_at "go"
          by_cases hn : s = ""
          · subst hn
            walk_at "go"
            exact q1 "." rfl H1 e1
          · walk_at "go"
            refine q2 ?_ H1 e1
            show (if isWordT s.cps.toList = true then some s else if s = "" then some "." else none) = none
            rw [hw, if_neg Bool.false_ne_true, if_neg hn]
      | int i =>
        cases hd
        have hw' : isWord (.int i) = false := rfl
        walk_at "go"
        refine ⟨_, _, rfl, .int i, ?_⟩
        by_cases hs : i.natAbs < 10 ^ 4000
        · have hs' : isShort (.int i) = true := decide_eq_true hs
          walk_at "go"
          refine .inl ⟨rfl, ?_⟩
          walk_at "go"
          refine w_str_int (Nat.lt_of_lt_of_le hs pow43) ?_
          exact q1 _ (if_pos hs) H1 e1
        · have hs' : isShort (.int i) = false := decide_eq_false hs
          walk_at "go"
          exact q2 (if_neg hs) H1 e1
      | none =>
        cases hd
        have hw' : isWord .none = false := rfl
        walk_at "go"
        refine ⟨_, _, rfl, .non, ?_⟩
        have hs' : isShort .none = false := rfl
        walk_at "go"
        exact q2 rfl H1 e1
      | list ds =>
        have hw' : isWord (.list ds) = false := rfl
        walk_at "go"
        refine ⟨_, _, rfl, hd1, ?_⟩
        have hs' : isShort (.list ds) = false := rfl
        walk_at "go"
        exact q2 rfl H1 e1
      | tuple ds =>
        have hw' : isWord (.tuple ds) = false := rfl
        walk_at "go"
        refine ⟨_, _, rfl, hd1, ?_⟩
        have hs' : isShort (.tuple ds) = false := rfl
        walk_at "go"
        exact q2 rfl H1 e1
      | dict _ => cases hd
end
end K53

set_option exponentiation.threshold 256
set_option Elab.async false
set_option linter.all false
set_option maxRecDepth 100000
set_option maxHeartbeats 4000000
set_option exponentiation.threshold 10
namespace K53
open PySem PySem.Spec PyProof.Rows L2 Lay DataM
local macro_rules | `(tactic| walk_at "1") => `(tactic| first
  | with_reducible refine w_seq ?_
  | ((with_reducible refine w_var (v := ?vv) ?hv ?_); (case hv => rfl))
  | with_reducible refine w_c ?_
  | with_reducible refine w_m1 ?_
  | with_reducible refine w_isstr ?_
  | with_reducible refine w_bm0 ?_
  | with_reducible refine w_bm ?_
  | with_reducible refine w_gcons ?_
  | with_reducible refine w_gnil ?_
  | ((with_reducible refine w_ty (xs := ?vv) ?hv ?_); (case hv => walk_at "hx"))
  | ((with_reducible refine w_gtup (xs := ?vv) ?hv ?hl ?_); (case hv => walk_at "hx"); (case hl => rfl))
  | with_reducible refine w_for1 ?_
  | with_reducible refine w_for2 ?_
  | with_reducible refine w_for3 ?_
  | with_reducible refine w_forA ?_
  | with_reducible refine w_forE ?_
  | ((with_reducible refine w_aug (x := ?vv) ?hv ?_); (case hv => rfl))
  | with_reducible refine w_op ?_
  | with_reducible refine w_cb ?_
  | with_reducible refine w_acons ?_
  | with_reducible refine w_anil ?_
  | with_reducible refine w_set ?_
  | with_reducible refine w_if ?_
  | with_reducible refine w_test ?_
  | with_reducible refine w_tB ?_
  | with_reducible refine w_bl ?_
  | with_reducible refine w_and ?_
  | with_reducible refine w_or ?_
  | with_reducible refine w_not ?_
  | with_reducible refine w_iteT ?_
  | with_reducible refine w_iteF ?_
  | with_reducible refine w_ret ?_
  | with_reducible refine w_next ?_
  | with_reducible refine w_drop ?_
  | with_reducible refine w_call ?_
  | with_reducible refine w_ifx ?_
  | with_reducible refine w_andV ?_
  | with_reducible refine w_orV ?_
  | with_reducible refine w_notV ?_
  | with_reducible refine w_sl ?_
  | with_reducible refine w_nopart ?_
  | with_reducible refine w_part ?_
  | with_reducible refine w_exint ?_
  | with_reducible refine w_chain ?_
  | with_reducible refine w_par ?_
  | with_reducible refine w_two ?_
  | with_reducible refine w_par3 ?_
  | with_reducible refine w_three ?_
  | with_reducible refine w_asg ?_
  | with_reducible refine w_gset ?_
  | with_reducible refine w_retN ?_
  | with_reducible refine w_brk ?_
  | with_reducible refine w_cont ?_
  | with_reducible refine w_un ?_
  | with_reducible refine w_neg ?_
  | with_reducible refine w_callS ?_
  | with_reducible refine w_tup0 ?_
  | with_reducible refine w_lst0 ?_
  | with_reducible refine w_fld0 ?_
  | with_reducible refine w_meth ?_)
local macro_rules | `(tactic| walk_at "2") => `(tactic| first
  | with_reducible refine w_add_int ?_
  | with_reducible refine w_sub ?_
  | ((with_reducible refine w_add_str ?hl ?_); (case hl => walk_at "len"))
  | ((with_reducible refine w_mod ?hl ?_); (case hl => first | decide | omega))
  | ((with_reducible refine w_fdiv ?h1 ?h2 ?_); (case h1 => first | decide | omega); (case h2 => first | decide | omega))
  | ((with_reducible refine w_mulR ?h1 ?h2 ?_); (case h1 => first | decide | omega); (case h2 => first | decide | omega))
  | ((with_reducible refine w_mulL ?h1 ?h2 ?_); (case h1 => first | decide | omega); (case h2 => first | decide | omega))
  | with_reducible refine w_iadd_int ?_
  | ((with_reducible refine w_iadd_str ?hl ?_); (case hl => walk_at "len"))
  | ((with_reducible refine w_mk ?hl ?_); (case hl => first | decide | (walk_at "len")))
  | with_reducible refine w_lt_int ?_
  | with_reducible refine w_lt_str ?_
  | with_reducible refine w_le_int ?_
  | with_reducible refine w_le_str ?_
  | with_reducible refine w_gt ?_
  | with_reducible refine w_ge ?_
  | with_reducible refine w_eq_int ?_
  | with_reducible refine w_eq_str ?_
  | with_reducible refine w_ne_int ?_
  | with_reducible refine w_ne_str ?_
  | ((with_reducible refine w_isInt (d := ?vd) ?hd ?_); (case hd => walk_at "dp"))
  | ((with_reducible refine w_isBool (d := ?vd) ?hd ?_); (case hd => walk_at "dp"))
  | ((with_reducible refine w_isStr (d := ?vd) ?hd ?_); (case hd => walk_at "dp"))
  | ((with_reducible refine w_isTup (d := ?vd) ?hd ?_); (case hd => walk_at "dp"))
  | ((with_reducible refine w_isLst (d := ?vd) ?hd ?_); (case hd => walk_at "dp"))
  | refine w_in_str ?_
  | refine w_nin_str ?_
  | with_reducible refine w_is ?_
  | with_reducible refine w_isnot ?_
  | ((with_reducible refine w_len_str ?hl ?_); (case hl => walk_at "len"))
  | ((with_reducible refine w_len (xs := ?vv) ?hl ?_); (case hl => walk_at "hx"))
  | with_reducible refine w_int_int ?_
  | with_reducible refine w_str_str ?_
  | with_reducible refine w_abs ?_
  | ((with_reducible refine w_sl_str ?hl ?_); (case hl => walk_at "len"))
  | ((with_reducible refine w_fldAt (C := ?vC) (dx := ?vdx) (fs := ?vfs) (v := ?vv) ?h1 ?h2 ?h3 ?h4 ?_); (case h1 => walk_at "hx"); (case h2 => assumption); (case h3 => assumption); (case h4 => rfl))
  | ((with_reducible refine w_iteP ?h1 ?_); (case h1 => walk_at "yes"))
  | ((with_reducible refine w_iteN ?h1 ?_); (case h1 => walk_at "no")))
local macro_rules | `(tactic| walk_at "yes") => `(tactic| first | assumption | ((with_reducible refine bnotT ?_); walk_at "no") | (refine decide_eq_true ?_; first | assumption | omega) | exact rfl)
local macro_rules | `(tactic| walk_at "no") => `(tactic| first | assumption | ((with_reducible refine bnotF ?_); walk_at "yes") | (refine decide_eq_false ?_; first | assumption | omega) | exact rfl)
local macro_rules | `(tactic| walk_at "len") => `(tactic| first | assumption | omega | decide)
local macro_rules | `(tactic| walk_at "ne") => `(tactic| first | assumption | (refine Ne.symm ?_; assumption))
local macro_rules | `(tactic| walk_at "hx") => `(tactic| first
  | assumption
  | exact upd_same
  | ((with_reducible refine sqa_l ?_); walk_at "hx")
  | ((with_reducible refine sqa_t ?_); walk_at "hx")
  | ((with_reducible refine SqL.of ?_); walk_at "hx")
  | ((with_reducible refine SqT.of ?_); walk_at "hx")
  | ((with_reducible refine at_same (by assumption) ?_); walk_at "hx")
  | ((with_reducible refine at_but (by assumption) ?hne ?_); (case hne => walk_at "ne"); walk_at "hx")
  | ((with_reducible refine Txt.tup (by assumption) _ _ ?_); walk_at "hx")
  | ((with_reducible refine Same.seq (by assumption) ?_); walk_at "hx")
  | ((with_reducible refine Same.seqT (by assumption) ?_); walk_at "hx")
  | ((with_reducible refine Dp.same (by assumption) _ _ ?_); walk_at "hx")
  | ((with_reducible refine DpAll.same (by assumption) _ _ ?_); walk_at "hx"))
local macro_rules | `(tactic| walk_at "go") => `(tactic| repeat (first | walk_at "1" | walk_at "2"))
local macro_rules | `(tactic| walk_at "dp") => `(tactic| first | exact .int _ | exact .str _ | exact .bl _ | exact .non | walk_at "hx")

mutual
def wrd : PyData → Nat → Option Tx
  | .tuple ds, n => if n ≤ 1000 then (wrdj ds (n + 1)).map fun l => 91 :: (l ++ [93]) else none
  | .bool b, _ => (atomP (.bool b)).map fun s => s.cps.toList
  | .int i, _ => (atomP (.int i)).map fun s => s.cps.toList
  | .str s, _ => (atomP (.str s)).map fun s => s.cps.toList
  | .none, _ => none
  | .list _, _ => none
  | .dict _, _ => none
def wrdj : List PyData → Nat → Option Tx
  | [], _ => some []
  | d :: ds, n => (wrd d n).bind fun a => (wrdj ds n).map fun b => if ds.isEmpty then a else a ++ 44 :: b
end
mutual
def siz : PyData → Nat
  | .tuple ds => sizs ds + 2
  | _ => 1
def sizs : List PyData → Nat
  | [] => 0
  | d :: ds => siz d + 1 + sizs ds
end
mutual
def fitS : PyData → Prop
  | .tuple ds => fitSs ds
  | .str s => s.length ≤ 1000000
  | _ => True
def fitSs : List PyData → Prop
  | [] => True
  | d :: ds => fitS d ∧ fitSs ds
end
theorem fitS_short : ∀ {d : PyData}, fitS d → shortS d
  | .str s, h => h
  | .none, _ | .bool _, _ | .int _, _ | .list _, _ | .tuple _, _ | .dict _, _ => trivial
theorem fitSs_get : ∀ {ds : List PyData} {i : Nat} {d : PyData}, fitSs ds → ds[i]? = some d → fitS d
  | [], i, d, _, e => by simp at e
  | a :: ds, 0, d, h, e => by
    simp at e
    subst e
    simp only [fitSs] at h
    exact h.1
  | a :: ds, i + 1, d, h, e => by
    simp only [fitSs] at h
    exact fitSs_get (i := i) h.2 (by simpa using e)
inductive Wk where
  | lit (s : Str)
  | dat (d : PyData) (n : Nat)
def Wk.out : Wk → Option Tx
  | .lit s => some s.cps.toList
  | .dat d n => wrd d n
def den : List Wk → Option Tx
  | [] => some []
  | w :: ws => w.out.bind fun a => (den ws).map fun b => a ++ b
def Wk.mu : Wk → Nat
  | .lit _ => 1
  | .dat d _ => siz d
def mus : List Wk → Nat
  | [] => 0
  | w :: ws => w.mu + mus ws
def more (n : Nat) : List PyData → List Wk
  | [] => []
  | d :: ds => .lit "," :: .dat d n :: more n ds
def items (n : Nat) : List PyData → List Wk
  | [] => []
  | d :: ds => .dat d n :: more n ds
theorem den_append : ∀ (a b : List Wk), den (a ++ b) = (den a).bind fun x => (den b).map fun y => x ++ y
  | [], b => by
    show den b = _
    cases den b <;> rfl
  | w :: a, b => by
    rw [List.cons_append]
    simp only [den]
    rw [den_append a b]
    cases w.out with
    | none => rfl
    | some x =>
      cases den a with
      | none => rfl
      | some y =>
        cases den b with
        | none => rfl
        | some z => simp
theorem mus_append : ∀ (a b : List Wk), mus (a ++ b) = mus a + mus b
  | [], b => by simp [mus]
  | w :: a, b => by
    show w.mu + mus (a ++ b) = w.mu + mus a + mus b
    rw [mus_append a b]
    omega
theorem den_more (n : Nat) : ∀ ds : List PyData, den (more n ds) = if ds.isEmpty then some [] else (wrdj ds n).map fun l => 44 :: l
  | [] => rfl
  | d :: ds => by
    show (Wk.lit ",").out.bind _ = _
    simp only [den, Wk.out, den_more n ds, wrdj]
    cases wrd d n with
    | none => rfl
    | some a =>
      cases ds with
      | nil =>
        simp [wrdj]
        rfl
      | cons d2 ds =>
        cases h : wrdj (d2 :: ds) n with
        | none => rfl
        | some b => simp; rfl
theorem den_items (n : Nat) : ∀ ds : List PyData, den (items n ds) = wrdj ds n
  | [] => rfl
  | d :: ds => by
    simp only [items, den, Wk.out, den_more, wrdj]
    cases wrd d n with
    | none => rfl
    | some a =>
      cases ds with
      | nil => simp [wrdj]
      | cons d2 ds =>
        cases h : wrdj (d2 :: ds) n with
        | none => rfl
        | some b => simp
theorem mus_more (n : Nat) : ∀ ds : List PyData, mus (more n ds) = sizs ds
  | [] => rfl
  | d :: ds => by
    simp only [more, mus, Wk.mu, mus_more n ds, sizs]
    omega
theorem mus_items (n : Nat) : ∀ ds : List PyData, mus (items n ds) ≤ sizs ds
  | [] => Nat.le_refl _
  | d :: ds => by
    simp only [items, mus, Wk.mu, mus_more, sizs]
    omega
theorem siz_pos : ∀ d : PyData, 1 ≤ siz d
  | .tuple ds => by simp only [siz]; omega
  | .none | .bool _ | .int _ | .str _ | .list _ | .dict _ => by simp [siz]
theorem mus_len : ∀ ws : List Wk, ws.length ≤ mus ws
  | [] => Nat.le_refl _
  | w :: ws => by
    have := mus_len ws
    cases w with
    | lit s => simp only [List.length_cons, mus, Wk.mu]; omega
    | dat d n =>
      have := siz_pos d
      simp only [List.length_cons, mus, Wk.mu]
      omega
def Aim (goal : Option Tx) (found : Tx) (ws : List Wk) : Prop := (den ws).map (fun r => found ++ r) = goal
theorem Aim.tup {goal : Option Tx} {found : Tx} {ds : List PyData} {n : Nat} {ws : List Wk} (hn : n ≤ 1000) (h : Aim goal found (.dat (.tuple ds) n :: ws)) : Aim goal (found ++ [91]) (items (n + 1) ds ++ .lit "]" :: ws) := by
  unfold Aim at h ⊢
  rw [← h, den_append, den_items]
  simp only [den, Wk.out, wrd, if_pos hn]
  cases wrdj ds (n + 1) with
  | none => rfl
  | some l =>
    cases den ws with
    | none => rfl
    | some r =>
      have e : (Str.ofString "]").cps.toList = [93] := rfl
      simp [e]
theorem Aim.step {goal : Option Tx} {found a : Tx} {w : Wk} {ws : List Wk} (hw : w.out = some a) (h : Aim goal found (w :: ws)) : Aim goal (found ++ a) ws := by
  unfold Aim at h ⊢
  rw [← h]
  simp only [den, hw]
  cases den ws with
  | none => rfl
  | some r => simp
theorem Aim.stop {goal : Option Tx} {found : Tx} {w : Wk} {ws : List Wk} (hw : w.out = none) (h : Aim goal found (w :: ws)) : goal = none := by
  unfold Aim at h
  rw [← h]
  simp [den, hw]
theorem wrd_big {ds : List PyData} {n : Nat} (h : ¬ n ≤ 1000) : wrd (.tuple ds) n = none := by
  simp only [wrd, if_neg h]
theorem wrd_atom {d : PyData} {n : Nat} (h : isTupD d = false) : wrd d n = (atomP d).map fun s => s.cps.toList := by
  cases d <;> first | rfl | cases h
theorem foldl_app : ∀ (l : List Str) (a : Array Nat), (l.foldl (fun acc s => acc ++ s.cps) a).toList = a.toList ++ (l.map fun s => s.cps.toList).flatten
  | [], a => by simp
  | s :: l, a => by
    rw [List.foldl_cons, foldl_app l]
    simp
end K53

set_option exponentiation.threshold 256
set_option Elab.async false
set_option linter.all false
set_option maxRecDepth 100000
set_option maxHeartbeats 4000000
set_option exponentiation.threshold 10
namespace K53
open PySem PySem.Spec PyProof.Rows L2 Lay DataM
local macro_rules | `(tactic| walk_at "1") => `(tactic| first
  | with_reducible refine w_seq ?_
  | ((with_reducible refine w_var (v := ?vv) ?hv ?_); (case hv => rfl))
  | with_reducible refine w_c ?_
  | with_reducible refine w_m1 ?_
  | with_reducible refine w_isstr ?_
  | with_reducible refine w_bm0 ?_
  | with_reducible refine w_bm ?_
  | with_reducible refine w_gcons ?_
  | with_reducible refine w_gnil ?_
  | ((with_reducible refine w_ty (xs := ?vv) ?hv ?_); (case hv => walk_at "hx"))
  | ((with_reducible refine w_gtup (xs := ?vv) ?hv ?hl ?_); (case hv => walk_at "hx"); (case hl => rfl))
  | with_reducible refine w_for1 ?_
  | with_reducible refine w_for2 ?_
  | with_reducible refine w_for3 ?_
  | with_reducible refine w_forA ?_
  | with_reducible refine w_forE ?_
  | ((with_reducible refine w_aug (x := ?vv) ?hv ?_); (case hv => rfl))
  | with_reducible refine w_op ?_
  | with_reducible refine w_cb ?_
  | with_reducible refine w_acons ?_
  | with_reducible refine w_anil ?_
  | with_reducible refine w_set ?_
  | with_reducible refine w_if ?_
  | with_reducible refine w_test ?_
  | with_reducible refine w_tB ?_
  | with_reducible refine w_bl ?_
  | with_reducible refine w_and ?_
  | with_reducible refine w_or ?_
  | with_reducible refine w_not ?_
  | with_reducible refine w_iteT ?_
  | with_reducible refine w_iteF ?_
  | with_reducible refine w_ret ?_
  | with_reducible refine w_next ?_
  | with_reducible refine w_drop ?_
  | with_reducible refine w_call ?_
  | with_reducible refine w_ifx ?_
  | with_reducible refine w_andV ?_
  | with_reducible refine w_orV ?_
  | with_reducible refine w_notV ?_
  | with_reducible refine w_sl ?_
  | with_reducible refine w_nopart ?_
  | with_reducible refine w_part ?_
  | with_reducible refine w_exint ?_
  | with_reducible refine w_chain ?_
  | with_reducible refine w_par ?_
  | with_reducible refine w_two ?_
  | with_reducible refine w_par3 ?_
  | with_reducible refine w_three ?_
  | with_reducible refine w_asg ?_
  | with_reducible refine w_gset ?_
  | with_reducible refine w_retN ?_
  | with_reducible refine w_brk ?_
  | with_reducible refine w_cont ?_
  | with_reducible refine w_un ?_
  | with_reducible refine w_neg ?_
  | with_reducible refine w_callS ?_
  | with_reducible refine w_tup0 ?_
  | with_reducible refine w_lst0 ?_
  | with_reducible refine w_fld0 ?_
  | with_reducible refine w_meth ?_)
local macro_rules | `(tactic| walk_at "2") => `(tactic| first
  | with_reducible refine w_add_int ?_
  | with_reducible refine w_sub ?_
  | ((with_reducible refine w_add_str ?hl ?_); (case hl => walk_at "len"))
  | ((with_reducible refine w_mod ?hl ?_); (case hl => first | decide | omega))
  | ((with_reducible refine w_fdiv ?h1 ?h2 ?_); (case h1 => first | decide | omega); (case h2 => first | decide | omega))
  | ((with_reducible refine w_mulR ?h1 ?h2 ?_); (case h1 => first | decide | omega); (case h2 => first | decide | omega))
  | ((with_reducible refine w_mulL ?h1 ?h2 ?_); (case h1 => first | decide | omega); (case h2 => first | decide | omega))
  | with_reducible refine w_iadd_int ?_
  | ((with_reducible refine w_iadd_str ?hl ?_); (case hl => walk_at "len"))
  | ((with_reducible refine w_mk ?hl ?_); (case hl => walk_at "len"))
  | with_reducible refine w_lt_int ?_
  | with_reducible refine w_lt_str ?_
  | with_reducible refine w_le_int ?_
  | with_reducible refine w_le_str ?_
  | with_reducible refine w_gt ?_
  | with_reducible refine w_ge ?_
  | with_reducible refine w_eq_int ?_
  | with_reducible refine w_eq_str ?_
  | with_reducible refine w_ne_int ?_
  | with_reducible refine w_ne_str ?_
  | ((with_reducible refine w_isInt (d := ?vd) ?hd ?_); (case hd => walk_at "dp"))
  | ((with_reducible refine w_isBool (d := ?vd) ?hd ?_); (case hd => walk_at "dp"))
  | ((with_reducible refine w_isStr (d := ?vd) ?hd ?_); (case hd => walk_at "dp"))
  | ((with_reducible refine w_isTup (d := ?vd) ?hd ?_); (case hd => walk_at "dp"))
  | ((with_reducible refine w_isLst (d := ?vd) ?hd ?_); (case hd => walk_at "dp"))
  | refine w_in_str ?_
  | refine w_nin_str ?_
  | with_reducible refine w_is ?_
  | with_reducible refine w_isnot ?_
  | ((with_reducible refine w_len_str ?hl ?_); (case hl => walk_at "len"))
  | ((with_reducible refine w_len (xs := ?vv) ?hl ?_); (case hl => walk_at "hx"))
  | with_reducible refine w_int_int ?_
  | with_reducible refine w_str_str ?_
  | with_reducible refine w_abs ?_
  | ((with_reducible refine w_sl_str ?hl ?_); (case hl => walk_at "len"))
  | ((with_reducible refine w_fldAt (C := ?vC) (dx := ?vdx) (fs := ?vfs) (v := ?vv) ?h1 ?h2 ?h3 ?h4 ?_); (case h1 => walk_at "hx"); (case h2 => assumption); (case h3 => assumption); (case h4 => rfl))
  | ((with_reducible refine w_iteP ?h1 ?_); (case h1 => walk_at "yes"))
  | ((with_reducible refine w_iteN ?h1 ?_); (case h1 => walk_at "no")))
local macro_rules | `(tactic| walk_at "yes") => `(tactic| first | assumption | ((with_reducible refine bnotT ?_); walk_at "no") | (refine decide_eq_true ?_; first | assumption | omega) | exact rfl)
local macro_rules | `(tactic| walk_at "no") => `(tactic| first | assumption | ((with_reducible refine bnotF ?_); walk_at "yes") | (refine decide_eq_false ?_; first | assumption | omega) | exact rfl)
local macro_rules | `(tactic| walk_at "len") => `(tactic| first | assumption | exact Nat.le_of_ble_eq_true rfl | omega | decide | (simp only [List.length_append, List.length_cons, List.length_nil, List.length_map]; omega))
local macro_rules | `(tactic| walk_at "ne") => `(tactic| first | assumption | (refine Ne.symm ?_; assumption))
local macro_rules | `(tactic| walk_at "hx") => `(tactic| first
  | assumption
  | exact upd_same
  | ((with_reducible refine sqa_l ?_); walk_at "hx")
  | ((with_reducible refine sqa_t ?_); walk_at "hx")
  | ((with_reducible refine SqL.of ?_); walk_at "hx")
  | ((with_reducible refine SqT.of ?_); walk_at "hx")
  | ((with_reducible refine at_same (by assumption) ?_); walk_at "hx")
  | ((with_reducible refine at_but (by assumption) ?hne ?_); (case hne => walk_at "ne"); walk_at "hx")
  | ((with_reducible refine Txt.tup (by assumption) _ _ ?_); walk_at "hx")
  | ((with_reducible refine Same.seq (by assumption) ?_); walk_at "hx")
  | ((with_reducible refine Same.seqT (by assumption) ?_); walk_at "hx")
  | ((with_reducible refine Dp.same (by assumption) _ _ ?_); walk_at "hx")
  | ((with_reducible refine DpAll.same (by assumption) _ _ ?_); walk_at "hx"))
local macro_rules | `(tactic| walk_at "go") => `(tactic| repeat (first | walk_at "1" | walk_at "2"))
local macro_rules | `(tactic| walk_at "dp") => `(tactic| first | exact .int _ | exact .str _ | exact .bl _ | exact .non | walk_at "hx")

section
variable {P : Program} {w : World} {K : PySem.W.Frag} {mg : Str → Option Value} {base : Heap} {CM : Addr}
inductive WkAt (K : PySem.W.Frag) (H0 H : Hp) : V → Wk → Prop
  | lit {t : Addr} {s : Str} (h : H t = some (.tup [.str s, .int 0])) : WkAt K H0 H (.ref t) (.lit s)
  | dat {t : Addr} {u : V} {d : PyData} {n : Nat} (h : H t = some (.tup [u, .int (n : Nat)])) (hn : 1 ≤ n) (hd : Dp K H0 u d) (hf : fitS d) : WkAt K H0 H (.ref t) (.dat d n)
theorem WkAt.txt {H0 H H' : Hp} {v : V} {k : Wk} (e : Txt H H') (h : WkAt K H0 H v k) : WkAt K H0 H' v k := by
  cases h with
  | lit h => exact .lit (e.tup _ _ h)
  | dat h hn hd hf => exact .dat (e.tup _ _ h) hn hd hf
abbrev WksAt (K : PySem.W.Frag) (H0 H : Hp) : List V → List Wk → Prop := Paired (WkAt K H0 H)
theorem WksAt.txt {H0 H H' : Hp} {vs : List V} {ks : List Wk} (e : Txt H H') (h : WksAt K H0 H vs ks) : WksAt K H0 H' vs ks := Paired.mapP h fun _ _ q => q.txt e
def spWrite (K : PySem.W.Frag) (CM : Addr) : Sp := fun vs H Q E => ∃ v d, vs = [v] ∧ Dp K H v d ∧ fitS d ∧ siz d ≤ 1000000 ∧ (∀ l, wrd d 1 = some l → l.length ≤ 10000000) ∧
  (∀ l, wrd d 1 = some l → ∀ H', Same H H' → Q (.str ⟨l.toArray⟩) H') ∧ (wrd d 1 = none → ∀ H', Same H H' → E (.ref CM) none H')
theorem len_sizs : ∀ ds : List PyData, ds.length ≤ sizs ds
  | [] => Nat.le_refl _
  | d :: ds => by
    have := len_sizs ds
    simp only [List.length_cons, sizs]
    omega
def WI (K : PySem.W.Frag) (H : Hp) (d : PyData) (v : V) (pw pf : Addr) (ws : List Wk) (σ : L2.St) (H' : Hp) : Prop := ∃ vs, ∃ parts : List Str, (∃ o1 o2 o3, σ = [some v, some (.ref pw), some (.ref pf), o1, o2, o3]) ∧ Same H H' ∧ H' pw = some (.lst vs.reverse) ∧ WksAt K H H' vs ws ∧
  H' pf = some (.lst (parts.map V.str)) ∧ Aim (wrd d 1) (parts.map fun s => s.cps.toList).flatten ws ∧ parts.length + mus ws ≤ siz d
theorem isTup_ex {d : PyData} (h : isTupD d = true) : ∃ ds, d = .tuple ds := by
  cases d with
  | tuple ds => exact ⟨ds, rfl⟩
  | _ => cases h
def stk (n : Nat) (ds : List PyData) (i : Nat) : List Wk := if i < ds.length then more (n + 1) (ds.drop (ds.length - i)) else items (n + 1) ds
theorem stk_zero (n : Nat) (ds : List PyData) : stk n ds 0 = [] := by
  unfold stk
  split
  · rw [Nat.sub_zero, List.drop_length]
    rfl
  · cases ds with
    | nil => rfl
    | cons d ds => simp at *
theorem stk_last (n : Nat) (ds : List PyData) : stk n ds ds.length = items (n + 1) ds := if_neg (Nat.lt_irrefl _)
theorem stk_more {n : Nat} {ds : List PyData} {i : Nat} {d : PyData} (h : i + 1 < ds.length) (hd : ds[ds.length - 1 - i]? = some d) : stk n ds (i + 1) = .lit "," :: .dat d (n + 1) :: stk n ds i := by
  unfold stk
  rw [if_pos h, if_pos (by omega)]
  have e : ds.drop (ds.length - (i + 1)) = d :: ds.drop (ds.length - i) := by
    have e1 : ds.length - (i + 1) = ds.length - 1 - i := by omega
    have e2 : ds.length - i = ds.length - 1 - i + 1 := by omega
    obtain ⟨hl, hg⟩ := List.getElem?_eq_some_iff.mp hd
    rw [e1, e2, List.drop_eq_getElem_cons hl, hg]
  rw [e]
  rfl
theorem stk_end {n : Nat} {ds : List PyData} {i : Nat} {d : PyData} (h : i + 1 = ds.length) (hd : ds[ds.length - 1 - i]? = some d) : stk n ds (i + 1) = .dat d (n + 1) :: stk n ds i := by
  unfold stk
  rw [if_neg (by omega), if_pos (by omega)]
  have e : ds = d :: ds.drop (ds.length - i) := by
    have e1 : ds.length - 1 - i = 0 := by omega
    have e2 : ds.length - i = 1 := by omega
    rw [e1] at hd
    rw [e2]
    cases ds with
    | nil => simp at hd
    | cons a ds =>
      simp at hd
      rw [hd]
      rfl
  conv => lhs; rw [e]
  rfl
theorem sizs_drop : ∀ (ds : List PyData) (k : Nat), sizs (ds.drop k) ≤ sizs ds
  | [], k => by simp
  | d :: ds, 0 => Nat.le_refl _
  | d :: ds, k + 1 => by
    have := sizs_drop ds k
    simp only [List.drop_succ_cons, sizs]
    omega
theorem mus_stk (n : Nat) (ds : List PyData) (i : Nat) : mus (stk n ds i) ≤ sizs ds := by
  unfold stk
  split
  · rw [mus_more]
    exact sizs_drop _ _
  · exact mus_items _ _
theorem ok_write_data {f : Addr} {fd : FuncData} (T : Facts w K mg CM) (F : Fun K "write_data" "write_data" s_write_data f fd) (c_atom_text : FnX P w K mg base 3 "atom_text" (spAtom K CM)) :
    FnOk P w K mg base (L2.CX P w) 4 f fd ["data"] (spWrite K CM) := by
  refine F.okX sc_write_data (fun vs H Q E h => ?_) (fun cdv A outer s H vs Q E hr h => ?_)
  · obtain ⟨v, d, rfl, _⟩ := h
    rfl
  · obtain ⟨v, d, rfl, hd, hf, hz, hl, q1, q2⟩ := h
    refine ⟨_, (pss_cons (ps_par (i := 1) (j := 2) rfl sc_write_data.nd rfl rfl (by decide) rfl rfl (pa_cons (pe_lstG (pa_cons (pe_tupG (pa_cons (pv 0) (pa_cons pe_int pa_nil))) pa_nil)) (pa_cons (pe_lstG pa_nil) pa_nil)) (by rfl))
    (pss_cons (ps_while (passes_of rfl) (pt_cmpR op_gtA (pe_callB (call_lenA (K := K)) (by rfl) T.b_len (by decide +kernel) (pa_cons (pv 1) pa_nil)) pe_int (nomark _)) (pss_cons (ps_asg (pe_bm0 PySem.F.plainAttrs_list PySem.F.slot_list_pop PySem.F.type_list_pop mt_pop (pv 1)) (tup_A (K := K) (n := 2) rfl (pgs_cons (pg_name (i := 3) sc_write_data.nd rfl (by first | exact Or.inl rfl | exact Or.inr rfl)) (pgs_cons (pg_name (i := 4) sc_write_data.nd rfl (by first | exact Or.inl rfl | exact Or.inr rfl)) pgs_nil))))
    (pss_one (ps_if (pt_cmpR (op_eqA (K := K) hr.units) (pv 4) pe_int (nomark _)) (pss_one (ps_expr (pe_bm PySem.F.plainAttrs_list PySem.F.slot_list_append PySem.F.type_list_append mt_append (pv 2) (pa_cons (pv 3) pa_nil)))) (pss_one (ps_if (PW.pt (pw_and (pt_val (pe_callB (call_isiA (K := K)) (by rfl) T.b_isinstance (by decide +kernel) (pa_cons (pv 3) (pa_cons (pe_bltn (v := .ty "tuple") (by rfl) T.b_tuple (by decide +kernel) rfl) pa_nil)))) (pw_and1 (pt_cmpR op_leA (pv 4) (pe_gc (by rfl) T.c_MOST_DEPTH) (nomark _))))) (pss_cons (ps_expr (pe_bm PySem.F.plainAttrs_list PySem.F.slot_list_append PySem.F.type_list_append mt_append (pv 2) (pa_cons pe_str pa_nil)))
    (pss_cons (ps_expr (pe_bm PySem.F.plainAttrs_list PySem.F.slot_list_append PySem.F.type_list_append mt_append (pv 1) (pa_cons (pe_tupG (pa_cons pe_str (pa_cons pe_int pa_nil))) pa_nil)))
    (pss_one (ps_for (passes_of rfl) rfl (pi_range3 (by rfl) T.b_range (pa_cons (pe_op op_subA (pe_callB (call_lenA (K := K)) (by rfl) T.b_len (by decide +kernel) (pa_cons (pv 3) pa_nil)) pe_int) (pa_cons (pe_un un_neg pe_int) (pa_cons (pe_un un_neg pe_int) pa_nil)))) (pg_name (i := 5) sc_write_data.nd rfl (by first | exact Or.inl rfl | exact Or.inr rfl)) (pss_cons (ps_expr (pe_bm PySem.F.plainAttrs_list PySem.F.slot_list_append PySem.F.type_list_append mt_append (pv 1) (pa_cons (pe_tupG (pa_cons (pe_ix (ix_A (K := K)) (pv 3) (pv 5) (fun _ _ => rfl)) (pa_cons (pe_op op_addA (pv 4) pe_int) pa_nil))) pa_nil)))
    (pss_one (ps_if (pt_cmpR op_gtA (pv 5) pe_int (nomark _)) (pss_one (ps_expr (pe_bm PySem.F.plainAttrs_list PySem.F.slot_list_append PySem.F.type_list_append mt_append (pv 1) (pa_cons (pe_tupG (pa_cons pe_str (pa_cons pe_int pa_nil))) pa_nil)))) pss_nil))))))) (pss_one (ps_expr (pe_bm PySem.F.plainAttrs_list PySem.F.slot_list_append PySem.F.type_list_append mt_append (pv 2) (pa_cons (pe_fx c_atom_text hr (by decide) (passes_call (takes_of rfl rfl rfl rfl) (fun _ _ _ _ h => h)) (pa_cons (pv 3) pa_nil)) pa_nil))))))))))
    (pss_one (ps_ret (join_A (K := K) pe_str (pv 2)))))), ?_⟩
    try dsimp only [cxOf]
    refine w_start (show _ = [some _, none, none, none, none, none] from rfl) ?_
    walk_at "go"
    intro t H1 n1 e1 h1
    walk_at "go"
    intro pw H2 n2 e2 h2
    walk_at "go"
    intro pf H3 n3 e3 h3
    walk_at "go"
    have np : H pw = none := none_same e1 n2
    have nf : H pf = none := none_same (e1.trans e2) n3
    have npf : pf ≠ pw := fun z => by
      rw [z, h2] at n3
      cases n3
    have e3' : Same H H3 := (e1.trans e2).trans e3
    refine w_while ⟨fun m σ' H' => ∃ ws, m = mus ws ∧ WI K H d v pw pf ws σ' H',
      ⟨siz d, [.dat d 1], rfl, [.ref t], [], ⟨none, none, none, rfl⟩, e3', e3 _ _ h2, .cons (.dat (n := 1) (e3 _ _ (e2 _ _ h1)) (Nat.le_refl _) hd hf) .nil, h3, ?_, ?_⟩, fun m σ' H' z => ?_⟩
    · simp [Aim, den, Wk.out]
    · simp [mus, Wk.mu]
    · obtain ⟨ws, rfl, vs, parts, ⟨o1, o2, o3, rfl⟩, e, hw, hk, hp, aim, hsz⟩ := z
      have hlw := mus_len ws
      have hlv := hk.length
      walk_at "go"
      cases hk with
      | nil =>
        walk_at "go"
        have ht : wrd d 1 = some (parts.map fun s => s.cps.toList).flatten := by
          rw [← aim]
          simp [den]
        have hle := hl _ ht
        have hsum : (parts.map (·.length)).sum + parts.length * (Str.ofString "").length ≤ 10000000 := by
          rw [← join_len]
          exact hle
        refine w_join (ys := parts) (.inl (SqL.of hp)) hsum ?_
        have ej : Txt.join (Str.ofString "") parts = ⟨(parts.map fun s => s.cps.toList).flatten.toArray⟩ := str_ext (join_flat parts)
        rw [ej]
        exact q1 _ ht _ e
      | @cons v1 k1 vs ws r1 hk =>
        have hpos : decide ((0 : Int) < (((v1 :: vs).reverse.length : Nat) : Int)) = true := decide_eq_true (by simp)
        walk_at "go"
        have hw' : H' pw = some (.lst (vs.reverse ++ [v1])) := by
          rw [hw, List.reverse_cons]
        refine ⟨fun σ2 H2 => ∃ ws2, mus ws2 < mus (k1 :: ws) ∧ WI K H d v pw pf ws2 σ2 H2, fun σ2 H2 z => ?_, ?_⟩
        · obtain ⟨ws2, hm, r⟩ := z
          exact ⟨_, hm, ws2, rfl, r⟩
        · walk_at "go"
          refine w_popG hw' fun H4 b4 t4 hw4 => ?_
          have e4 := same_but e b4 np
          have hp4 := b4 _ _ npf hp
          have hk4 := WksAt.txt t4 hk
          have finW : ∀ (s0 : Str) H5, But pf H4 H5 → Txt H4 H5 → H5 pf = some (.lst (parts.map V.str ++ [.str s0])) → k1.out = some s0.cps.toList → 1 ≤ k1.mu → ∀ a b c, ∃ ws2, mus ws2 < mus (k1 :: ws) ∧ WI K H d v pw pf ws2 [some v, some (.ref pw), some (.ref pf), a, b, c] H5 := fun s0 H5 b5 t5 hp5 ho hm a b c => by
            refine ⟨ws, ?_, vs, parts ++ [s0], ⟨_, _, _, rfl⟩, same_but e4 b5 nf, b5 _ _ (Ne.symm npf) hw4, WksAt.txt t5 hk4, ?_, ?_, ?_⟩
            · simp only [mus]
              omega
            · rw [hp5, List.map_append]
              rfl
            · rw [List.map_append, List.flatten_append]
              have := Aim.step (a := s0.cps.toList) ho aim
              simpa using this
            · simp only [mus, List.length_append, List.length_singleton] at hsz ⊢
              omega
          cases WkAt.txt t4 r1 with
          | @lit tt s0 ht =>
            walk_at "go"
            refine w_appG hp4 (by rw [List.length_map]; omega) fun H5 b5 t5 hp5 => ?_
            exact finW s0 H5 b5 t5 hp5 rfl (Nat.le_refl _) _ _ _
          | @dat tt u d2 n2 ht hn2 hd2 hf2 =>
            have hne : decide ((n2 : Int) = 0) = false := decide_eq_false (by omega)
            have hd4 := Dp.same e4 d2 u hd2
            have atom : isTupD d2 = false ∨ ¬ n2 ≤ 1000 → ∀ QQ : VK, (∀ (s0 : Str) H5, Same H4 H5 → wrd d2 n2 = some s0.cps.toList → QQ (.str s0) H5) → (∀ H5, Same H4 H5 → wrd d2 n2 = none → E (.ref CM) none H5) → spAtom K CM [u] H4 QQ E := fun hz QQ g1 g2 => by
              refine ⟨u, d2, rfl, hd4, fitS_short hf2, fun s0 hs H5 e5 => g1 s0 H5 e5 ?_, fun hs H5 e5 => g2 H5 e5 ?_⟩
              · cases ht : isTupD d2 with
                | false => rw [wrd_atom ht, hs] <;> rfl
                | true =>
                  obtain ⟨ds, rfl⟩ := isTup_ex ht
                  cases hs
              · cases ht : isTupD d2 with
                | false => rw [wrd_atom ht, hs] <;> rfl
                | true =>
                  rcases hz with hz | hz
                  · rw [ht] at hz
                    cases hz
                  · obtain ⟨ds, rfl⟩ := isTup_ex ht
                    exact wrd_big hz
            have atomT : ∀ (s0 : Str) H5, Same H4 H5 → wrd d2 n2 = some s0.cps.toList → rAppend (.ref pf) [.str s0] H5 fun x H1 => ∃ ws2, mus ws2 < mus (Wk.dat d2 n2 :: ws) ∧ WI K H d v pw pf ws2 [some v, some (.ref pw), some (.ref pf), some u, some (.int (n2 : Nat)), o3] H1 := fun s0 H5 e5 hs => by
              refine w_appG (e5 _ _ hp4) (by rw [List.length_map]; omega) fun H6 b6 t6 hp6 => ?_
              exact finW s0 H6 ((But.same e5).trans b6) ((Txt.same e5).trans t6) hp6 hs (siz_pos d2) _ _ _
            have atomF : ∀ H5, Same H4 H5 → wrd d2 n2 = none → E (.ref CM) none H5 := fun H5 e5 hs => q2 (Aim.stop (w := .dat d2 n2) hs aim) _ (e4.trans e5)
            walk_at "go"
            cases hT : isTupD d2 with
            | false =>
              walk_at "go"
              exact atom (.inl hT) _ (fun s0 H5 e5 hs => by
                walk_at "go"
                exact atomT s0 H5 e5 hs) atomF
            | true =>
              cases d2 with
              | tuple ds =>
                walk_at "go"
                refine w_ite (fun hb => ?_) (fun hb => ?_)
                · have hb' : n2 ≤ 1000 := by
                    have := of_decide_eq_true hb
                    omega
                  walk_at "go"
                  refine w_appG hp4 (by rw [List.length_map]; omega) fun H5 b5 t5 hp5 => ?_
                  walk_at "go"
                  intro tb H6 n6 e6 h6
                  walk_at "go"
                  have hw6 := e6 _ _ (b5 _ _ (Ne.symm npf) hw4)
                  refine w_appG hw6 (by simp at hlv hlw ⊢; omega) fun H7 b7 t7 hw7 => ?_
                  have e7 : Same H H7 := same_but ((same_but e4 b5 nf).trans e6) b7 np
                  have hp7 := b7 _ _ npf (e6 _ _ hp5)
                  have hk7 : WksAt K H H7 (.ref tb :: vs) (.lit "]" :: ws) := .cons (.lit (t7.tup _ _ h6)) (WksAt.txt t7 (WksAt.txt (Txt.same e6) (WksAt.txt t5 hk4)))
                  cases hd2 with
                  | @tup a xs _ hs0 ha0 =>
                  have hs7 := Same.seqT e7 hs0
                  have hlx := DpAll.length ha0
                  have hms := fun i => mus_stk n2 ds i
                  have hfs : fitSs ds := by simpa only [fitS] using hf2
                  have hsz2 : parts.length + (sizs ds + 2 + mus ws) ≤ siz d := by simpa only [mus, Wk.mu, siz] using hsz
                  have hwl := mus_len ws
                  have hvw : vs.length = ws.length := hk4.length
                  have hdl : ds.length ≤ sizs ds := by
                    have h1 := hms ds.length
                    clear h1
                    exact len_sizs ds
                  walk_at "go"
                  refine r3_down (by omega) ?_
                  refine lp_rangeC (fun i σ' H' => i ≤ xs.length ∧ ∃ vs2, (∃ o, σ' = [some v, some (.ref pw), some (.ref pf), some (.ref a), some (.int (n2 : Nat)), o]) ∧ Same H H' ∧ H' pw = some (.lst vs2.reverse) ∧ WksAt K H H' vs2 (stk n2 ds i ++ .lit "]" :: ws) ∧
                    H' pf = some (.lst ((parts ++ [Str.ofString "["]).map V.str))) ⟨Nat.zero_le _, .ref tb :: vs, ⟨_, rfl⟩, e7, ?_, ?_, ?_⟩ (fun i σ' H' hi z => ?_) (fun σ' H' z => ?_)
                  · rw [hw7, List.reverse_cons]
                  · rw [stk_zero]
                    exact hk7
                  · rw [hp7, List.map_append]
                    rfl
                  · obtain ⟨_, vs2, ⟨o, rfl⟩, e8, hw8, hk8, hp8⟩ := z
                    have hs8 := Same.seqT e8 hs0
                    have hkl := hk8.length
                    have hm8 := hms i
                    have hl8 := mus_len (stk n2 ds i)
                    have hkl2 : vs2.length = (stk n2 ds i).length + (ws.length + 1) := by simpa using hkl
                    have hidx : (xs.length : Int) - 1 + (i : Nat) * -1 = ((ds.length - 1 - i : Nat) : Int) := by omega
                    rw [hidx]
                    obtain ⟨dk, hdk⟩ : ∃ dk, ds[ds.length - 1 - i]? = some dk := ⟨_, List.getElem?_eq_getElem (by omega)⟩
                    obtain ⟨vk, hvk, hdvk⟩ := DpAll.getD ha0 hdk
                    walk_at "go"
                    refine w_ix (.inr hs8) (atI_nat hvk) ?_
                    walk_at "go"
                    intro tk H9 n9 e9 h9
                    walk_at "go"
                    refine w_appG (e9 _ _ hw8) (by rw [List.length_reverse]; omega) fun HA bA tA hwA => ?_
                    have hpA := bA _ _ npf (e9 _ _ hp8)
                    have eA := same_but (e8.trans e9) bA np
                    have hkA : WksAt K H HA (.ref tk :: vs2) (.dat dk (n2 + 1) :: (stk n2 ds i ++ .lit "]" :: ws)) := .cons (.dat (tA.tup _ _ h9) (by omega) hdvk (fitSs_get hfs hdk)) (WksAt.txt tA (WksAt.txt (Txt.same e9) hk8))
                    have hwA2 : HA pw = some (.lst (V.ref tk :: vs2).reverse) := by rw [hwA, List.reverse_cons]
                    walk_at "go"
                    refine w_ite (fun hb2 => ?_) (fun hb2 => ?_)
                    · have hlt : i + 1 < ds.length := by
                        have := of_decide_eq_true hb2
                        omega
                      walk_at "go"
                      intro tc HB nB eB hB
                      walk_at "go"
                      refine w_appG (eB _ _ hwA2) (by rw [List.length_reverse, List.length_cons]; omega) fun HC bC tC hwC => ?_
                      refine ⟨by omega, .ref tc :: .ref tk :: vs2, ⟨_, rfl⟩, same_but (eA.trans eB) bC np, ?_, ?_, bC _ _ npf (eB _ _ hpA)⟩
                      · rw [hwC]
                        simp
                      · rw [stk_more hlt hdk]
                        exact .cons (.lit (tC.tup _ _ hB)) (WksAt.txt tC (WksAt.txt (Txt.same eB) hkA))
                    · have hlt : i + 1 = ds.length := by
                        have := of_decide_eq_false hb2
                        omega
                      walk_at "go"
                      refine ⟨by omega, .ref tk :: vs2, ⟨_, rfl⟩, eA, hwA2, ?_, hpA⟩
                      rw [stk_end hlt hdk]
                      exact hkA
                  · obtain ⟨_, vs2, ⟨o, rfl⟩, e8, hw8, hk8, hp8⟩ := z
                    rw [hlx, stk_last] at hk8
                    have hmi := mus_items (n2 + 1) ds
                    refine ⟨items (n2 + 1) ds ++ .lit "]" :: ws, ?_, vs2, parts ++ [Str.ofString "["], ⟨_, _, _, rfl⟩, e8, hw8, hk8, hp8, ?_, ?_⟩
                    · rw [mus_append]
                      simp only [mus, Wk.mu, siz]
                      omega
                    · rw [List.map_append, List.flatten_append]
                      exact Aim.tup hb' aim
                    · rw [mus_append, List.length_append]
                      simp only [mus, Wk.mu, List.length_singleton]
                      omega
                · have hb' : ¬ n2 ≤ 1000 := by
                    have := of_decide_eq_false hb
                    omega
                  walk_at "go"
                  exact atom (.inr hb') _ (fun s0 H5 e5 hs => by
                    walk_at "go"
                    exact atomT s0 H5 e5 hs) atomF
              | _ => cases hT
end
end K53

set_option exponentiation.threshold 256
set_option Elab.async false
set_option linter.all false
set_option maxRecDepth 100000
set_option maxHeartbeats 4000000
set_option exponentiation.threshold 10
namespace K53
open PySem PySem.Spec PyProof.Rows L2 Lay DataM PySem.NumText
local macro_rules | `(tactic| walk_at "1") => `(tactic| first
  | with_reducible refine w_seq ?_
  | ((with_reducible refine w_var (v := ?vv) ?hv ?_); (case hv => rfl))
  | with_reducible refine w_c ?_
  | with_reducible refine w_m1 ?_
  | with_reducible refine w_isstr ?_
  | with_reducible refine w_bm0 ?_
  | with_reducible refine w_bm ?_
  | with_reducible refine w_gcons ?_
  | with_reducible refine w_gnil ?_
  | ((with_reducible refine w_ty (xs := ?vv) ?hv ?_); (case hv => walk_at "hx"))
  | ((with_reducible refine w_gtup (xs := ?vv) ?hv ?hl ?_); (case hv => walk_at "hx"); (case hl => rfl))
  | with_reducible refine w_for1 ?_
  | with_reducible refine w_for2 ?_
  | with_reducible refine w_for3 ?_
  | with_reducible refine w_forA ?_
  | with_reducible refine w_forE ?_
  | ((with_reducible refine w_aug (x := ?vv) ?hv ?_); (case hv => rfl))
  | with_reducible refine w_op ?_
  | with_reducible refine w_cb ?_
  | with_reducible refine w_acons ?_
  | with_reducible refine w_anil ?_
  | with_reducible refine w_set ?_
  | with_reducible refine w_if ?_
  | with_reducible refine w_test ?_
  | with_reducible refine w_tB ?_
  | with_reducible refine w_bl ?_
  | with_reducible refine w_and ?_
  | with_reducible refine w_or ?_
  | with_reducible refine w_not ?_
  | with_reducible refine w_iteT ?_
  | with_reducible refine w_iteF ?_
  | with_reducible refine w_ret ?_
  | with_reducible refine w_next ?_
  | with_reducible refine w_drop ?_
  | with_reducible refine w_call ?_
  | with_reducible refine w_ifx ?_
  | with_reducible refine w_andV ?_
  | with_reducible refine w_orV ?_
  | with_reducible refine w_notV ?_
  | with_reducible refine w_sl ?_
  | with_reducible refine w_nopart ?_
  | with_reducible refine w_part ?_
  | with_reducible refine w_exint ?_
  | with_reducible refine w_chain ?_
  | with_reducible refine w_par ?_
  | with_reducible refine w_two ?_
  | with_reducible refine w_par3 ?_
  | with_reducible refine w_three ?_
  | with_reducible refine w_asg ?_
  | with_reducible refine w_gset ?_
  | with_reducible refine w_retN ?_
  | with_reducible refine w_brk ?_
  | with_reducible refine w_cont ?_
  | with_reducible refine w_un ?_
  | with_reducible refine w_neg ?_
  | with_reducible refine w_callS ?_
  | with_reducible refine w_tup0 ?_
  | with_reducible refine w_lst0 ?_
  | with_reducible refine w_fld0 ?_
  | with_reducible refine w_meth ?_)
local macro_rules | `(tactic| walk_at "2") => `(tactic| first
  | with_reducible refine w_add_int ?_
  | with_reducible refine w_sub ?_
  | ((with_reducible refine w_add_str ?hl ?_); (case hl => walk_at "len"))
  | ((with_reducible refine w_mod ?hl ?_); (case hl => first | decide | omega))
  | ((with_reducible refine w_fdiv ?h1 ?h2 ?_); (case h1 => first | decide | omega); (case h2 => first | decide | omega))
  | ((with_reducible refine w_mulR ?h1 ?h2 ?_); (case h1 => first | decide | omega); (case h2 => first | decide | omega))
  | ((with_reducible refine w_mulL ?h1 ?h2 ?_); (case h1 => first | decide | omega); (case h2 => first | decide | omega))
  | with_reducible refine w_iadd_int ?_
  | ((with_reducible refine w_iadd_str ?hl ?_); (case hl => walk_at "len"))
  | ((with_reducible refine w_mk ?hl ?_); (case hl => walk_at "len"))
  | with_reducible refine w_lt_int ?_
  | with_reducible refine w_lt_str ?_
  | with_reducible refine w_le_int ?_
  | with_reducible refine w_le_str ?_
  | with_reducible refine w_gt ?_
  | with_reducible refine w_ge ?_
  | with_reducible refine w_eq_int ?_
  | with_reducible refine w_eq_str ?_
  | with_reducible refine w_ne_int ?_
  | with_reducible refine w_ne_str ?_
  | ((with_reducible refine w_isInt (d := ?vd) ?hd ?_); (case hd => walk_at "dp"))
  | ((with_reducible refine w_isBool (d := ?vd) ?hd ?_); (case hd => walk_at "dp"))
  | ((with_reducible refine w_isStr (d := ?vd) ?hd ?_); (case hd => walk_at "dp"))
  | ((with_reducible refine w_isTup (d := ?vd) ?hd ?_); (case hd => walk_at "dp"))
  | ((with_reducible refine w_isLst (d := ?vd) ?hd ?_); (case hd => walk_at "dp"))
  | refine w_in_str ?_
  | refine w_nin_str ?_
  | with_reducible refine w_is ?_
  | with_reducible refine w_isnot ?_
  | ((with_reducible refine w_len_str ?hl ?_); (case hl => walk_at "len"))
  | ((with_reducible refine w_len (xs := ?vv) ?hl ?_); (case hl => walk_at "hx"))
  | with_reducible refine w_int_int ?_
  | with_reducible refine w_str_str ?_
  | with_reducible refine w_abs ?_
  | ((with_reducible refine w_sl_str ?hl ?_); (case hl => walk_at "len"))
  | ((with_reducible refine w_fldAt (C := ?vC) (dx := ?vdx) (fs := ?vfs) (v := ?vv) ?h1 ?h2 ?h3 ?h4 ?_); (case h1 => walk_at "hx"); (case h2 => assumption); (case h3 => assumption); (case h4 => rfl))
  | ((with_reducible refine w_iteP ?h1 ?_); (case h1 => walk_at "yes"))
  | ((with_reducible refine w_iteN ?h1 ?_); (case h1 => walk_at "no")))
local macro_rules | `(tactic| walk_at "yes") => `(tactic| first | assumption | ((with_reducible refine bnotT ?_); walk_at "no") | (refine decide_eq_true ?_; first | assumption | omega) | exact rfl)
local macro_rules | `(tactic| walk_at "no") => `(tactic| first | assumption | ((with_reducible refine bnotF ?_); walk_at "yes") | (refine decide_eq_false ?_; first | assumption | omega) | exact rfl)
local macro_rules | `(tactic| walk_at "len") => `(tactic| first | assumption | exact Nat.le_of_ble_eq_true rfl | omega | decide | (simp only [List.length_append, List.length_cons, List.length_nil, List.length_map]; omega))
local macro_rules | `(tactic| walk_at "ne") => `(tactic| first | assumption | (refine Ne.symm ?_; assumption))
local macro_rules | `(tactic| walk_at "hx") => `(tactic| first
  | assumption
  | exact upd_same
  | ((with_reducible refine sqa_l ?_); walk_at "hx")
  | ((with_reducible refine sqa_t ?_); walk_at "hx")
  | ((with_reducible refine SqL.of ?_); walk_at "hx")
  | ((with_reducible refine SqT.of ?_); walk_at "hx")
  | ((with_reducible refine at_same (by assumption) ?_); walk_at "hx")
  | ((with_reducible refine at_but (by assumption) ?hne ?_); (case hne => walk_at "ne"); walk_at "hx")
  | ((with_reducible refine Txt.tup (by assumption) _ _ ?_); walk_at "hx")
  | ((with_reducible refine Same.seq (by assumption) ?_); walk_at "hx")
  | ((with_reducible refine Same.seqT (by assumption) ?_); walk_at "hx")
  | ((with_reducible refine Dp.same (by assumption) _ _ ?_); walk_at "hx")
  | ((with_reducible refine DpAll.same (by assumption) _ _ ?_); walk_at "hx"))
local macro_rules | `(tactic| walk_at "go") => `(tactic| repeat (first | walk_at "1" | walk_at "2"))
local macro_rules | `(tactic| walk_at "dp") => `(tactic| first | exact .int _ | exact .str _ | exact .bl _ | exact .non | walk_at "hx")

section
variable {P : Program} {w : World} {K : PySem.W.Frag} {mg : Str → Option Value} {base : Heap} {CM : Addr}
theorem numT_ok {s : Str} (h : numOk s.cps.toList = true) : NumT s (numV s.cps.toList) := by
  unfold numOk at h
  simp only [Bool.and_eq_true, decide_eq_true_eq] at h
  obtain ⟨⟨⟨h1, h2⟩, h3⟩, h4⟩ := h
  unfold numV
  have hl := len_l s
  cases he : decide (s.cps.toList.take 1 = [45]) with
  | true =>
    have he' := of_decide_eq_true he
    rw [if_pos he']
    cases hs : s.cps.toList with
    | nil =>
      rw [hs] at he'
      cases he'
    | cons c r =>
      have hc : c = 45 := by
        rw [hs] at he'
        simpa using he'
      subst hc
      rw [hs, body_neg] at h1 h2 h3
      rw [body_neg]
      refine numT_neg hs (allDig_of h3) (fun z => ?_) ?_
      · rw [z] at h1
        cases h1
      · rw [← hl, hs, List.length_cons]
        omega
  | false =>
    have he' := of_decide_eq_false he
    rw [if_neg he']
    rw [body_pos he'] at h1 h2 h3
    rw [body_pos he']
    refine numT_digits (allDig_of h3) (fun z => ?_) ?_
    · rw [z] at h1
      cases h1
    · rw [← hl]
      omega
def spReadW (K : PySem.W.Frag) (CM : Addr) : Sp := fun vs H Q E => ∃ s : Str, vs = [.str s] ∧ s.length ≤ 1000000 ∧ (numOk s.cps.toList = true → ∀ H', Same H H' → Q (.int (numV s.cps.toList)) H') ∧
  (numOk s.cps.toList = false → ∀ H', Same H H' → E (.ref CM) none H')
theorem ok_read_whole {f : Addr} {fd : FuncData} (T : Facts w K mg CM) (F : Fun K "read_whole" "read_whole" s_read_whole f fd) :
    FnOk P w K mg base (L2.CX P w) 1 f fd ["text"] (spReadW K CM) := by
  refine F.okX sc_read_whole (fun vs H Q E h => ?_) (fun cdv A outer s H vs Q E hr h => ?_)
  · obtain ⟨z, rfl, _⟩ := h
    rfl
  · obtain ⟨z, rfl, hz, q1, q2⟩ := h
    refine ⟨_, (pss_mid (ps_set (i := 1) sc_read_whole.nd rfl (by first | exact Or.inl rfl | exact Or.inr rfl) (pe_ifExp (pt_cmpR (op_eqA (K := K) hr.units) (pe_slice (sl_A (K := K)) (pv 0) po_none (po_some pe_int)) pe_str (nomark _)) (pe_slice (sl_A (K := K)) (pv 0) (po_some pe_int) po_none) (pv 0)))
    (pss_cons (ps_if (PW.pt (pw_or (pt_not (pt_chain op_leA op_leA pe_int (pe_callB (call_lenA (K := K)) (by rfl) T.b_len (by decide +kernel) (pa_cons (pv 1) pa_nil)) (pe_gc (by rfl) T.c_MOST_DIGITS))) (pw_or1 (pt_not (pt_val (pe_callB (all_A (K := K) rfl) (by rfl) T.b_all (by decide +kernel) (pa_cons (pe_lc (own := [("sign", 2)]) (g := gName 2) (tt := tYes) rfl sc_read_whole.nd (pi_A (K := K) (pv 1)) (blkOk_by (N := N_read_whole) (sc := defScope s_read_whole) (by decide +kernel)) (fun _ _ _ _ _ => pg_name (i := 2) sc_read_whole.nd rfl (Or.inl rfl)) (fun _ _ _ _ _ => pts_nil) (fun _ _ _ _ _ => (pe_cmpR (op_inA (K := K)) (pv 2) (pe_gc (by rfl) T.c_DIGITS) (by rfl)))) pa_nil))))))) (pss_one (ps_raise rfl (takes_of rfl rfl rfl rfl) (pmk_own PySem.F.excBase_ValueError T.x_Malformed T.g_Malformed T.k_Malformed (raises_own T.s_Malformed T.t_Malformed) (by rfl)))) pss_nil)
    (pss_cons (ps_if (PW.pt (pw_and (pt_cmpR (op_eqA (K := K) hr.units) (pe_ix (ix_A (K := K)) (pv 1) pe_int (fun _ _ => rfl)) pe_str (nomark _)) (pw_and1 (pt_cmpR (op_neA (K := K) hr.units) (pv 0) pe_str (nomark _))))) (pss_one (ps_raise rfl (takes_of rfl rfl rfl rfl) (pmk_own PySem.F.excBase_ValueError T.x_Malformed T.g_Malformed T.k_Malformed (raises_own T.s_Malformed T.t_Malformed) (by rfl)))) pss_nil)
    (pss_one (ps_ret (pe_callTy (call_intG T.digits) (by rfl) T.b_int (by decide +kernel) (pa_cons (pv 0) pa_nil))))))), ?_⟩
    try dsimp only [cxOf]
    refine w_start (show _ = [some _, none, none] from rfl) ?_
    refine w_mid (fun σ' H' => ∃ b : Str, b.cps.toList = bodyT z.cps.toList ∧ H = H' ∧ σ' = [some (.str z), some (.str b), none]) ?_ ?_
    · walk_at "go"
      have e1 : (cutS z none (some 1)).cps.toList = z.cps.toList.take 1 := cut_hi z 1
      have e2 : (cutS z (some 1) none).cps.toList = z.cps.toList.drop 1 := cut_lo z 1
      refine w_ite (fun h => ?_) (fun h => ?_)
      · walk_at "go"
        refine ⟨_, ?_, rfl, rfl⟩
        have h' : z.cps.toList.take 1 = [45] := by
          rw [← e1, of_decide_eq_true h]
          rfl
        rw [e2]
        unfold bodyT
        rw [if_pos h']
      · walk_at "go"
        refine ⟨z, ?_, rfl, rfl⟩
        have h' : ¬ z.cps.toList.take 1 = [45] := fun c => of_decide_eq_false h (str_ext (by rw [e1, c]; rfl))
        exact (body_pos h').symm
    · rintro σ' H' ⟨b, hb, rfl, rfl⟩
      have hlb := len_l b
      have hlz := len_l z
      have hle : b.length ≤ z.length := by
        rw [← hlb, ← hlz, hb]
        unfold bodyT
        split
        · rw [List.length_drop]
          omega
        · exact Nat.le_refl _
      have hno : numOk z.cps.toList = (decide (1 ≤ b.length) && decide (b.length ≤ 4000) && b.cps.toList.all isDig && !(decide (b.cps.toList.headD 0 = 48) && !decide (z.cps.toList = [48]))) := by
        unfold numOk
        rw [← hb, hlb]
      walk_at "go"
      by_cases h1 : 1 ≤ b.length
      · walk_at "go"
        by_cases h2 : b.length ≤ 4000
        · walk_at "go"
          refine w_lcS (x := b) (fun c => .bl (isDig c)) rfl (by omega) (fun v => rfl) (fun c H1 hc1 e2 R hR => ?_) (fun D H2 n2 e2 hD => ?_)
          · show tOp _ _ _ [some (V.str z), some (V.str b), some (.str ⟨#[c]⟩)] H1 R
            walk_at "go"
            rw [dig_mem]
            exact hR H1 (Same.refl H1)
          · walk_at "go"
            refine w_all (bs := b.cps.toList.map isDig) (by rw [List.map_map]; exact SqL.of hD) ?_
            rw [List.all_map]
            show ∃ k, V.bl (b.cps.toList.all isDig) = V.bl k ∧ _
            cases h3 : b.cps.toList.all isDig with
            | false =>
              walk_at "go"
              refine q2 ?_ H2 e2
              rw [hno, h3]
              simp
            | true =>
              walk_at "go"
              cases hl : b.cps.toList with
              | nil =>
                rw [hl] at hlb
                simp at hlb
                omega
              | cons c r =>
                refine w_ix_str (z := b) (n := 0) (c := c) (by omega) (by rw [hl]; exact atI_nat (j := 0) rfl) ?_
                walk_at "go"
                have hz1 : decide (z = Str.ofString "0") = decide (z.cps.toList = [48]) := by
                  rw [decide_eq_decide]
                  exact ⟨fun h => by rw [h]; rfl, fun h => str_ext (by rw [h]; rfl)⟩
                have hc1 : decide ((⟨#[c]⟩ : Str) = Str.ofString "0") = decide (c = 48) := by
                  rw [decide_eq_decide]
                  exact ⟨fun h => List.head_eq_of_cons_eq (show [c] = [48] from congrArg (fun s : Str => s.cps.toList) h), fun h => by rw [h]; rfl⟩
                have hh : b.cps.toList.headD 0 = c := by rw [hl]; rfl
                rw [hh, decide_eq_true h1, decide_eq_true h2, h3] at hno
                rw [hc1]
                have fin : numOk z.cps.toList = true → rIntG [.str z] H2 Q := fun h => ⟨_, numT_ok h, q1 h H2 e2⟩
                cases h4 : decide (c = 48) with
                | false =>
                  walk_at "go"
                  exact fin (by rw [hno, h4]; rfl)
                | true =>
                  walk_at "go"
                  rw [hz1]
                  cases h5 : decide (z.cps.toList = [48]) with
                  | true =>
                    walk_at "go"
                    exact fin (by rw [hno, h4, h5]; rfl)
                  | false =>
                    walk_at "go"
                    exact q2 (by rw [hno, h4, h5]; rfl) H2 e2
        · walk_at "go"
          refine q2 ?_ H (Same.refl H)
          rw [hno, decide_eq_false h2]
          simp
      · walk_at "go"
        refine q2 ?_ H (Same.refl H)
        rw [hno, decide_eq_false h1]
        rfl
end
end K53

set_option exponentiation.threshold 256
set_option Elab.async false
set_option linter.all false
set_option maxRecDepth 100000
set_option maxHeartbeats 4000000
set_option exponentiation.threshold 10
namespace K53
open PySem PySem.Spec PyProof.Rows L2 Lay DataM PySem.NumText
local macro_rules | `(tactic| walk_at "1") => `(tactic| first
  | with_reducible refine w_seq ?_
  | ((with_reducible refine w_var (v := ?vv) ?hv ?_); (case hv => rfl))
  | with_reducible refine w_c ?_
  | with_reducible refine w_m1 ?_
  | with_reducible refine w_isstr ?_
  | with_reducible refine w_bm0 ?_
  | with_reducible refine w_bm ?_
  | with_reducible refine w_gcons ?_
  | with_reducible refine w_gnil ?_
  | ((with_reducible refine w_ty (xs := ?vv) ?hv ?_); (case hv => walk_at "hx"))
  | ((with_reducible refine w_gtup (xs := ?vv) ?hv ?hl ?_); (case hv => walk_at "hx"); (case hl => rfl))
  | with_reducible refine w_for1 ?_
  | with_reducible refine w_for2 ?_
  | with_reducible refine w_for3 ?_
  | with_reducible refine w_forA ?_
  | with_reducible refine w_forE ?_
  | ((with_reducible refine w_aug (x := ?vv) ?hv ?_); (case hv => rfl))
  | with_reducible refine w_op ?_
  | with_reducible refine w_cb ?_
  | with_reducible refine w_acons ?_
  | with_reducible refine w_anil ?_
  | with_reducible refine w_set ?_
  | with_reducible refine w_if ?_
  | with_reducible refine w_test ?_
  | with_reducible refine w_tB ?_
  | with_reducible refine w_bl ?_
  | with_reducible refine w_and ?_
  | with_reducible refine w_or ?_
  | with_reducible refine w_not ?_
  | with_reducible refine w_iteT ?_
  | with_reducible refine w_iteF ?_
  | with_reducible refine w_ret ?_
  | with_reducible refine w_next ?_
  | with_reducible refine w_drop ?_
  | with_reducible refine w_call ?_
  | with_reducible refine w_ifx ?_
  | with_reducible refine w_andV ?_
  | with_reducible refine w_orV ?_
  | with_reducible refine w_notV ?_
  | with_reducible refine w_sl ?_
  | with_reducible refine w_nopart ?_
  | with_reducible refine w_part ?_
  | with_reducible refine w_exint ?_
  | with_reducible refine w_chain ?_
  | with_reducible refine w_par ?_
  | with_reducible refine w_two ?_
  | with_reducible refine w_par3 ?_
  | with_reducible refine w_three ?_
  | with_reducible refine w_asg ?_
  | with_reducible refine w_gset ?_
  | with_reducible refine w_retN ?_
  | with_reducible refine w_brk ?_
  | with_reducible refine w_cont ?_
  | with_reducible refine w_un ?_
  | with_reducible refine w_neg ?_
  | with_reducible refine w_callS ?_
  | with_reducible refine w_tup0 ?_
  | with_reducible refine w_lst0 ?_
  | with_reducible refine w_fld0 ?_
  | with_reducible refine w_meth ?_)
local macro_rules | `(tactic| walk_at "2") => `(tactic| first
  | with_reducible refine w_add_int ?_
  | with_reducible refine w_sub ?_
  | ((with_reducible refine w_add_str ?hl ?_); (case hl => walk_at "len"))
  | ((with_reducible refine w_mod ?hl ?_); (case hl => first | decide | omega))
  | ((with_reducible refine w_fdiv ?h1 ?h2 ?_); (case h1 => first | decide | omega); (case h2 => first | decide | omega))
  | ((with_reducible refine w_mulR ?h1 ?h2 ?_); (case h1 => first | decide | omega); (case h2 => first | decide | omega))
  | ((with_reducible refine w_mulL ?h1 ?h2 ?_); (case h1 => first | decide | omega); (case h2 => first | decide | omega))
  | with_reducible refine w_iadd_int ?_
  | ((with_reducible refine w_iadd_str ?hl ?_); (case hl => walk_at "len"))
  | ((with_reducible refine w_mk ?hl ?_); (case hl => walk_at "len"))
  | with_reducible refine w_lt_int ?_
  | with_reducible refine w_lt_str ?_
  | with_reducible refine w_le_int ?_
  | with_reducible refine w_le_str ?_
  | with_reducible refine w_gt ?_
  | with_reducible refine w_ge ?_
  | with_reducible refine w_eq_int ?_
  | with_reducible refine w_eq_str ?_
  | with_reducible refine w_ne_int ?_
  | with_reducible refine w_ne_str ?_
  | ((with_reducible refine w_isInt (d := ?vd) ?hd ?_); (case hd => walk_at "dp"))
  | ((with_reducible refine w_isBool (d := ?vd) ?hd ?_); (case hd => walk_at "dp"))
  | ((with_reducible refine w_isStr (d := ?vd) ?hd ?_); (case hd => walk_at "dp"))
  | ((with_reducible refine w_isTup (d := ?vd) ?hd ?_); (case hd => walk_at "dp"))
  | ((with_reducible refine w_isLst (d := ?vd) ?hd ?_); (case hd => walk_at "dp"))
  | refine w_in_str ?_
  | refine w_nin_str ?_
  | with_reducible refine w_is ?_
  | with_reducible refine w_isnot ?_
  | ((with_reducible refine w_len_str ?hl ?_); (case hl => walk_at "len"))
  | ((with_reducible refine w_len (xs := ?vv) ?hl ?_); (case hl => walk_at "hx"))
  | with_reducible refine w_int_int ?_
  | with_reducible refine w_str_str ?_
  | with_reducible refine w_abs ?_
  | ((with_reducible refine w_sl_str ?hl ?_); (case hl => walk_at "len"))
  | ((with_reducible refine w_fldAt (C := ?vC) (dx := ?vdx) (fs := ?vfs) (v := ?vv) ?h1 ?h2 ?h3 ?h4 ?_); (case h1 => walk_at "hx"); (case h2 => assumption); (case h3 => assumption); (case h4 => rfl))
  | ((with_reducible refine w_iteP ?h1 ?_); (case h1 => walk_at "yes"))
  | ((with_reducible refine w_iteN ?h1 ?_); (case h1 => walk_at "no")))
local macro_rules | `(tactic| walk_at "yes") => `(tactic| first | assumption | ((with_reducible refine bnotT ?_); walk_at "no") | (refine decide_eq_true ?_; first | assumption | omega) | exact rfl)
local macro_rules | `(tactic| walk_at "no") => `(tactic| first | assumption | ((with_reducible refine bnotF ?_); walk_at "yes") | (refine decide_eq_false ?_; first | assumption | omega) | exact rfl)
local macro_rules | `(tactic| walk_at "len") => `(tactic| first | assumption | exact Nat.le_of_ble_eq_true rfl | omega | decide | (simp only [List.length_append, List.length_cons, List.length_nil, List.length_map]; omega))
local macro_rules | `(tactic| walk_at "ne") => `(tactic| first | assumption | (refine Ne.symm ?_; assumption))
local macro_rules | `(tactic| walk_at "hx") => `(tactic| first
  | assumption
  | exact upd_same
  | ((with_reducible refine sqa_l ?_); walk_at "hx")
  | ((with_reducible refine sqa_t ?_); walk_at "hx")
  | ((with_reducible refine SqL.of ?_); walk_at "hx")
  | ((with_reducible refine SqT.of ?_); walk_at "hx")
  | ((with_reducible refine at_same (by assumption) ?_); walk_at "hx")
  | ((with_reducible refine at_but (by assumption) ?hne ?_); (case hne => walk_at "ne"); walk_at "hx")
  | ((with_reducible refine Txt.tup (by assumption) _ _ ?_); walk_at "hx")
  | ((with_reducible refine Same.seq (by assumption) ?_); walk_at "hx")
  | ((with_reducible refine Same.seqT (by assumption) ?_); walk_at "hx")
  | ((with_reducible refine Dp.same (by assumption) _ _ ?_); walk_at "hx")
  | ((with_reducible refine DpAll.same (by assumption) _ _ ?_); walk_at "hx"))
local macro_rules | `(tactic| walk_at "go") => `(tactic| repeat (first | walk_at "1" | walk_at "2"))
local macro_rules | `(tactic| walk_at "dp") => `(tactic| first | exact .int _ | exact .str _ | exact .bl _ | exact .non | walk_at "hx")

section
variable {P : Program} {w : World} {K : PySem.W.Frag} {mg : Str → Option Value} {base : Heap} {CM : Addr}
def signV (z : Str) : Option V := if z.cps.toList = [43] then some (.bl true) else if z.cps.toList = [45] then some (.bl false) else if z.cps.toList = [46] then some (.str "") else none
structure Signs (w : World) (K : PySem.W.Frag) (mg : Str → Option Value) (CS : Addr) (es : Array DictEntry) (n : Nat) : Prop where
  kd : KDict K w CS es n
  at_ : ∃ u, mg "SIGNS" = some u ∧ RelV (.ref CS) u
  get : ∀ z, ∃ r, PySem.W.nsIn K CS z = some r ∧ (match signV z with | some v => ∃ u, r = some u ∧ RelV v u | none => r = none)
def atV : PyData → V
  | .bool b => .bl b
  | .str s => .str s
  | .int i => .int i
  | _ => .non
def spReadA (K : PySem.W.Frag) (CM : Addr) : Sp := fun vs H Q E => ∃ s : Str, vs = [.str s] ∧ s.length ≤ 1000000 ∧ (∀ d, atomT s.cps.toList = some d → ∀ H', Same H H' → Q (atV d) H') ∧
  (atomT s.cps.toList = none → ∀ H', Same H H' → E (.ref CM) none H')
theorem ok_read_atom {f CS : Addr} {fd : FuncData} {es : Array DictEntry} {n : Nat} (T : Facts w K mg CM) (SG : Signs w K mg CS es n) (F : Fun K "read_atom" "read_atom" s_read_atom f fd)
    (c_is_word : Fn0 P w K mg base 1 "is_word" (spWord K)) (c_read_whole : FnX P w K mg base 1 "read_whole" (spReadW K CM)) :
    FnOk P w K mg base (L2.CX P w) 2 f fd ["piece"] (spReadA K CM) := by
  refine F.okX sc_read_atom (fun vs H Q E h => ?_) (fun cdv A outer s H vs Q E hr h => ?_)
  · obtain ⟨z, rfl, _⟩ := h
    rfl
  · obtain ⟨z, rfl, hz, q1, q2⟩ := h
    refine ⟨_, (pss_cons (ps_if (pt_cmpR (op_in_kd SG.kd) (pv 0) (pe_gc (by rfl) SG.at_) (by rfl)) (pss_one (ps_ret (pe_ix ix_kdict (pe_gc (by rfl) SG.at_) (pv 0) (fun _ _ => rfl)))) pss_nil)
    (pss_one (ps_ret (pe_ifExp (pt_val (pe_f0 c_is_word hr (by decide) (pa_cons (pv 0) pa_nil))) (pv 0) (pe_fx c_read_whole hr (by decide) (passes_call (takes_of rfl rfl rfl rfl) (fun _ _ _ _ h => h)) (pa_cons (pv 0) pa_nil)))))), ?_⟩
    try dsimp only [cxOf]
    refine w_start (show _ = [some _] from rfl) ?_
    obtain ⟨r, hr1, hr2⟩ := SG.get z
    walk_at "go"
    refine ⟨z, r, rfl, rfl, hr1, ?_⟩
    walk_at "go"
    have hat : atomT z.cps.toList = match signV z with
        | some (.bl b) => some (.bool b)
        | some _ => some (.str ⟨#[]⟩)
        | none => if isWordT z.cps.toList then some (.str z) else if numOk z.cps.toList then some (.int (numV z.cps.toList)) else none := by
      unfold atomT signV
      rw [str_back]
      split
      · rfl
      · split
        · rfl
        · split <;> rfl
    cases hs : signV z with
    | some v =>
      rw [hs] at hr2 hat
      obtain ⟨u, rfl, ru⟩ := hr2
      refine w_iteP rfl ?_
      walk_at "go"
      refine ⟨CS, z, v, rfl, rfl, ⟨es, n, u, SG.kd.at_, SG.kd.lit, hr1, ru⟩, ?_⟩
      unfold signV at hs
      split at hs
      · cases hs
        exact q1 _ hat H (Same.refl H)
      · split at hs
        · cases hs
          exact q1 _ hat H (Same.refl H)
        · split at hs
          · cases hs
            exact q1 _ hat H (Same.refl H)
          · cases hs
    | none =>
      rw [hs] at hr2 hat
      subst hr2
      refine w_iteN rfl ?_
      walk_at "go"
      refine ⟨.str z, .str z, rfl, .str z, hz, fun H1 e1 => ?_⟩
      walk_at "go"
      show if isWordT z.cps.toList = true then _ else _
      cases hw : isWordT z.cps.toList with
      | true =>
        simp only [hw, if_true] at hat
        walk_at "go"
        exact q1 _ hat H1 e1
      | false =>
        simp only [hw, Bool.false_eq_true, if_false] at hat
        walk_at "go"
        refine ⟨z, rfl, hz, fun hn H2 e2 => ?_, fun hn H2 e2 => ?_⟩
        · simp only [hn, if_true] at hat
          exact q1 _ hat H2 (e1.trans e2)
        · simp only [hn, Bool.false_eq_true, if_false] at hat
          exact q2 hat H2 (e1.trans e2)
theorem sep_mem (c : Nat) : decide (c ∈ (Str.ofString "[],").cps.toList) = sep c := by
  show decide (c ∈ [91, 93, 44]) = _
  unfold sep
  by_cases h1 : c = 91
  · subst h1; rfl
  · by_cases h2 : c = 93
    · subst h2; rfl
    · by_cases h3 : c = 44
      · subst h3; rfl
      · simp [h1, h2, h3]
def txs (ps : List Tx) : List V := ps.map fun p => V.str ⟨p.toArray⟩
theorem pcs_cons (tok : Tx) (c : Nat) (r : Tx) : pcs tok (c :: r) = if sep c then (if tok = [] then [] else [tok]) ++ [c] :: pcs [] r else pcs (tok ++ [c]) r := by
  rw [pcs]
theorem pcs_nil (tok : Tx) : pcs tok [] = if tok = [] then [] else [tok] := by
  rw [pcs]
theorem txs_app (a b : List Tx) : txs (a ++ b) = txs a ++ txs b := List.map_append
theorem txs_one (s : Str) : [V.str s] = txs [s.cps.toList] := by
  show _ = [V.str ⟨s.cps.toList.toArray⟩]
  rw [str_back]
theorem txs_len (a : List Tx) : (txs a).length = a.length := List.length_map ..
def spPieces (K : PySem.W.Frag) : Sp := fun vs H Q _ => ∃ s : Str, vs = [.str s] ∧ s.length ≤ 400000 ∧ ∀ D H', H D = none → Same H H' → H' D = some (.lst (txs (pcs [] s.cps.toList))) → Q (.ref D) H'
theorem ok_pieces_of {f : Addr} {fd : FuncData} (T : Facts w K mg CM) (F : Fun K "pieces_of" "pieces_of" s_pieces_of f fd) : FnOk P w K mg base CX0 1 f fd ["text"] (spPieces K) := by
  refine F.ok sc_pieces_of (fun vs H Q E h => ?_) (fun cdv A outer s H vs Q E hr h => ?_)
  · obtain ⟨z, rfl, _⟩ := h
    rfl
  · obtain ⟨z, rfl, hz, q⟩ := h
    refine ⟨_, (pss_cons (ps_par (i := 1) (j := 2) rfl sc_pieces_of.nd rfl rfl (by decide) rfl rfl (pa_cons (pe_lstG pa_nil) (pa_cons pe_int pa_nil)) (by rfl))
    (pss_cons (ps_for PassesOwn.never rfl (pi_enumA (by rfl) T.b_enumerate rfl (pv 0)) (tup_A (K := K) (n := 2) rfl (pgs_cons (pg_name (i := 3) sc_pieces_of.nd rfl (by first | exact Or.inl rfl | exact Or.inr rfl)) (pgs_cons (pg_name (i := 4) sc_pieces_of.nd rfl (by first | exact Or.inl rfl | exact Or.inr rfl)) pgs_nil))) (pss_one (ps_if (pt_cmpR (op_inA (K := K)) (pv 4) pe_str (by rfl)) (pss_cons (ps_if (pt_cmpR op_ltA (pv 2) (pv 3) (nomark _)) (pss_one (ps_expr (pe_bm PySem.F.plainAttrs_list PySem.F.slot_list_append PySem.F.type_list_append mt_append (pv 1) (pa_cons (pe_slice (sl_A (K := K)) (pv 0) (po_some (pv 2)) (po_some (pv 3))) pa_nil)))) pss_nil)
    (pss_cons (ps_expr (pe_bm PySem.F.plainAttrs_list PySem.F.slot_list_append PySem.F.type_list_append mt_append (pv 1) (pa_cons (pv 4) pa_nil)))
    (pss_one (ps_set (i := 2) sc_pieces_of.nd rfl (by first | exact Or.inl rfl | exact Or.inr rfl) (pe_op op_addA (pv 3) pe_int))))) pss_nil)))
    (pss_one (ps_ret (pe_op op_addA (pv 1) (pe_ifExp (pt_cmpR op_ltA (pv 2) (pe_callB (call_lenA (K := K)) (by rfl) T.b_len (by decide +kernel) (pa_cons (pv 0) pa_nil)) (nomark _)) (pe_lstG (pa_cons (pe_slice (sl_A (K := K)) (pv 0) (po_some (pv 2)) po_none) pa_nil)) (pe_lstG pa_nil))))))), ?_⟩
    try dsimp only [cxOf]
    refine w_start (show _ = [some _, none, none, none, none] from rfl) ?_
    have hlz := len_l z
    walk_at "go"
    intro pf H1 n1 e1 h1
    walk_at "go"
    refine ⟨z, rfl, ?_⟩
    refine lp_enum (fun k σ' H' => ∃ found : List Tx, ∃ st : Nat, (∃ o1 o2, σ' = [some (.str z), some (.ref pf), some (.int (st : Nat)), o1, o2]) ∧ st ≤ k ∧ k ≤ z.cps.toList.length ∧ Same H H' ∧ H' pf = some (.lst (txs found)) ∧ found.length ≤ 2 * k ∧
      found ++ pcs ((z.cps.toList.take k).drop st) (z.cps.toList.drop k) = pcs [] z.cps.toList) ⟨[], 0, ⟨none, none, rfl⟩, Nat.le_refl _, Nat.zero_le _, e1, h1, Nat.le_refl _, rfl⟩ (fun k c σ' H' H2 hc p e2 => ?_) (fun σ' H' p => ?_)
    · obtain ⟨found, st, ⟨o1, o2, rfl⟩, hst, hk, e, hf, hfl, hp⟩ := p
      have hkl : k < z.cps.toList.length := (List.getElem?_eq_some_iff.mp hc).1
      have hdr : z.cps.toList.drop k = c :: z.cps.toList.drop (k + 1) := by
        rw [List.drop_eq_getElem_cons hkl, (List.getElem?_eq_some_iff.mp hc).2]
      have htk : (z.cps.toList.take (k + 1)).drop st = (z.cps.toList.take k).drop st ++ [c] := by
        rw [List.take_add_one, hc, List.drop_append_of_le_length (by rw [List.length_take]; omega)]
        rfl
      have htl : ((z.cps.toList.take k).drop st).length = k - st := by
        rw [List.length_drop, List.length_take]
        omega
      rw [hdr, pcs_cons] at hp
      have hf2 := e2 _ _ hf
      have ee := e.trans e2
      have hwb : ∀ (z1 : Str) H3, But pf H2 H3 → H3 pf = some (.lst (txs found ++ [.str z1])) → H3 pf = some (.lst (txs (found ++ [z1.cps.toList]))) := fun z1 H3 b3 h3 => by
        rw [h3, txs_app, ← txs_one]
      walk_at "go"
      rw [sep_mem]
      cases hs : sep c with
      | false =>
        simp only [hs, Bool.false_eq_true, if_false] at hp
        walk_at "go"
        exact ⟨found, st, ⟨_, _, rfl⟩, by omega, hkl, ee, hf2, by omega, by rw [htk]; exact hp⟩
      | true =>
        simp only [hs, if_true] at hp
        walk_at "go"
        have fin : ∀ (fd2 : List Tx) H3, Same H H3 → H3 pf = some (.lst (txs fd2)) → fd2.length ≤ 2 * k + 1 → fd2 ++ [c] :: pcs [] (z.cps.toList.drop (k + 1)) = pcs [] z.cps.toList →
            ∀ R : VK, (∀ H1, (∃ found : List Tx, ∃ st : Nat, (∃ o1 o2, [some (V.str z), some (.ref pf), some (.int ((k : Int) + 1)), some (.int (k : Nat)), some (.str ⟨#[c]⟩)] = [some (.str z), some (.ref pf), some (.int (st : Nat)), o1, o2]) ∧ st ≤ k + 1 ∧ k + 1 ≤ z.cps.toList.length ∧ Same H H1 ∧ H1 pf = some (.lst (txs found)) ∧ found.length ≤ 2 * (k + 1) ∧
              found ++ pcs ((z.cps.toList.take (k + 1)).drop st) (z.cps.toList.drop (k + 1)) = pcs [] z.cps.toList) → R .non H1) → rAppend (.ref pf) [.str ⟨#[c]⟩] H3 R := fun fd2 H3 e3 h3 hl3 hp3 R hR => by
          refine w_appG h3 (by rw [txs_len]; omega) fun H4 b4 t4 h4 => hR H4 ?_
          refine ⟨fd2 ++ [[c]], k + 1, ⟨_, _, rfl⟩, Nat.le_refl _, hkl, same_but e3 b4 (none_same (Same.refl H) n1), ?_, ?_, ?_⟩
          · rw [h4, txs_app]
            rfl
          · rw [List.length_append, List.length_singleton]
            omega
          · have hnil : (z.cps.toList.take (k + 1)).drop (k + 1) = [] := List.drop_eq_nil_of_le (by rw [List.length_take]; omega)
            rw [hnil, ← hp3]
            simp
        by_cases hlt : st < k
        · refine w_iteP (decide_eq_true (by omega)) ?_
          walk_at "go"
          refine w_appG hf2 (by rw [txs_len]; omega) fun H3 b3 t3 h3 => ?_
          have hcut : (cutS z (some (st : Int)) (some (k : Int))).cps.toList = (z.cps.toList.take k).drop st := cut_lh z st k (by omega)
          rw [if_neg (by intro z; rw [z] at htl; simp at htl; omega)] at hp
          walk_at "go"
          exact fin (found ++ [(z.cps.toList.take k).drop st]) H3 (same_but ee b3 n1) (by rw [h3, txs_app, ← hcut, ← txs_one]) (by rw [List.length_append, List.length_singleton]; omega) (by rw [← hp]; simp) _ fun H4 p => by
            walk_at "go"
            exact p
        · refine w_iteN (decide_eq_false (by omega)) ?_
          walk_at "go"
          rw [if_pos (List.length_eq_zero_iff.mp (by rw [htl]; omega))] at hp
          exact fin found H2 ee hf2 (by omega) (by rw [← hp]; simp) _ fun H4 p => by
            walk_at "go"
            exact p
    · obtain ⟨found, st, ⟨o1, o2, rfl⟩, hst, hk, e, hf, hfl, hp⟩ := p
      have hlen : z.cps.toList.drop z.cps.toList.length = [] := List.drop_length
      rw [hlen, List.take_length, pcs_nil] at hp
      have hcut : (cutS z (some (st : Int)) none).cps.toList = z.cps.toList.drop st := cut_lo z st
      walk_at "go"
      by_cases hlt : st < z.length
      · refine w_iteP (decide_eq_true (by omega)) ?_
        walk_at "go"
        intro pg H4 n4 e4 h4
        have hf4 := e4 _ _ hf
        rw [if_neg (by intro c; have := congrArg List.length c; rw [List.length_drop, List.length_nil] at this; omega)] at hp
        refine w_add_lst hf4 h4 (by rw [txs_len]; simp; omega) fun D H5 n5 e5 h5 => ?_
        refine q D H5 (none_same (e.trans e4) n5) ((e.trans e4).trans e5) ?_
        rw [h5, ← hp, txs_app, ← hcut, ← txs_one]
      · refine w_iteN (decide_eq_false (by omega)) ?_
        walk_at "go"
        intro pg H4 n4 e4 h4
        have hf4 := e4 _ _ hf
        rw [if_pos (List.drop_eq_nil_of_le (by omega))] at hp
        refine w_add_lst hf4 h4 (by rw [txs_len]; simp; omega) fun D H5 n5 e5 h5 => ?_
        refine q D H5 (none_same (e.trans e4) n5) ((e.trans e4).trans e5) ?_
        rw [h5, ← hp, txs_app]
        rfl
end
end K53

set_option exponentiation.threshold 256
set_option Elab.async false
set_option linter.all false
set_option maxRecDepth 100000
set_option maxHeartbeats 4000000
set_option exponentiation.threshold 10
namespace K53
open PySem PySem.Spec PyProof.Rows L2 Lay DataM PySem.NumText
local macro_rules | `(tactic| walk_at "1") => `(tactic| first
  | with_reducible refine w_seq ?_
  | ((with_reducible refine w_var (v := ?vv) ?hv ?_); (case hv => rfl))
  | with_reducible refine w_c ?_
  | with_reducible refine w_m1 ?_
  | with_reducible refine w_isstr ?_
  | with_reducible refine w_bm0 ?_
  | with_reducible refine w_bm ?_
  | with_reducible refine w_gcons ?_
  | with_reducible refine w_gnil ?_
  | ((with_reducible refine w_ty (xs := ?vv) ?hv ?_); (case hv => walk_at "hx"))
  | ((with_reducible refine w_gtup (xs := ?vv) ?hv ?hl ?_); (case hv => walk_at "hx"); (case hl => rfl))
  | with_reducible refine w_for1 ?_
  | with_reducible refine w_for2 ?_
  | with_reducible refine w_for3 ?_
  | with_reducible refine w_forA ?_
  | with_reducible refine w_forE ?_
  | ((with_reducible refine w_aug (x := ?vv) ?hv ?_); (case hv => rfl))
  | with_reducible refine w_op ?_
  | with_reducible refine w_cb ?_
  | with_reducible refine w_acons ?_
  | with_reducible refine w_anil ?_
  | with_reducible refine w_set ?_
  | with_reducible refine w_if ?_
  | with_reducible refine w_test ?_
  | with_reducible refine w_tB ?_
  | with_reducible refine w_bl ?_
  | with_reducible refine w_and ?_
  | with_reducible refine w_or ?_
  | with_reducible refine w_not ?_
  | with_reducible refine w_iteT ?_
  | with_reducible refine w_iteF ?_
  | with_reducible refine w_ret ?_
  | with_reducible refine w_next ?_
  | with_reducible refine w_drop ?_
  | with_reducible refine w_call ?_
  | with_reducible refine w_ifx ?_
  | with_reducible refine w_andV ?_
  | with_reducible refine w_orV ?_
  | with_reducible refine w_notV ?_
  | with_reducible refine w_sl ?_
  | with_reducible refine w_nopart ?_
  | with_reducible refine w_part ?_
  | with_reducible refine w_exint ?_
  | with_reducible refine w_chain ?_
  | with_reducible refine w_par ?_
  | with_reducible refine w_two ?_
  | with_reducible refine w_par3 ?_
  | with_reducible refine w_three ?_
  | with_reducible refine w_asg ?_
  | with_reducible refine w_gset ?_
  | with_reducible refine w_retN ?_
  | with_reducible refine w_brk ?_
  | with_reducible refine w_cont ?_
  | with_reducible refine w_un ?_
  | with_reducible refine w_neg ?_
  | with_reducible refine w_callS ?_
  | with_reducible refine w_tup0 ?_
  | with_reducible refine w_lst0 ?_
  | with_reducible refine w_fld0 ?_
  | with_reducible refine w_sfld ?_
  | with_reducible refine w_make ?_
  | with_reducible refine w_meth ?_)
local macro_rules | `(tactic| walk_at "2") => `(tactic| first
  | with_reducible refine w_add_int ?_
  | with_reducible refine w_sub ?_
  | ((with_reducible refine w_add_str ?hl ?_); (case hl => walk_at "len"))
  | ((with_reducible refine w_mod ?hl ?_); (case hl => first | decide | omega))
  | ((with_reducible refine w_fdiv ?h1 ?h2 ?_); (case h1 => first | decide | omega); (case h2 => first | decide | omega))
  | ((with_reducible refine w_mulR ?h1 ?h2 ?_); (case h1 => first | decide | omega); (case h2 => first | decide | omega))
  | ((with_reducible refine w_mulL ?h1 ?h2 ?_); (case h1 => first | decide | omega); (case h2 => first | decide | omega))
  | with_reducible refine w_iadd_int ?_
  | ((with_reducible refine w_iadd_str ?hl ?_); (case hl => walk_at "len"))
  | ((with_reducible refine w_mk ?hl ?_); (case hl => walk_at "len"))
  | with_reducible refine w_lt_int ?_
  | with_reducible refine w_lt_str ?_
  | with_reducible refine w_le_int ?_
  | with_reducible refine w_le_str ?_
  | with_reducible refine w_gt ?_
  | with_reducible refine w_ge ?_
  | with_reducible refine w_eq_int ?_
  | with_reducible refine w_eq_str ?_
  | with_reducible refine w_ne_int ?_
  | with_reducible refine w_ne_str ?_
  | ((with_reducible refine w_isInt (d := ?vd) ?hd ?_); (case hd => walk_at "dp"))
  | ((with_reducible refine w_isBool (d := ?vd) ?hd ?_); (case hd => walk_at "dp"))
  | ((with_reducible refine w_isStr (d := ?vd) ?hd ?_); (case hd => walk_at "dp"))
  | ((with_reducible refine w_isTup (d := ?vd) ?hd ?_); (case hd => walk_at "dp"))
  | ((with_reducible refine w_isLst (d := ?vd) ?hd ?_); (case hd => walk_at "dp"))
  | refine w_in_str ?_
  | refine w_nin_str ?_
  | with_reducible refine w_is ?_
  | with_reducible refine w_isnot ?_
  | ((with_reducible refine w_len_str ?hl ?_); (case hl => walk_at "len"))
  | ((with_reducible refine w_len (xs := ?vv) ?hl ?_); (case hl => walk_at "hx"))
  | with_reducible refine w_int_int ?_
  | with_reducible refine w_str_str ?_
  | with_reducible refine w_abs ?_
  | ((with_reducible refine w_sl_str ?hl ?_); (case hl => walk_at "len"))
  | ((with_reducible refine w_fldAt (C := ?vC) (dx := ?vdx) (fs := ?vfs) (v := ?vv) ?h1 ?h2 ?h3 ?h4 ?_); (case h1 => walk_at "hx"); (case h2 => assumption); (case h3 => assumption); (case h4 => rfl))
  | ((with_reducible refine w_methAt (dx := ?vdx) (fs := ?vfs) ?h1 ?h2 ?_); (case h1 => walk_at "hx"); (case h2 => rfl))
  | ((with_reducible refine w_iteP ?h1 ?_); (case h1 => walk_at "yes"))
  | ((with_reducible refine w_iteN ?h1 ?_); (case h1 => walk_at "no")))
local macro_rules | `(tactic| walk_at "yes") => `(tactic| first | assumption | ((with_reducible refine bnotT ?_); walk_at "no") | (refine decide_eq_true ?_; first | assumption | omega) | exact rfl)
local macro_rules | `(tactic| walk_at "no") => `(tactic| first | assumption | ((with_reducible refine bnotF ?_); walk_at "yes") | (refine decide_eq_false ?_; first | assumption | omega) | exact rfl)
local macro_rules | `(tactic| walk_at "len") => `(tactic| first | assumption | exact Nat.le_of_ble_eq_true rfl | omega | decide | (simp only [List.length_append, List.length_cons, List.length_nil, List.length_map]; omega))
local macro_rules | `(tactic| walk_at "ne") => `(tactic| first | assumption | (refine Ne.symm ?_; assumption))
local macro_rules | `(tactic| walk_at "hx") => `(tactic| first
  | assumption
  | exact upd_same
  | ((with_reducible refine sqa_l ?_); walk_at "hx")
  | ((with_reducible refine sqa_t ?_); walk_at "hx")
  | ((with_reducible refine SqL.of ?_); walk_at "hx")
  | ((with_reducible refine SqT.of ?_); walk_at "hx")
  | ((with_reducible refine at_same (by assumption) ?_); walk_at "hx")
  | ((with_reducible refine at_but (by assumption) ?hne ?_); (case hne => walk_at "ne"); walk_at "hx")
  | ((with_reducible refine Txt.tup (by assumption) _ _ ?_); walk_at "hx")
  | ((with_reducible refine Same.seq (by assumption) ?_); walk_at "hx")
  | ((with_reducible refine Same.seqT (by assumption) ?_); walk_at "hx")
  | ((with_reducible refine Dp.same (by assumption) _ _ ?_); walk_at "hx")
  | ((with_reducible refine DpAll.same (by assumption) _ _ ?_); walk_at "hx"))
local macro_rules | `(tactic| walk_at "go") => `(tactic| repeat (first | walk_at "1" | walk_at "2"))
local macro_rules | `(tactic| walk_at "dp") => `(tactic| first | exact .int _ | exact .str _ | exact .bl _ | exact .non | walk_at "hx")

section
variable {P : Program} {w : World} {K : PySem.W.Frag} {mg : Str → Option Value} {base : Heap} {CM CR : Addr}
structure RdF (K : PySem.W.Frag) (CR : Addr) : Prop where
  cls : Cls K CR
  f1 : NoAttr K CR "tuples"
  f2 : NoAttr K CR "ready"
  f3 : NoAttr K CR "told"
abbrev flds (pt pd : Addr) (b : Bool) : List (Str × V) := [("tuples", .ref pt), ("ready", .bl b), ("told", .ref pd)]
structure RowAt (K : PySem.W.Frag) (H0 H : Hp) (a pt pd : Addr) (n : Nat) (q : Addr) (ds : List PyData) : Prop where
  na : q ≠ a
  nt : q ≠ pt
  nd : q ≠ pd
  fr : H0 q = none
  len : ds.length ≤ n
  fz : fzAll ds = true
  at_ : ∃ vs, H q = some (.lst vs) ∧ DpAll K H vs ds
structure RdAt (K : PySem.W.Frag) (CR : Addr) (H0 H : Hp) (a : Addr) (n : Nat) (r : R) (dx pt pd : Addr) (rows : List Addr) (tv : List V) : Prop where
  obj : H a = some (.ins CR dx (flds pt pd r.rd))
  tup : H pt = some (.lst (rows.reverse.map .ref))
  row : Paired (RowAt K H0 H a pt pd n) rows r.st
  nod : rows.Nodup
  told : H pd = some (.lst tv)
  tdp : DpAll K H tv r.td
  tfz : fzAll r.td = true
  tlen : r.td.length ≤ n
  ne1 : pt ≠ pd
  ne2 : pt ≠ a
  ne3 : pd ≠ a
  na : H0 a = none
  nt : H0 pt = none
  nd : H0 pd = none
  same : Same H0 H
  len : r.st.length ≤ 1000
def Rd (K : PySem.W.Frag) (CR : Addr) (H0 H : Hp) (a : Addr) (n : Nat) (r : R) : Prop := ∃ dx pt pd rows tv, RdAt K CR H0 H a n r dx pt pd rows tv
variable {H0 H H' : Hp} {a dx pt pd : Addr} {n : Nat} {r : R} {rows : List Addr} {tv : List V}
theorem RowAt.txt {q : Addr} {ds : List PyData} (z : RowAt K H0 H a pt pd n q ds) (t : Txt H H') (h : ∀ vs, H q = some (.lst vs) → H' q = some (.lst vs)) : RowAt K H0 H' a pt pd n q ds := by
  obtain ⟨vs, h1, h2⟩ := z.at_
  exact ⟨z.na, z.nt, z.nd, z.fr, z.len, z.fz, vs, h vs h1, DpAll.txt t ds vs z.fz h2⟩
theorem RowAt.mono {q : Addr} {ds : List PyData} {m : Nat} (z : RowAt K H0 H a pt pd n q ds) (h : n ≤ m) : RowAt K H0 H a pt pd m q ds := ⟨z.na, z.nt, z.nd, z.fr, Nat.le_trans z.len h, z.fz, z.at_⟩
theorem paired_mem {α β : Type} {F G : α → β → Prop} : ∀ {xs : List α} {ys : List β}, Paired F xs ys → (∀ x y, x ∈ xs → F x y → G x y) → Paired G xs ys
  | _, _, .nil, _ => .nil
  | _, _, .cons h t, f => .cons (f _ _ List.mem_cons_self h) (paired_mem t fun x y hx => f x y (List.mem_cons_of_mem _ hx))
theorem paired_get {α β : Type} {F : α → β → Prop} : ∀ {xs : List α} {ys : List β}, Paired F xs ys → ∀ x ∈ xs, ∃ y, F x y
  | _, _, .cons h t, x, hx => by
    rcases List.mem_cons.mp hx with rfl | hx
    · exact ⟨_, h⟩
    · exact paired_get t x hx
theorem RdAt.mono {m : Nat} (z : RdAt K CR H0 H a n r dx pt pd rows tv) (h : n ≤ m) : RdAt K CR H0 H a m r dx pt pd rows tv :=
  ⟨z.obj, z.tup, Paired.mapP z.row fun _ _ q => q.mono h, z.nod, z.told, z.tdp, z.tfz, Nat.le_trans z.tlen h, z.ne1, z.ne2, z.ne3, z.na, z.nt, z.nd, z.same, z.len⟩
theorem RdAt.go (z : RdAt K CR H0 H a n r dx pt pd rows tv) (e : Same H H') : RdAt K CR H0 H' a n r dx pt pd rows tv :=
  ⟨e _ _ z.obj, e _ _ z.tup, Paired.mapP z.row fun _ _ q => q.txt (Txt.same e) fun vs h => e _ _ h, z.nod, e _ _ z.told, DpAll.same e _ _ z.tdp, z.tfz, z.tlen, z.ne1, z.ne2, z.ne3, z.na, z.nt, z.nd, z.same.trans e, z.len⟩
theorem RdAt.ready {b : Bool} (z : RdAt K CR H0 H a n r dx pt pd rows tv) (bt : But a H H') (t : Txt H H') (h : H' a = some (.ins CR dx (flds pt pd b))) : RdAt K CR H0 H' a n ⟨r.st, b, r.td⟩ dx pt pd rows tv :=
  ⟨h, bt _ _ z.ne2 z.tup, Paired.mapP z.row fun _ _ q => q.txt t fun vs h => bt _ _ q.na h, z.nod, bt _ _ z.ne3 z.told, DpAll.txt t _ _ z.tfz z.tdp, z.tfz, z.tlen, z.ne1, z.ne2, z.ne3, z.na, z.nt, z.nd, same_but z.same bt z.na, z.len⟩
theorem fzAll_app : ∀ {xs ys : List PyData}, fzAll xs = true → fzAll ys = true → fzAll (xs ++ ys) = true
  | [], _, _, h => h
  | x :: xs, ys, h, k => by
    simp only [fzAll, Bool.and_eq_true, List.cons_append] at h ⊢
    exact ⟨h.1, fzAll_app h.2 k⟩
theorem fzAll_one {d : PyData} (h : Lay.fz d = true) : fzAll [d] = true := by
  simp [fzAll, h]
theorem RdAt.told_app {v : V} {d : PyData} (z : RdAt K CR H0 H a n r dx pt pd rows tv) (hd : Dp K H v d) (hf : Lay.fz d = true) (bt : But pd H H') (t : Txt H H') (h : H' pd = some (.lst (tv ++ [v]))) :
    RdAt K CR H0 H' a (n + 1) ⟨r.st, r.rd, r.td ++ [d]⟩ dx pt pd rows (tv ++ [v]) :=
  ⟨bt _ _ (Ne.symm z.ne3) z.obj, bt _ _ z.ne1 z.tup, Paired.mapP z.row fun _ _ q => (q.txt t fun vs h => bt _ _ q.nd h).mono (Nat.le_succ n), z.nod, h, DpAll.append (DpAll.txt t _ _ z.tfz z.tdp) (.cons (Dp.txt t d v hf hd) .nil),
    fzAll_app z.tfz (fzAll_one hf), by rw [List.length_append]; exact Nat.succ_le_succ z.tlen, z.ne1, z.ne2, z.ne3, z.na, z.nt, z.nd, same_but z.same bt z.nd, z.len⟩
theorem RdAt.row_app {v : V} {d : PyData} {q : Addr} {rest : List Addr} {row : List PyData} {s : List (List PyData)} {rd : Bool} {td : List PyData} {vs : List V} (z : RdAt K CR H0 H a n ⟨row :: s, rd, td⟩ dx pt pd (q :: rest) tv) (hq : H q = some (.lst vs)) (hv : DpAll K H vs row)
    (hd : Dp K H v d) (hf : Lay.fz d = true) (bt : But q H H') (t : Txt H H') (h : H' q = some (.lst (vs ++ [v]))) : RdAt K CR H0 H' a (n + 1) ⟨(row ++ [d]) :: s, rd, td⟩ dx pt pd (q :: rest) tv := by
  have hr := z.row
  cases hr with
  | cons h1 h2 =>
    have hnd := List.nodup_cons.mp z.nod
    refine ⟨bt _ _ (Ne.symm h1.na) z.obj, bt _ _ (Ne.symm h1.nt) z.tup, .cons ?_ ?_, z.nod, bt _ _ (Ne.symm h1.nd) z.told, DpAll.txt t _ _ z.tfz z.tdp, z.tfz, Nat.le_succ_of_le z.tlen, z.ne1, z.ne2, z.ne3, z.na, z.nt, z.nd, same_but z.same bt h1.fr, z.len⟩
    · exact ⟨h1.na, h1.nt, h1.nd, h1.fr, by rw [List.length_append]; exact Nat.succ_le_succ h1.len, fzAll_app h1.fz (fzAll_one hf), _, h, DpAll.append (DpAll.txt t _ _ h1.fz hv) (.cons (Dp.txt t d v hf hd) .nil)⟩
    · exact paired_mem h2 fun x y hx q2 => (q2.txt t fun vs h => bt _ _ (fun e => hnd.1 (e ▸ hx)) h).mono (Nat.le_succ n)
theorem RdAt.push {q : Addr} (z : RdAt K CR H0 H a n r dx pt pd rows tv) (hl : r.st.length < 1000) (hq : H q = some (.lst [])) (n0 : H0 q = none) (n1 : q ∉ rows) (n2 : q ≠ a) (n3 : q ≠ pt) (n4 : q ≠ pd) (bt : But pt H H') (t : Txt H H') (h : H' pt = some (.lst (rows.reverse.map .ref ++ [.ref q]))) :
    RdAt K CR H0 H' a n ⟨[] :: r.st, r.rd, r.td⟩ dx pt pd (q :: rows) tv := by
  refine ⟨bt _ _ (Ne.symm z.ne2) z.obj, ?_, .cons ⟨n2, n3, n4, n0, Nat.zero_le _, rfl, [], bt _ _ n3 hq, .nil⟩ (Paired.mapP z.row fun _ _ q => q.txt t fun vs h => bt _ _ q.nt h), List.nodup_cons.mpr ⟨n1, z.nod⟩, bt _ _ (Ne.symm z.ne1) z.told, DpAll.txt t _ _ z.tfz z.tdp, z.tfz, z.tlen, z.ne1, z.ne2, z.ne3, z.na, z.nt, z.nd, same_but z.same bt z.nt, hl⟩
  rw [h]
  simp
theorem RdAt.pop {q : Addr} {rest : List Addr} {row : List PyData} {s : List (List PyData)} {rd : Bool} {td : List PyData} (z : RdAt K CR H0 H a n ⟨row :: s, rd, td⟩ dx pt pd (q :: rest) tv) (bt : But pt H H') (t : Txt H H') (h : H' pt = some (.lst (rest.reverse.map .ref))) :
    RdAt K CR H0 H' a n ⟨s, rd, td⟩ dx pt pd rest tv := by
  have hr := z.row
  cases hr with
  | cons h1 h2 =>
    exact ⟨bt _ _ (Ne.symm z.ne2) z.obj, h, Paired.mapP h2 fun _ _ q => q.txt t fun vs h => bt _ _ q.nt h, (List.nodup_cons.mp z.nod).2, bt _ _ (Ne.symm z.ne1) z.told, DpAll.txt t _ _ z.tfz z.tdp, z.tfz, z.tlen, z.ne1, z.ne2, z.ne3, z.na, z.nt, z.nd, same_but z.same bt z.nt, Nat.le_of_succ_le z.len⟩
def spItem (K : PySem.W.Frag) (CM CR : Addr) : Sp := fun vs H Q E => ∃ H0 n r a v d, vs = [.ref a, v] ∧ Rd K CR H0 H a n r ∧ n ≤ 1000000 ∧ Dp K H v d ∧ Lay.fz d = true ∧
  (∀ r', r.item d = some r' → ∀ H', Rd K CR H0 H' a (n + 1) r' → Q .non H') ∧ (r.item d = none → ∀ H', Same H0 H' → E (.ref CM) none H')
theorem ok_item {f : Addr} {fd : FuncData} (T : Facts w K mg CM) (RF : RdF K CR) (F : Fun K "item" "DataReader.item" s_DataReader_item f fd) : FnOk P w K mg base (L2.CX P w) 1 f fd ["self", "value"] (spItem K CM CR) := by
  refine F.okX sc_DataReader_item (fun vs H Q E h => ?_) (fun cdv A outer s H vs Q E hr h => ?_)
  · obtain ⟨H0, n, r, a, v, d, rfl, _⟩ := h
    rfl
  · obtain ⟨H0, n, r, a, v, d, rfl, ⟨dx, pt, pd, rows, tv, Z⟩, hn, hd, hf, q1, q2⟩ := h
    refine ⟨_, (pss_cons (ps_if (pt_not (pt_val (fld_A (K := K) (pv 0) rfl))) (pss_one (ps_raise rfl (takes_of rfl rfl rfl rfl) (pmk_own PySem.F.excBase_ValueError T.x_Malformed T.g_Malformed T.k_Malformed (raises_own T.s_Malformed T.t_Malformed) (by rfl)))) pss_nil)
    (pss_cons (ps_if (pt_cmpR op_gtA (pe_callB (call_lenA (K := K)) (by rfl) T.b_len (by decide +kernel) (pa_cons (fld_A (K := K) (pv 0) rfl) pa_nil)) pe_int (nomark _)) (pss_one (ps_expr (pe_bm PySem.F.plainAttrs_list PySem.F.slot_list_append PySem.F.type_list_append mt_append (pe_ix (ix_A (K := K)) (fld_A (K := K) (pv 0) rfl) (pe_un un_neg pe_int) (fun _ _ => rfl)) (pa_cons (pv 1) pa_nil)))) (pss_one (ps_expr (pe_bm PySem.F.plainAttrs_list PySem.F.slot_list_append PySem.F.type_list_append mt_append (fld_A (K := K) (pv 0) rfl) (pa_cons (pv 1) pa_nil)))))
    (pss_one (ps_fld (pv 0) pe_bl rfl)))), ?_⟩
    try dsimp only [cxOf]
    refine w_start (show _ = [some _, some _] from rfl) ?_
    have hc := RF.cls
    have hf1 := RF.f1
    have hf2 := RF.f2
    have hf3 := RF.f3
    obtain ⟨st, rd, td⟩ := r
    have ho : H a = some (.ins CR dx (flds pt pd rd)) := Z.obj
    have ht := Z.tup
    have hto := Z.told
    walk_at "go"
    cases rd with
    | false =>
      walk_at "go"
      exact q2 rfl H Z.same
    | true =>
      have fin : ∀ (r' : R) H2, (R.mk st true td).item d = some r' → ∀ rows tv, RdAt K CR H0 H2 a (n + 1) ⟨r'.st, true, r'.td⟩ dx pt pd rows tv → r'.rd = false → ∀ σ2 : L2.St, σ2[0]? = some (some (.ref a)) →
          sFld K (tVar 0) (tC (V.bl false)) "ready" ⟨fun x H' => Q .non H', Q, fun _ _ => False, fun _ _ => False⟩ σ2 H2 := fun r' H2 hi rows tv Z2 hrd σ2 hσ => by
        have ho2 := Z2.obj
        walk_at "go"
        refine ⟨_, hσ, ?_⟩
        refine w_sfldAt ho2 hc hf2 (Nat.le_of_ble_eq_true rfl) fun H3 b3 t3 h3 => ?_
        refine q1 r' hi H3 ⟨dx, pt, pd, rows, tv, ?_⟩
        obtain ⟨st', rd', td'⟩ := r'
        cases hrd
        exact Z2.ready b3 t3 h3
      walk_at "go"
      cases st with
      | nil =>
        have hrow := Z.row
        cases hrow
        walk_at "go"
        have hl := DpAll.length Z.tdp
        have hl2 : td.length ≤ n := Z.tlen
        refine w_appG hto (by rw [hl]; exact Nat.le_trans hl2 (by omega)) fun H2 b2 t2 h2 => ?_
        exact fin _ H2 rfl _ _ (Z.told_app hd hf b2 t2 h2) rfl _ rfl
      | cons row st =>
        have hrow := Z.row
        cases hrow with
        | @cons q _ rest _ h1 h2 =>
          have hpos : decide ((0 : Int) < (((List.map V.ref (q :: rest).reverse).length : Nat) : Int)) = true := decide_eq_true (by simp)
          walk_at "go"
          refine w_ix (.inl (SqL.of ht)) (by rw [List.reverse_cons, List.map_append]; exact atI_last _ _) ?_
          obtain ⟨vs, h3, h4⟩ := h1.at_
          walk_at "go"
          have hl := DpAll.length h4
          have hl2 := h1.len
          refine w_appG h3 (by omega) fun H2 b2 t2 h2 => ?_
          exact fin _ H2 rfl _ _ (Z.row_app h3 h4 hd hf b2 t2 h2) rfl _ rfl
end
end K53

set_option exponentiation.threshold 256
set_option Elab.async false
set_option linter.all false
set_option maxRecDepth 100000
set_option maxHeartbeats 4000000
set_option exponentiation.threshold 10
namespace K53
open PySem PySem.Spec PyProof.Rows L2 Lay DataM PySem.NumText
local macro_rules | `(tactic| walk_at "1") => `(tactic| first
  | with_reducible refine w_seq ?_
  | ((with_reducible refine w_var (v := ?vv) ?hv ?_); (case hv => rfl))
  | with_reducible refine w_c ?_
  | with_reducible refine w_m1 ?_
  | with_reducible refine w_isstr ?_
  | with_reducible refine w_bm0 ?_
  | with_reducible refine w_bm ?_
  | with_reducible refine w_gcons ?_
  | with_reducible refine w_gnil ?_
  | ((with_reducible refine w_ty (xs := ?vv) ?hv ?_); (case hv => walk_at "hx"))
  | ((with_reducible refine w_gtup (xs := ?vv) ?hv ?hl ?_); (case hv => walk_at "hx"); (case hl => rfl))
  | with_reducible refine w_for1 ?_
  | with_reducible refine w_for2 ?_
  | with_reducible refine w_for3 ?_
  | with_reducible refine w_forA ?_
  | with_reducible refine w_forE ?_
  | ((with_reducible refine w_aug (x := ?vv) ?hv ?_); (case hv => rfl))
  | with_reducible refine w_op ?_
  | with_reducible refine w_cb ?_
  | with_reducible refine w_acons ?_
  | with_reducible refine w_anil ?_
  | with_reducible refine w_set ?_
  | with_reducible refine w_if ?_
  | with_reducible refine w_test ?_
  | with_reducible refine w_tB ?_
  | with_reducible refine w_bl ?_
  | with_reducible refine w_and ?_
  | with_reducible refine w_or ?_
  | with_reducible refine w_not ?_
  | with_reducible refine w_iteT ?_
  | with_reducible refine w_iteF ?_
  | with_reducible refine w_ret ?_
  | with_reducible refine w_next ?_
  | with_reducible refine w_drop ?_
  | with_reducible refine w_call ?_
  | with_reducible refine w_ifx ?_
  | with_reducible refine w_andV ?_
  | with_reducible refine w_orV ?_
  | with_reducible refine w_notV ?_
  | with_reducible refine w_sl ?_
  | with_reducible refine w_nopart ?_
  | with_reducible refine w_part ?_
  | with_reducible refine w_exint ?_
  | with_reducible refine w_chain ?_
  | with_reducible refine w_par ?_
  | with_reducible refine w_two ?_
  | with_reducible refine w_par3 ?_
  | with_reducible refine w_three ?_
  | with_reducible refine w_asg ?_
  | with_reducible refine w_gset ?_
  | with_reducible refine w_retN ?_
  | with_reducible refine w_brk ?_
  | with_reducible refine w_cont ?_
  | with_reducible refine w_un ?_
  | with_reducible refine w_neg ?_
  | with_reducible refine w_callS ?_
  | with_reducible refine w_tup0 ?_
  | with_reducible refine w_lst0 ?_
  | with_reducible refine w_fld0 ?_
  | with_reducible refine w_sfld ?_
  | with_reducible refine w_make ?_
  | with_reducible refine w_meth ?_)
local macro_rules | `(tactic| walk_at "2") => `(tactic| first
  | with_reducible refine w_add_int ?_
  | with_reducible refine w_sub ?_
  | ((with_reducible refine w_add_str ?hl ?_); (case hl => walk_at "len"))
  | ((with_reducible refine w_mod ?hl ?_); (case hl => first | decide | omega))
  | ((with_reducible refine w_fdiv ?h1 ?h2 ?_); (case h1 => first | decide | omega); (case h2 => first | decide | omega))
  | ((with_reducible refine w_mulR ?h1 ?h2 ?_); (case h1 => first | decide | omega); (case h2 => first | decide | omega))
  | ((with_reducible refine w_mulL ?h1 ?h2 ?_); (case h1 => first | decide | omega); (case h2 => first | decide | omega))
  | with_reducible refine w_iadd_int ?_
  | ((with_reducible refine w_iadd_str ?hl ?_); (case hl => walk_at "len"))
  | ((with_reducible refine w_mk ?hl ?_); (case hl => walk_at "len"))
  | with_reducible refine w_lt_int ?_
  | with_reducible refine w_lt_str ?_
  | with_reducible refine w_le_int ?_
  | with_reducible refine w_le_str ?_
  | with_reducible refine w_gt ?_
  | with_reducible refine w_ge ?_
  | with_reducible refine w_eq_int ?_
  | with_reducible refine w_eq_str ?_
  | with_reducible refine w_ne_int ?_
  | with_reducible refine w_ne_str ?_
  | ((with_reducible refine w_isInt (d := ?vd) ?hd ?_); (case hd => walk_at "dp"))
  | ((with_reducible refine w_isBool (d := ?vd) ?hd ?_); (case hd => walk_at "dp"))
  | ((with_reducible refine w_isStr (d := ?vd) ?hd ?_); (case hd => walk_at "dp"))
  | ((with_reducible refine w_isTup (d := ?vd) ?hd ?_); (case hd => walk_at "dp"))
  | ((with_reducible refine w_isLst (d := ?vd) ?hd ?_); (case hd => walk_at "dp"))
  | refine w_in_str ?_
  | refine w_nin_str ?_
  | with_reducible refine w_is ?_
  | with_reducible refine w_isnot ?_
  | ((with_reducible refine w_len_str ?hl ?_); (case hl => walk_at "len"))
  | ((with_reducible refine w_len (xs := ?vv) ?hl ?_); (case hl => walk_at "hx"))
  | with_reducible refine w_int_int ?_
  | with_reducible refine w_str_str ?_
  | with_reducible refine w_abs ?_
  | ((with_reducible refine w_sl_str ?hl ?_); (case hl => walk_at "len"))
  | ((with_reducible refine w_fldAt (C := ?vC) (dx := ?vdx) (fs := ?vfs) (v := ?vv) ?h1 ?h2 ?h3 ?h4 ?_); (case h1 => walk_at "hx"); (case h2 => assumption); (case h3 => assumption); (case h4 => rfl))
  | ((with_reducible refine w_methAt (dx := ?vdx) (fs := ?vfs) ?h1 ?h2 ?_); (case h1 => walk_at "hx"); (case h2 => rfl))
  | ((with_reducible refine w_iteP ?h1 ?_); (case h1 => walk_at "yes"))
  | ((with_reducible refine w_iteN ?h1 ?_); (case h1 => walk_at "no")))
local macro_rules | `(tactic| walk_at "yes") => `(tactic| first | assumption | ((with_reducible refine bnotT ?_); walk_at "no") | (refine decide_eq_true ?_; first | assumption | omega) | exact rfl)
local macro_rules | `(tactic| walk_at "no") => `(tactic| first | assumption | ((with_reducible refine bnotF ?_); walk_at "yes") | (refine decide_eq_false ?_; first | assumption | omega) | exact rfl)
local macro_rules | `(tactic| walk_at "len") => `(tactic| first | assumption | exact Nat.le_of_ble_eq_true rfl | omega | decide | (simp only [List.length_append, List.length_cons, List.length_nil, List.length_map]; omega))
local macro_rules | `(tactic| walk_at "ne") => `(tactic| first | assumption | (refine Ne.symm ?_; assumption))
local macro_rules | `(tactic| walk_at "hx") => `(tactic| first
  | assumption
  | exact upd_same
  | ((with_reducible refine sqa_l ?_); walk_at "hx")
  | ((with_reducible refine sqa_t ?_); walk_at "hx")
  | ((with_reducible refine SqL.of ?_); walk_at "hx")
  | ((with_reducible refine SqT.of ?_); walk_at "hx")
  | ((with_reducible refine at_same (by assumption) ?_); walk_at "hx")
  | ((with_reducible refine at_but (by assumption) ?hne ?_); (case hne => walk_at "ne"); walk_at "hx")
  | ((with_reducible refine Txt.tup (by assumption) _ _ ?_); walk_at "hx")
  | ((with_reducible refine Same.seq (by assumption) ?_); walk_at "hx")
  | ((with_reducible refine Same.seqT (by assumption) ?_); walk_at "hx")
  | ((with_reducible refine Dp.same (by assumption) _ _ ?_); walk_at "hx")
  | ((with_reducible refine DpAll.same (by assumption) _ _ ?_); walk_at "hx"))
local macro_rules | `(tactic| walk_at "go") => `(tactic| repeat (first | walk_at "1" | walk_at "2"))
local macro_rules | `(tactic| walk_at "dp") => `(tactic| first | exact .int _ | exact .str _ | exact .bl _ | exact .non | walk_at "hx")

section
variable {P : Program} {w : World} {K : PySem.W.Frag} {mg : Str → Option Value} {base : Heap} {CM CR : Addr}
def spStep (K : PySem.W.Frag) (CM CR : Addr) (g : R → Option R) : Sp := fun vs H Q E => ∃ H0 n r a, vs = [.ref a] ∧ Rd K CR H0 H a n r ∧ n ≤ 1000000 ∧
  (∀ r', g r = some r' → ∀ H', Rd K CR H0 H' a (n + 1) r' → Q .non H') ∧ (g r = none → ∀ H', Same H0 H' → E (.ref CM) none H')
theorem ok_open {f : Addr} {fd : FuncData} (T : Facts w K mg CM) (RF : RdF K CR) (F : Fun K "open_one" "DataReader.open_one" s_DataReader_open_one f fd) : FnOk P w K mg base (L2.CX P w) 1 f fd ["self"] (spStep K CM CR R.opn) := by
  refine F.okX sc_DataReader_open_one (fun vs H Q E h => ?_) (fun cdv A outer s H vs Q E hr h => ?_)
  · obtain ⟨H0, n, r, a, rfl, _⟩ := h
    rfl
  · obtain ⟨H0, n, r, a, rfl, ⟨dx, pt, pd, rows, tv, Z⟩, hn, q1, q2⟩ := h
    refine ⟨_, (pss_cons (ps_if (PW.pt (pw_or (pt_not (pt_val (fld_A (K := K) (pv 0) rfl))) (pw_or1 (pt_cmpR op_geA (pe_callB (call_lenA (K := K)) (by rfl) T.b_len (by decide +kernel) (pa_cons (fld_A (K := K) (pv 0) rfl) pa_nil)) (pe_gc (by rfl) T.c_MOST_DEPTH) (nomark _))))) (pss_one (ps_raise rfl (takes_of rfl rfl rfl rfl) (pmk_own PySem.F.excBase_ValueError T.x_Malformed T.g_Malformed T.k_Malformed (raises_own T.s_Malformed T.t_Malformed) (by rfl)))) pss_nil)
    (pss_one (ps_expr (pe_bm PySem.F.plainAttrs_list PySem.F.slot_list_append PySem.F.type_list_append mt_append (fld_A (K := K) (pv 0) rfl) (pa_cons (pe_lstG pa_nil) pa_nil))))), ?_⟩
    try dsimp only [cxOf]
    refine w_start (show _ = [some _] from rfl) ?_
    have hc := RF.cls
    have hf1 := RF.f1
    have hf2 := RF.f2
    have hf3 := RF.f3
    obtain ⟨st, rd, td⟩ := r
    have ho : H a = some (.ins CR dx (flds pt pd rd)) := Z.obj
    have ht := Z.tup
    have hlen : rows.length = st.length := Z.row.length
    walk_at "go"
    cases rd with
    | false =>
      walk_at "go"
      refine q2 ?_ H Z.same
      simp [R.opn]
    | true =>
      walk_at "go"
      rw [List.length_map, List.length_reverse, hlen]
      refine w_ite (fun h => ?_) (fun h => ?_)
      · have h' : ¬ st.length < 1000 := by
          have := of_decide_eq_true h
          omega
        walk_at "go"
        refine q2 ?_ H Z.same
        simp [R.opn, h']
      · have h' : st.length < 1000 := by
          have := of_decide_eq_false h
          omega
        walk_at "go"
        intro q H2 n2 e2 h2
        walk_at "go"
        have Z2 := Z.go e2
        have ht2 := e2 _ _ ht
        refine w_appG ht2 (by rw [List.length_map, List.length_reverse]; omega) fun H3 b3 t3 h3 => ?_
        refine q1 ⟨[] :: st, true, td⟩ (by simp [R.opn, h']) H3 ⟨dx, pt, pd, q :: rows, tv, ?_⟩
        refine (Z2.push (q := q) h' h2 (none_same Z.same n2) (fun hq => ?_) (fun e => ?_) (fun e => ?_) (fun e => ?_) b3 t3 h3).mono (Nat.le_succ n)
        · obtain ⟨ds, z⟩ := paired_get Z.row q hq
          obtain ⟨vs, z1, _⟩ := z.at_
          rw [n2] at z1
          cases z1
        · rw [e, ho] at n2
          cases n2
        · rw [e, ht] at n2
          cases n2
        · rw [e, Z.told] at n2
          cases n2
theorem ok_comma {f : Addr} {fd : FuncData} (T : Facts w K mg CM) (RF : RdF K CR) (F : Fun K "comma" "DataReader.comma" s_DataReader_comma f fd) : FnOk P w K mg base (L2.CX P w) 1 f fd ["self"] (spStep K CM CR R.com) := by
  refine F.okX sc_DataReader_comma (fun vs H Q E h => ?_) (fun cdv A outer s H vs Q E hr h => ?_)
  · obtain ⟨H0, n, r, a, rfl, _⟩ := h
    rfl
  · obtain ⟨H0, n, r, a, rfl, ⟨dx, pt, pd, rows, tv, Z⟩, hn, q1, q2⟩ := h
    refine ⟨_, (pss_cons (ps_if (PW.pt (pw_or (pt_val (fld_A (K := K) (pv 0) rfl)) (pw_or1 (pt_cmpR (op_eqA (K := K) hr.units) (pe_callB (call_lenA (K := K)) (by rfl) T.b_len (by decide +kernel) (pa_cons (fld_A (K := K) (pv 0) rfl) pa_nil)) pe_int (nomark _))))) (pss_one (ps_raise rfl (takes_of rfl rfl rfl rfl) (pmk_own PySem.F.excBase_ValueError T.x_Malformed T.g_Malformed T.k_Malformed (raises_own T.s_Malformed T.t_Malformed) (by rfl)))) pss_nil)
    (pss_one (ps_fld (pv 0) pe_bl rfl))), ?_⟩
    try dsimp only [cxOf]
    refine w_start (show _ = [some _] from rfl) ?_
    have hc := RF.cls
    have hf1 := RF.f1
    have hf2 := RF.f2
    have hf3 := RF.f3
    obtain ⟨st, rd, td⟩ := r
    have ho : H a = some (.ins CR dx (flds pt pd rd)) := Z.obj
    have ht := Z.tup
    have hlen : rows.length = st.length := Z.row.length
    walk_at "go"
    cases rd with
    | true =>
      walk_at "go"
      refine q2 ?_ H Z.same
      simp [R.com]
    | false =>
      walk_at "go"
      rw [List.length_map, List.length_reverse, hlen]
      cases st with
      | nil =>
        walk_at "go"
        exact q2 (by simp [R.com]) H Z.same
      | cons row st =>
        refine w_iteN (decide_eq_false (by simp; omega)) ?_
        walk_at "go"
        refine w_sfldAt ho hc hf2 (Nat.le_of_ble_eq_true rfl) fun H3 b3 t3 h3 => ?_
        exact q1 ⟨row :: st, true, td⟩ (by simp [R.com]) H3 ⟨dx, pt, pd, rows, tv, (Z.ready b3 t3 h3).mono (Nat.le_succ n)⟩
theorem ok_close {f : Addr} {fd : FuncData} (T : Facts w K mg CM) (RF : RdF K CR) (F : Fun K "close_one" "DataReader.close_one" s_DataReader_close_one f fd) (c_DataReader_item : MeC (L2.CX P w) P w K mg base 1 CR "item" (spItem K CM CR)) :
    FnOk P w K mg base (L2.CX P w) 2 f fd ["self"] (spStep K CM CR R.cls) := by
  refine F.okX sc_DataReader_close_one (fun vs H Q E h => ?_) (fun cdv A outer s H vs Q E hr h => ?_)
  · obtain ⟨H0, n, r, a, rfl, _⟩ := h
    rfl
  · obtain ⟨H0, n, r, a, rfl, ⟨dx, pt, pd, rows, tv, Z⟩, hn, q1, q2⟩ := h
    refine ⟨_, (pss_cons (ps_if (PW.pt (pw_or (pt_cmpR (op_eqA (K := K) hr.units) (pe_callB (call_lenA (K := K)) (by rfl) T.b_len (by decide +kernel) (pa_cons (fld_A (K := K) (pv 0) rfl) pa_nil)) pe_int (nomark _)) (pw_or1 (PW.pt (pw_and (pt_val (fld_A (K := K) (pv 0) rfl)) (pw_and1 (pt_cmpR op_gtA (pe_callB (call_lenA (K := K)) (by rfl) T.b_len (by decide +kernel) (pa_cons (pe_ix (ix_A (K := K)) (fld_A (K := K) (pv 0) rfl) (pe_un un_neg pe_int) (fun _ _ => rfl)) pa_nil)) pe_int (nomark _)))))))) (pss_one (ps_raise rfl (takes_of rfl rfl rfl rfl) (pmk_own PySem.F.excBase_ValueError T.x_Malformed T.g_Malformed T.k_Malformed (raises_own T.s_Malformed T.t_Malformed) (by rfl)))) pss_nil)
    (pss_cons (ps_set (i := 1) sc_DataReader_close_one.nd rfl (by first | exact Or.inl rfl | exact Or.inr rfl) (pe_callTy (call_tupA (K := K)) (by rfl) T.b_tuple (by decide +kernel) (pa_cons (pe_bm0 PySem.F.plainAttrs_list PySem.F.slot_list_pop PySem.F.type_list_pop mt_pop (fld_A (K := K) (pv 0) rfl)) pa_nil)))
    (pss_cons (ps_fld (pv 0) pe_bl rfl)
    (pss_one (ps_expr (pe_me c_DataReader_item hr (by decide) (passes_call (takes_of rfl rfl rfl rfl) (fun _ _ _ _ h => h)) (pv 0) (pa_cons (pv 1) pa_nil))))))), ?_⟩
    try dsimp only [cxOf]
    refine w_start (show _ = [some _, none] from rfl) ?_
    have hc := RF.cls
    have hf1 := RF.f1
    have hf2 := RF.f2
    have hf3 := RF.f3
    obtain ⟨st, rd, td⟩ := r
    have ho : H a = some (.ins CR dx (flds pt pd rd)) := Z.obj
    have ht := Z.tup
    have hlen : rows.length = st.length := Z.row.length
    walk_at "go"
    rw [List.length_map, List.length_reverse, hlen]
    cases st with
    | nil =>
      walk_at "go"
      exact q2 rfl H Z.same
    | cons row st =>
      refine w_iteN (decide_eq_false (by simp; omega)) ?_
      have hrow := Z.row
      cases hrow with
      | @cons q _ rest _ h1 hrest =>
        obtain ⟨vs, h3, h4⟩ := h1.at_
        have hl := DpAll.length h4
        have hl2 := h1.len
        walk_at "go"
        have rest_ok : ¬ (rd = true ∧ row ≠ []) → rPop (.ref pt) [] H fun x H1 => tNil [some (.ref a), none] H1 fun xs H2 => rTupA K (x :: xs) H2 fun x H1 => gName 1 x [some (.ref a), none] H1 (tSeq (sFld K (tVar 0) (tC (V.bl true)) "ready") (tDrop (tMeth CR "item" (spItem K CM CR) [] E (tVar 0) (tCons (tVar 1) tNil))) ⟨fun x H' => Q .non H', Q, fun _ _ => False, fun _ _ => False⟩) := fun hno => by
          have ht' : H pt = some (.lst (rest.reverse.map V.ref ++ [.ref q])) := by
            rw [ht]
            simp
          refine w_popG ht' fun H2 b2 t2 h2 => ?_
          have Z2 := Z.pop b2 t2 h2
          have h32 := b2 _ _ h1.nt h3
          walk_at "go"
          refine w_tupL (SqL.of h32) ?_
          intro p H3 n3 e3 h3'
          have Z3 := Z2.go e3
          have ho3 : H3 a = some (.ins CR dx (flds pt pd rd)) := Z3.obj
          have hv3 := DpAll.same e3 _ _ (DpAll.txt t2 _ _ h1.fz h4)
          walk_at "go"
          refine w_sfldAt ho3 hc hf2 (Nat.le_of_ble_eq_true rfl) fun H4 b4 t4 h4' => ?_
          have Z4 := Z3.ready b4 t4 h4'
          have hp4 := t4.tup _ _ h3'
          have ho4 : H4 a = some (.ins CR dx (flds pt pd true)) := h4'
          walk_at "go"
          have e5 : (R.mk (row :: st) rd td).cls = R.item ⟨st, true, td⟩ (.tuple row) := by
            show (if rd = true ∧ row ≠ [] then none else _) = _
            rw [if_neg hno]
          refine ⟨H0, n, ⟨st, true, td⟩, a, .ref p, .tuple row, rfl, ⟨dx, pt, pd, rest, tv, Z4⟩, hn, .tup (SqT.of hp4) (DpAll.txt t4 _ _ h1.fz hv3), h1.fz, fun r' hi => q1 r' (e5.trans hi), fun hi => q2 (e5.trans hi)⟩
        cases rd with
        | false =>
          walk_at "go"
          exact rest_ok (fun h => by cases h.1)
        | true =>
          walk_at "go"
          refine w_ix (.inl (SqL.of ht)) (by rw [List.reverse_cons, List.map_append]; exact atI_last _ _) ?_
          walk_at "go"
          cases row with
          | nil =>
            rw [hl]
            walk_at "go"
            exact rest_ok (fun h => h.2 rfl)
          | cons d row =>
            refine w_iteP (decide_eq_true (by rw [hl]; simp)) ?_
            walk_at "go"
            refine q2 ?_ H Z.same
            show (if (true = true ∧ d :: row ≠ []) then none else R.item ⟨st, true, td⟩ (.tuple (d :: row))) = none
            exact if_pos ⟨rfl, by simp⟩
def spTake (K : PySem.W.Frag) (CM CR : Addr) : Sp := fun vs H Q E => ∃ H0 n r a, ∃ s : Str, vs = [.ref a, .str s] ∧ s.length ≤ 1000000 ∧ Rd K CR H0 H a n r ∧ n ≤ 1000000 ∧
  (∀ r', r.take s.cps.toList = some r' → ∀ H', Rd K CR H0 H' a (n + 1) r' → Q .non H') ∧ (r.take s.cps.toList = none → ∀ H', Same H0 H' → E (.ref CM) none H')
theorem one_eq (s : Str) (c : Nat) (t : Str) (ht : t.cps.toList = [c]) : decide (s = t) = decide (s.cps.toList = [c]) := by
  rw [decide_eq_decide]
  exact ⟨fun h => by rw [h, ht], fun h => str_ext (by rw [h, ht])⟩
theorem atom_fz {p : Tx} {d : PyData} (h : atomT p = some d) : Lay.fz d = true := by
  unfold atomT at h
  repeat' split at h
  all_goals first
    | (cases h; rfl)
    | cases h
theorem atom_dp {p : Tx} {d : PyData} {H : Hp} (h : atomT p = some d) : Dp K H (atV d) d := by
  unfold atomT at h
  repeat' split at h
  all_goals first
    | (cases h; exact .bl _)
    | (cases h; exact .str _)
    | (cases h; exact .int _)
    | cases h
theorem Rd.go {H0 H H' : Hp} {a : Addr} {n : Nat} {r : R} (z : Rd K CR H0 H a n r) (e : Same H H') : Rd K CR H0 H' a n r := by
  obtain ⟨dx, pt, pd, rows, tv, Z⟩ := z
  exact ⟨dx, pt, pd, rows, tv, Z.go e⟩
theorem ok_take {f : Addr} {fd : FuncData} (T : Facts w K mg CM) (RF : RdF K CR) (F : Fun K "take" "DataReader.take" s_DataReader_take f fd) (c_read_atom : FnX P w K mg base 2 "read_atom" (spReadA K CM)) (c_DataReader_item : MeC (L2.CX P w) P w K mg base 1 CR "item" (spItem K CM CR))
    (c_DataReader_open_one : MeC (L2.CX P w) P w K mg base 1 CR "open_one" (spStep K CM CR R.opn)) (c_DataReader_comma : MeC (L2.CX P w) P w K mg base 1 CR "comma" (spStep K CM CR R.com)) (c_DataReader_close_one : MeC (L2.CX P w) P w K mg base 2 CR "close_one" (spStep K CM CR R.cls)) :
    FnOk P w K mg base (L2.CX P w) 3 f fd ["self", "piece"] (spTake K CM CR) := by
  refine F.okX sc_DataReader_take (fun vs H Q E h => ?_) (fun cdv A outer s H vs Q E hr h => ?_)
  · obtain ⟨H0, n, r, a, s, rfl, _⟩ := h
    rfl
  · obtain ⟨H0, n, r, a, z, rfl, hz, Z, hn, q1, q2⟩ := h
    refine ⟨_, (pss_one (ps_if (pt_cmpR (op_eqA (K := K) hr.units) (pv 1) pe_str (nomark _)) (pss_one (ps_expr (pe_me0 c_DataReader_open_one hr (by decide) (passes_call (takes_of rfl rfl rfl rfl) (fun _ _ _ _ h => h)) (pv 0)))) (pss_one (ps_if (pt_cmpR (op_eqA (K := K) hr.units) (pv 1) pe_str (nomark _)) (pss_one (ps_expr (pe_me0 c_DataReader_close_one hr (by decide) (passes_call (takes_of rfl rfl rfl rfl) (fun _ _ _ _ h => h)) (pv 0)))) (pss_one (ps_if (pt_cmpR (op_eqA (K := K) hr.units) (pv 1) pe_str (nomark _)) (pss_one (ps_expr (pe_me0 c_DataReader_comma hr (by decide) (passes_call (takes_of rfl rfl rfl rfl) (fun _ _ _ _ h => h)) (pv 0)))) (pss_one (ps_expr (pe_me c_DataReader_item hr (by decide) (passes_call (takes_of rfl rfl rfl rfl) (fun _ _ _ _ h => h)) (pv 0) (pa_cons (pe_fx c_read_atom hr (by decide) (passes_call (takes_of rfl rfl rfl rfl) (fun _ _ _ _ h => h)) (pa_cons (pv 1) pa_nil)) pa_nil)))))))))), ?_⟩
    try dsimp only [cxOf]
    refine w_start (show _ = [some _, some _] from rfl) ?_
    obtain ⟨dx, pt, pd, rows, tv, ZZ⟩ := id Z
    have ho := ZZ.obj
    unfold R.take at q1 q2
    walk_at "go"
    rw [one_eq z 91 "[" rfl]
    refine w_ite (fun h1 => ?_) (fun h1 => ?_)
    · have h1' := of_decide_eq_true h1
      simp only [h1', if_true] at q1 q2
      walk_at "go"
      exact ⟨H0, n, r, a, rfl, Z, hn, q1, q2⟩
    · have h1' := of_decide_eq_false h1
      simp only [h1', if_false] at q1 q2
      walk_at "go"
      rw [one_eq z 93 "]" rfl]
      refine w_ite (fun h2 => ?_) (fun h2 => ?_)
      · have h2' := of_decide_eq_true h2
        simp only [h2', if_true] at q1 q2
        walk_at "go"
        exact ⟨H0, n, r, a, rfl, Z, hn, q1, q2⟩
      · have h2' := of_decide_eq_false h2
        simp only [h2', if_false] at q1 q2
        walk_at "go"
        rw [one_eq z 44 "," rfl]
        refine w_ite (fun h3 => ?_) (fun h3 => ?_)
        · have h3' := of_decide_eq_true h3
          simp only [h3', if_true] at q1 q2
          walk_at "go"
          exact ⟨H0, n, r, a, rfl, Z, hn, q1, q2⟩
        · have h3' := of_decide_eq_false h3
          simp only [h3', if_false] at q1 q2
          walk_at "go"
          refine ⟨z, rfl, hz, fun d hd H2 e2 => ?_, fun hd H2 e2 => ?_⟩
          · walk_at "go"
            rw [hd] at q1 q2
            exact ⟨H0, n, r, a, atV d, d, rfl, Z.go e2, hn, atom_dp hd, atom_fz hd, q1, q2⟩
          · exact q2 (by rw [hd]; rfl) H2 (ZZ.same.trans e2)
def spInit (K : PySem.W.Frag) (CR : Addr) : Sp := fun vs H Q E => ∃ H0 a dx, vs = [.ref a] ∧ H a = some (.ins CR dx []) ∧ Same H0 H ∧ H0 a = none ∧ ∀ H', Rd K CR H0 H' a 0 R.zero → Q .non H'
theorem ok_init {f : Addr} {fd : FuncData} (T : Facts w K mg CM) (RF : RdF K CR) (F : Fun K "__init__" "DataReader.__init__" s_DataReader___init__ f fd) : FnOk P w K mg base CX0 1 f fd ["self"] (spInit K CR) := by
  refine F.ok sc_DataReader___init__ (fun vs H Q E h => ?_) (fun cdv A outer s H vs Q E hr h => ?_)
  · obtain ⟨H0, a, dx, rfl, _⟩ := h
    rfl
  · obtain ⟨H0, a, dx, rfl, ho, hs, na, q⟩ := h
    refine ⟨_, (pss_cons (ps_fld (pv 0) (pe_lstG pa_nil) rfl)
    (pss_cons (ps_fld (pv 0) pe_bl rfl)
    (pss_one (ps_fld (pv 0) (pe_lstG pa_nil) rfl)))), ?_⟩
    try dsimp only [cxOf]
    refine w_start (show _ = [some _] from rfl) ?_
    have hc := RF.cls
    have hf1 := RF.f1
    have hf2 := RF.f2
    have hf3 := RF.f3
    walk_at "go"
    intro pt H1 n1 e1 h1
    have ho1 := e1 _ _ ho
    walk_at "go"
    refine w_sfldAt ho1 hc hf1 (Nat.le_of_ble_eq_true rfl) fun H2 b2 t2 h2 => ?_
    walk_at "go"
    refine w_sfldAt h2 hc hf2 (Nat.le_of_ble_eq_true rfl) fun H3 b3 t3 h3 => ?_
    walk_at "go"
    intro pd H4 n4 e4 h4
    have ho4 := e4 _ _ h3
    walk_at "go"
    refine w_sfldAt ho4 hc hf3 (Nat.le_of_ble_eq_true rfl) fun H5 b5 t5 h5 => ?_
    have ne2 : pt ≠ a := fun e => by
      rw [e, ho] at n1
      cases n1
    have hp3 := b3 _ _ ne2 (b2 _ _ ne2 h1)
    have ne1 : pt ≠ pd := fun e => by
      rw [← e, hp3] at n4
      cases n4
    have ne3 : pd ≠ a := fun e => by
      rw [e, h3] at n4
      cases n4
    have s1 := hs.trans e1
    have s3 := same_but (same_but s1 b2 na) b3 na
    exact q H5 ⟨dx, pt, pd, [], [], h5, b5 _ _ ne2 (e4 _ _ hp3), .nil, List.nodup_nil, b5 _ _ ne3 h4, .nil, rfl, Nat.le_refl _, ne1, ne2, ne3, na, none_same hs n1, none_same s3 n4, same_but (s3.trans e4) b5 na, Nat.zero_le _⟩
end
end K53

set_option exponentiation.threshold 256
set_option Elab.async false
set_option linter.all false
set_option maxRecDepth 100000
set_option maxHeartbeats 4000000
set_option exponentiation.threshold 10
namespace K53
open PySem PySem.Spec PyProof.Rows L2 Lay DataM PySem.NumText
local macro_rules | `(tactic| walk_at "1") => `(tactic| first
  | with_reducible refine w_seq ?_
  | ((with_reducible refine w_var (v := ?vv) ?hv ?_); (case hv => rfl))
  | with_reducible refine w_c ?_
  | with_reducible refine w_m1 ?_
  | with_reducible refine w_isstr ?_
  | with_reducible refine w_bm0 ?_
  | with_reducible refine w_bm ?_
  | with_reducible refine w_gcons ?_
  | with_reducible refine w_gnil ?_
  | ((with_reducible refine w_ty (xs := ?vv) ?hv ?_); (case hv => walk_at "hx"))
  | ((with_reducible refine w_gtup (xs := ?vv) ?hv ?hl ?_); (case hv => walk_at "hx"); (case hl => rfl))
  | with_reducible refine w_for1 ?_
  | with_reducible refine w_for2 ?_
  | with_reducible refine w_for3 ?_
  | with_reducible refine w_forA ?_
  | with_reducible refine w_forE ?_
  | ((with_reducible refine w_aug (x := ?vv) ?hv ?_); (case hv => rfl))
  | with_reducible refine w_op ?_
  | with_reducible refine w_cb ?_
  | with_reducible refine w_acons ?_
  | with_reducible refine w_anil ?_
  | with_reducible refine w_set ?_
  | with_reducible refine w_if ?_
  | with_reducible refine w_test ?_
  | with_reducible refine w_tB ?_
  | with_reducible refine w_bl ?_
  | with_reducible refine w_and ?_
  | with_reducible refine w_or ?_
  | with_reducible refine w_not ?_
  | with_reducible refine w_iteT ?_
  | with_reducible refine w_iteF ?_
  | with_reducible refine w_ret ?_
  | with_reducible refine w_next ?_
  | with_reducible refine w_drop ?_
  | with_reducible refine w_call ?_
  | with_reducible refine w_ifx ?_
  | with_reducible refine w_andV ?_
  | with_reducible refine w_orV ?_
  | with_reducible refine w_notV ?_
  | with_reducible refine w_sl ?_
  | with_reducible refine w_nopart ?_
  | with_reducible refine w_part ?_
  | with_reducible refine w_exint ?_
  | with_reducible refine w_chain ?_
  | with_reducible refine w_par ?_
  | with_reducible refine w_two ?_
  | with_reducible refine w_par3 ?_
  | with_reducible refine w_three ?_
  | with_reducible refine w_asg ?_
  | with_reducible refine w_gset ?_
  | with_reducible refine w_retN ?_
  | with_reducible refine w_brk ?_
  | with_reducible refine w_cont ?_
  | with_reducible refine w_un ?_
  | with_reducible refine w_neg ?_
  | with_reducible refine w_callS ?_
  | with_reducible refine w_tup0 ?_
  | with_reducible refine w_lst0 ?_
  | with_reducible refine w_fld0 ?_
  | with_reducible refine w_sfld ?_
  | with_reducible refine w_make ?_
  | with_reducible refine w_meth ?_)
local macro_rules | `(tactic| walk_at "2") => `(tactic| first
  | with_reducible refine w_add_int ?_
  | with_reducible refine w_sub ?_
  | ((with_reducible refine w_add_str ?hl ?_); (case hl => walk_at "len"))
  | ((with_reducible refine w_mod ?hl ?_); (case hl => first | decide | omega))
  | ((with_reducible refine w_fdiv ?h1 ?h2 ?_); (case h1 => first | decide | omega); (case h2 => first | decide | omega))
  | ((with_reducible refine w_mulR ?h1 ?h2 ?_); (case h1 => first | decide | omega); (case h2 => first | decide | omega))
  | ((with_reducible refine w_mulL ?h1 ?h2 ?_); (case h1 => first | decide | omega); (case h2 => first | decide | omega))
  | with_reducible refine w_iadd_int ?_
  | ((with_reducible refine w_iadd_str ?hl ?_); (case hl => walk_at "len"))
  | ((with_reducible refine w_mk ?hl ?_); (case hl => walk_at "len"))
  | with_reducible refine w_lt_int ?_
  | with_reducible refine w_lt_str ?_
  | with_reducible refine w_le_int ?_
  | with_reducible refine w_le_str ?_
  | with_reducible refine w_gt ?_
  | with_reducible refine w_ge ?_
  | with_reducible refine w_eq_int ?_
  | with_reducible refine w_eq_str ?_
  | with_reducible refine w_ne_int ?_
  | with_reducible refine w_ne_str ?_
  | ((with_reducible refine w_isInt (d := ?vd) ?hd ?_); (case hd => walk_at "dp"))
  | ((with_reducible refine w_isBool (d := ?vd) ?hd ?_); (case hd => walk_at "dp"))
  | ((with_reducible refine w_isStr (d := ?vd) ?hd ?_); (case hd => walk_at "dp"))
  | ((with_reducible refine w_isTup (d := ?vd) ?hd ?_); (case hd => walk_at "dp"))
  | ((with_reducible refine w_isLst (d := ?vd) ?hd ?_); (case hd => walk_at "dp"))
  | refine w_in_str ?_
  | refine w_nin_str ?_
  | with_reducible refine w_is ?_
  | with_reducible refine w_isnot ?_
  | ((with_reducible refine w_len_str ?hl ?_); (case hl => walk_at "len"))
  | ((with_reducible refine w_len (xs := ?vv) ?hl ?_); (case hl => walk_at "hx"))
  | with_reducible refine w_int_int ?_
  | with_reducible refine w_str_str ?_
  | with_reducible refine w_abs ?_
  | ((with_reducible refine w_sl_str ?hl ?_); (case hl => walk_at "len"))
  | ((with_reducible refine w_fldAt (C := ?vC) (dx := ?vdx) (fs := ?vfs) (v := ?vv) ?h1 ?h2 ?h3 ?h4 ?_); (case h1 => walk_at "hx"); (case h2 => assumption); (case h3 => assumption); (case h4 => rfl))
  | ((with_reducible refine w_methAt (dx := ?vdx) (fs := ?vfs) ?h1 ?h2 ?_); (case h1 => walk_at "hx"); (case h2 => rfl))
  | ((with_reducible refine w_iteP ?h1 ?_); (case h1 => walk_at "yes"))
  | ((with_reducible refine w_iteN ?h1 ?_); (case h1 => walk_at "no")))
local macro_rules | `(tactic| walk_at "yes") => `(tactic| first | assumption | ((with_reducible refine bnotT ?_); walk_at "no") | (refine decide_eq_true ?_; first | assumption | omega) | exact rfl)
local macro_rules | `(tactic| walk_at "no") => `(tactic| first | assumption | ((with_reducible refine bnotF ?_); walk_at "yes") | (refine decide_eq_false ?_; first | assumption | omega) | exact rfl)
local macro_rules | `(tactic| walk_at "len") => `(tactic| first | assumption | exact Nat.le_of_ble_eq_true rfl | omega | decide | (simp only [List.length_append, List.length_cons, List.length_nil, List.length_map]; omega))
local macro_rules | `(tactic| walk_at "ne") => `(tactic| first | assumption | (refine Ne.symm ?_; assumption))
local macro_rules | `(tactic| walk_at "hx") => `(tactic| first
  | assumption
  | exact upd_same
  | ((with_reducible refine sqa_l ?_); walk_at "hx")
  | ((with_reducible refine sqa_t ?_); walk_at "hx")
  | ((with_reducible refine SqL.of ?_); walk_at "hx")
  | ((with_reducible refine SqT.of ?_); walk_at "hx")
  | ((with_reducible refine at_same (by assumption) ?_); walk_at "hx")
  | ((with_reducible refine at_but (by assumption) ?hne ?_); (case hne => walk_at "ne"); walk_at "hx")
  | ((with_reducible refine Txt.tup (by assumption) _ _ ?_); walk_at "hx")
  | ((with_reducible refine Same.seq (by assumption) ?_); walk_at "hx")
  | ((with_reducible refine Same.seqT (by assumption) ?_); walk_at "hx")
  | ((with_reducible refine Dp.same (by assumption) _ _ ?_); walk_at "hx")
  | ((with_reducible refine DpAll.same (by assumption) _ _ ?_); walk_at "hx"))
local macro_rules | `(tactic| walk_at "go") => `(tactic| repeat (first | walk_at "1" | walk_at "2"))
local macro_rules | `(tactic| walk_at "dp") => `(tactic| first | exact .int _ | exact .str _ | exact .bl _ | exact .non | walk_at "hx")

section
variable {P : Program} {w : World} {K : PySem.W.Frag} {mg : Str → Option Value} {base : Heap} {CM CR : Addr}
theorem pcs_len : ∀ (l tok : Tx), (pcs tok l).length ≤ 2 * l.length + 1
  | [], tok => by
    rw [pcs_nil]
    split <;> simp
  | c :: l, tok => by
    rw [pcs_cons]
    have h1 := pcs_len l []
    have h2 := pcs_len l (tok ++ [c])
    split
    · split
      · simp only [List.length_append, List.length_cons, List.length_nil]
        omega
      · simp only [List.length_append, List.length_cons, List.length_nil]
        omega
    · simp only [List.length_cons]
      omega
theorem mem_flat_len {ps : List Tx} {p : Tx} (h : p ∈ ps) : p.length ≤ ps.flatten.length := by
  induction ps with
  | nil => cases h
  | cons q ps ih =>
    rw [List.flatten_cons, List.length_append]
    rcases List.mem_cons.mp h with rfl | h
    · omega
    · have := ih h
      omega
theorem RdAt.virt {H0 H H2 : Hp} {a : Addr} {n : Nat} {r : R} {dx pt pd D : Addr} {rows : List Addr} {tv : List V} {o : HO} (z : RdAt K CR H0 H a n r dx pt pd rows tv) (hD : H D = none) (e : Same H H2) (h : H2 D = some o) :
    RdAt K CR (upd H0 D o) H2 a n r dx pt pd rows tv := by
  have ne : ∀ b x, H b = some x → b ≠ D := fun b x hb => ne_of_none hb hD
  have z2 := z.go e
  have fr : ∀ b x, H b = some x → H0 b = none → upd H0 D o b = none := fun b x hb h0 => by
    rw [upd_ne (ne b x hb)]
    exact h0
  refine ⟨z2.obj, z2.tup, ?_, z2.nod, z2.told, z2.tdp, z2.tfz, z2.tlen, z2.ne1, z2.ne2, z2.ne3, fr _ _ z.obj z.na, fr _ _ z.tup z.nt, fr _ _ z.told z.nd, fun b x hb => ?_, z2.len⟩
  · have key : ∀ {rows : List Addr} {st : List (List PyData)}, Paired (RowAt K H0 H a pt pd n) rows st → Paired (RowAt K (upd H0 D o) H2 a pt pd n) rows st := by
      intro rows st hp
      exact Paired.mapP hp fun q ds k => by
        obtain ⟨vs, k1, k2⟩ := k.at_
        exact ⟨k.na, k.nt, k.nd, fr q _ k1 k.fr, k.len, k.fz, vs, e _ _ k1, DpAll.same e _ _ k2⟩
    exact key z.row
  · by_cases hb2 : b = D
    · subst hb2
      rw [upd_same] at hb
      rw [h]
      exact hb
    · rw [upd_ne hb2] at hb
      exact e _ _ (z.same b x hb)
theorem Rd.virt {H0 H H2 : Hp} {a : Addr} {n : Nat} {r : R} {D : Addr} {o : HO} (z : Rd K CR H0 H a n r) (hD : H D = none) (e : Same H H2) (h : H2 D = some o) : Rd K CR (upd H0 D o) H2 a n r := by
  obtain ⟨dx, pt, pd, rows, tv, Z⟩ := z
  exact ⟨dx, pt, pd, rows, tv, Z.virt hD e h⟩
theorem same_virt {H0 H : Hp} {D : Addr} {o : HO} (n : H0 D = none) (e : Same (upd H0 D o) H) : Same H0 H := fun b x hb => e b x (by rw [upd_ne (ne_of_none hb n)]; exact hb)
theorem Rd.same {H0 H : Hp} {a : Addr} {n : Nat} {r : R} (z : Rd K CR H0 H a n r) : Same H0 H := by
  obtain ⟨dx, pt, pd, rows, tv, Z⟩ := z
  exact Z.same
def readD : PyData → Option PyData
  | .str s => readT s.cps.toList
  | _ => none
def shortR : PyData → Prop
  | .str s => s.length ≤ 400000
  | _ => True
def spRead (K : PySem.W.Frag) (CM : Addr) : Sp := fun vs H Q E => ∃ v d, vs = [v] ∧ Dp K H v d ∧ shortR d ∧ (∀ d', readD d = some d' → ∀ v' H', Same H H' → Dp K H' v' d' → Lay.fz d' = true → Q v' H') ∧
  (readD d = none → ∀ H', Same H H' → E (.ref CM) none H')
theorem ok_read_data {f : Addr} {fd : FuncData} (T : Facts w K mg CM) (RF : RdF K CR) (F : Fun K "read_data" "read_data" s_read_data f fd) (c_pieces_of : Fn0 P w K mg base 1 "pieces_of" (spPieces K))
    (c_DataReader___init__ : MkC P w K mg base 1 "DataReader" CR (spInit K CR)) (c_DataReader_take : MeC (L2.CX P w) P w K mg base 3 CR "take" (spTake K CM CR)) : FnOk P w K mg base (L2.CX P w) 4 f fd ["text"] (spRead K CM) := by
  refine F.okX sc_read_data (fun vs H Q E h => ?_) (fun cdv A outer s H vs Q E hr h => ?_)
  · obtain ⟨v, d, rfl, _⟩ := h
    rfl
  · obtain ⟨v, d, rfl, hd, hz, q1, q2⟩ := h
    refine ⟨_, (pss_cons (ps_if (pt_not (pt_val (pe_callB (call_isiA (K := K)) (by rfl) T.b_isinstance (by decide +kernel) (pa_cons (pv 0) (pa_cons (pe_bltn (v := .ty "str") (by rfl) T.b_str (by decide +kernel) rfl) pa_nil))))) (pss_one (ps_raise rfl (takes_of rfl rfl rfl rfl) (pmk_own PySem.F.excBase_ValueError T.x_Malformed T.g_Malformed T.k_Malformed (raises_own T.s_Malformed T.t_Malformed) (by rfl)))) pss_nil)
    (pss_cons (ps_set (i := 1) sc_read_data.nd rfl (by first | exact Or.inl rfl | exact Or.inr rfl) (pe_newG0 c_DataReader___init__ hr (by decide)))
    (pss_cons (ps_for (passes_of rfl) rfl (pi_A (K := K) (pe_f0 c_pieces_of hr (by decide) (pa_cons (pv 0) pa_nil))) (pg_name (i := 2) sc_read_data.nd rfl (by first | exact Or.inl rfl | exact Or.inr rfl)) (pss_one (ps_expr (pe_me c_DataReader_take hr (by decide) (passes_call (takes_of rfl rfl rfl rfl) (fun _ _ _ _ h => h)) (pv 1) (pa_cons (pv 2) pa_nil)))))
    (pss_cons (ps_if (PW.pt (pw_or (pt_cmpR op_gtA (pe_callB (call_lenA (K := K)) (by rfl) T.b_len (by decide +kernel) (pa_cons (fld_A (K := K) (pv 1) rfl) pa_nil)) pe_int (nomark _)) (pw_or1 (pt_cmpR (op_neA (K := K) hr.units) (pe_callB (call_lenA (K := K)) (by rfl) T.b_len (by decide +kernel) (pa_cons (fld_A (K := K) (pv 1) rfl) pa_nil)) pe_int (nomark _))))) (pss_one (ps_raise rfl (takes_of rfl rfl rfl rfl) (pmk_own PySem.F.excBase_ValueError T.x_Malformed T.g_Malformed T.k_Malformed (raises_own T.s_Malformed T.t_Malformed) (by rfl)))) pss_nil)
    (pss_one (ps_ret (pe_ix (ix_A (K := K)) (fld_A (K := K) (pv 1) rfl) pe_int (fun _ _ => rfl)))))))), ?_⟩
    try dsimp only [cxOf]
    refine w_start (show _ = [some _, none, none] from rfl) ?_
    have hc := RF.cls
    have hf1 := RF.f1
    have hf2 := RF.f2
    have hf3 := RF.f3
    walk_at "go"
    have no : isStrD d = false → readD d = none := by
      intro h
      cases d <;> first | rfl | cases h
    cases hi : isStrD d with
    | false =>
      walk_at "go"
      exact q2 (no hi) H (Same.refl H)
    | true =>
      cases d with
      | str s =>
        cases hd
        have hz' : s.length ≤ 400000 := hz
        walk_at "go"
        intro a dx H1 n1 h1 e1
        refine ⟨H, a, dx, rfl, h1, e1, n1, fun H2 Z2 => ⟨rfl, ?_⟩⟩
        walk_at "go"
        refine ⟨s, rfl, hz', fun D H3 nD e3 hD => ?_⟩
        have Z3 := Z2.virt nD e3 hD
        have nD0 : H D = none := none_same Z2.same nD
        have hlp := pcs_len s.cps.toList []
        rw [len_l] at hlp
        refine lp_list (SqL.of hD) (fun i σ' H' => i ≤ (pcs [] s.cps.toList).length ∧ (∃ o, σ' = [some (.str s), some (.ref a), o]) ∧ ∃ r, ((pcs [] s.cps.toList).take i).foldlM R.take R.zero = some r ∧ Rd K CR (upd H D (.lst (txs (pcs [] s.cps.toList)))) H' a i r)
          ⟨Nat.zero_le _, ⟨_, rfl⟩, R.zero, rfl, Z3⟩ (fun i σ' H' hi p => ?_) (fun i y σ' H' hy p => ?_) (fun σ' H' p => ?_)
        · obtain ⟨_, _, r, _, Z⟩ := p
          exact SqL.of (Z.same D _ upd_same)
        · obtain ⟨hil, ⟨o, rfl⟩, r, hfold, Z⟩ := p
          obtain ⟨p, hp, rfl⟩ : ∃ p, (pcs [] s.cps.toList)[i]? = some p ∧ y = V.str ⟨p.toArray⟩ := by
            unfold txs at hy
            rw [List.getElem?_map] at hy
            cases hp : (pcs [] s.cps.toList)[i]? with
            | none =>
              rw [hp] at hy
              cases hy
            | some p =>
              rw [hp] at hy
              exact ⟨p, rfl, (Option.some.inj hy).symm⟩
          have hlt : i < (pcs [] s.cps.toList).length := (List.getElem?_eq_some_iff.mp hp).1
          have hpl : p.length ≤ s.length := by
            have := mem_flat_len (List.mem_of_getElem? hp)
            rw [pcs_flat, List.nil_append, len_l] at this
            exact this
          have hstep : ((pcs [] s.cps.toList).take (i + 1)).foldlM R.take R.zero = r.take p := by
            rw [List.take_add_one, hp, List.foldlM_append, hfold]
            show (some r).bind (fun s' => List.foldlM R.take s' [p]) = _
            show List.foldlM R.take r [p] = _
            simp
          obtain ⟨dx2, pt, pd, rows, tv, ZZ⟩ := id Z
          have ho := ZZ.obj
          walk_at "go"
          refine ⟨_, i, r, a, ⟨p.toArray⟩, rfl, ?_, Z, by omega, fun r' hr' H4 Z4 => ?_, fun hr' H4 e4 => ?_⟩
          · show p.toArray.size ≤ _
            rw [List.size_toArray]
            omega
          · exact ⟨hlt, ⟨_, rfl⟩, r', hstep.trans hr', Z4⟩
          · refine q2 ?_ H4 (same_virt nD0 e4)
            show readT s.cps.toList = none
            unfold readT
            have hall : (pcs [] s.cps.toList).foldlM R.take R.zero = none := by
              rw [← List.take_append_drop (i + 1) (pcs [] s.cps.toList), List.foldlM_append, hstep, hr']
              rfl
            rw [hall]
            rfl
        · obtain ⟨_, ⟨o, rfl⟩, r, hfold, Z⟩ := p
          rw [txs_len, List.take_length] at hfold
          have hfin : readD (.str s) = r.fin := by
            show readT s.cps.toList = _
            unfold readT
            rw [hfold]
            rfl
          obtain ⟨dx2, pt, pd, rows, tv, ZZ⟩ := id Z
          obtain ⟨st, rd, td⟩ := r
          have ho : H' a = some (.ins CR dx2 (flds pt pd rd)) := ZZ.obj
          have ht := ZZ.tup
          have hto := ZZ.told
          have eH := same_virt nD0 ZZ.same
          have hlen : rows.length = st.length := ZZ.row.length
          have htl := DpAll.length ZZ.tdp
          walk_at "go"
          rw [List.length_map, List.length_reverse, hlen]
          cases st with
          | cons row st =>
            refine w_iteP (decide_eq_true (by simp)) ?_
            walk_at "go"
            exact q2 (hfin.trans rfl) H' eH
          | nil =>
            walk_at "go"
            rw [htl]
            have h1 := ZZ.tdp
            have h2 := ZZ.tfz
            cases td with
            | nil =>
              walk_at "go"
              exact q2 (hfin.trans rfl) H' eH
            | cons d1 td =>
              cases td with
              | cons d2 td =>
                refine w_iteP (bnotT (decide_eq_false (by simp; omega))) ?_
                walk_at "go"
                exact q2 (hfin.trans rfl) H' eH
              | nil =>
                cases h1 with
                | @cons v1 _ vs1 _ h3 h4 =>
                  cases h4
                  walk_at "go"
                  refine w_ix (.inl (SqL.of hto)) (atI_nat (j := 0) rfl) ?_
                  refine q1 d1 (hfin.trans rfl) v1 H' eH h3 ?_
                  simpa [fzAll] using h2
      | _ => cases hi
end
end K53

set_option exponentiation.threshold 256
set_option Elab.async false
set_option linter.all false
set_option maxRecDepth 100000
set_option maxHeartbeats 4000000
set_option exponentiation.threshold 10
namespace K53
open PySem PySem.Spec PyProof.Rows L2 Lay DataM PySem.NumText
local macro_rules | `(tactic| walk_at "1") => `(tactic| first
  | with_reducible refine w_seq ?_
  | ((with_reducible refine w_var (v := ?vv) ?hv ?_); (case hv => rfl))
  | with_reducible refine w_c ?_
  | with_reducible refine w_m1 ?_
  | with_reducible refine w_isstr ?_
  | with_reducible refine w_bm0 ?_
  | with_reducible refine w_bm ?_
  | with_reducible refine w_gcons ?_
  | with_reducible refine w_gnil ?_
  | ((with_reducible refine w_ty (xs := ?vv) ?hv ?_); (case hv => walk_at "hx"))
  | ((with_reducible refine w_gtup (xs := ?vv) ?hv ?hl ?_); (case hv => walk_at "hx"); (case hl => rfl))
  | with_reducible refine w_for1 ?_
  | with_reducible refine w_for2 ?_
  | with_reducible refine w_for3 ?_
  | with_reducible refine w_forA ?_
  | with_reducible refine w_forE ?_
  | ((with_reducible refine w_aug (x := ?vv) ?hv ?_); (case hv => rfl))
  | with_reducible refine w_op ?_
  | with_reducible refine w_cb ?_
  | with_reducible refine w_acons ?_
  | with_reducible refine w_anil ?_
  | with_reducible refine w_set ?_
  | with_reducible refine w_if ?_
  | with_reducible refine w_test ?_
  | with_reducible refine w_tB ?_
  | with_reducible refine w_bl ?_
  | with_reducible refine w_and ?_
  | with_reducible refine w_or ?_
  | with_reducible refine w_not ?_
  | with_reducible refine w_iteT ?_
  | with_reducible refine w_iteF ?_
  | with_reducible refine w_ret ?_
  | with_reducible refine w_next ?_
  | with_reducible refine w_drop ?_
  | with_reducible refine w_call ?_
  | with_reducible refine w_ifx ?_
  | with_reducible refine w_andV ?_
  | with_reducible refine w_orV ?_
  | with_reducible refine w_notV ?_
  | with_reducible refine w_sl ?_
  | with_reducible refine w_nopart ?_
  | with_reducible refine w_part ?_
  | with_reducible refine w_exint ?_
  | with_reducible refine w_chain ?_
  | with_reducible refine w_par ?_
  | with_reducible refine w_two ?_
  | with_reducible refine w_par3 ?_
  | with_reducible refine w_three ?_
  | with_reducible refine w_asg ?_
  | with_reducible refine w_gset ?_
  | with_reducible refine w_retN ?_
  | with_reducible refine w_brk ?_
  | with_reducible refine w_cont ?_
  | with_reducible refine w_un ?_
  | with_reducible refine w_neg ?_
  | with_reducible refine w_callS ?_
  | with_reducible refine w_tup0 ?_
  | with_reducible refine w_lst0 ?_
  | with_reducible refine w_fld0 ?_
  | with_reducible refine w_sfld ?_
  | with_reducible refine w_gsub ?_
  | with_reducible refine w_iAny ?_
  | with_reducible refine w_iR1 ?_
  | with_reducible refine w_make ?_
  | with_reducible refine w_meth ?_)
local macro_rules | `(tactic| walk_at "2") => `(tactic| first
  | with_reducible refine w_add_int ?_
  | with_reducible refine w_sub ?_
  | ((with_reducible refine w_add_str ?hl ?_); (case hl => walk_at "len"))
  | ((with_reducible refine w_mod ?hl ?_); (case hl => first | decide | omega))
  | ((with_reducible refine w_fdiv ?h1 ?h2 ?_); (case h1 => first | decide | omega); (case h2 => first | decide | omega))
  | ((with_reducible refine w_mulR ?h1 ?h2 ?_); (case h1 => first | decide | omega); (case h2 => first | decide | omega))
  | ((with_reducible refine w_mulL ?h1 ?h2 ?_); (case h1 => first | decide | omega); (case h2 => first | decide | omega))
  | with_reducible refine w_iadd_int ?_
  | ((with_reducible refine w_iadd_str ?hl ?_); (case hl => walk_at "len"))
  | ((with_reducible refine w_mk ?hl ?_); (case hl => walk_at "len"))
  | with_reducible refine w_lt_int ?_
  | with_reducible refine w_lt_str ?_
  | with_reducible refine w_le_int ?_
  | with_reducible refine w_le_str ?_
  | with_reducible refine w_gt ?_
  | with_reducible refine w_ge ?_
  | with_reducible refine w_eq_int ?_
  | with_reducible refine w_eq_str ?_
  | with_reducible refine w_ne_int ?_
  | with_reducible refine w_ne_str ?_
  | ((with_reducible refine w_isInt (d := ?vd) ?hd ?_); (case hd => walk_at "dp"))
  | ((with_reducible refine w_isBool (d := ?vd) ?hd ?_); (case hd => walk_at "dp"))
  | ((with_reducible refine w_isStr (d := ?vd) ?hd ?_); (case hd => walk_at "dp"))
  | ((with_reducible refine w_isTup (d := ?vd) ?hd ?_); (case hd => walk_at "dp"))
  | ((with_reducible refine w_isLst (d := ?vd) ?hd ?_); (case hd => walk_at "dp"))
  | refine w_in_str ?_
  | refine w_nin_str ?_
  | ((with_reducible refine w_ixL (xs := ?vv) (y := ?vr) ?h ?ha ?_); (case h => walk_at "hx"); (case ha => rfl))
  | with_reducible refine w_is ?_
  | with_reducible refine w_isnot ?_
  | ((with_reducible refine w_len_str ?hl ?_); (case hl => walk_at "len"))
  | ((with_reducible refine w_len (xs := ?vv) ?hl ?_); (case hl => walk_at "hx"))
  | with_reducible refine w_int_int ?_
  | with_reducible refine w_str_str ?_
  | with_reducible refine w_abs ?_
  | ((with_reducible refine w_sl_str ?hl ?_); (case hl => walk_at "len"))
  | ((with_reducible refine w_fldAt (C := ?vC) (dx := ?vdx) (fs := ?vfs) (v := ?vv) ?h1 ?h2 ?h3 ?h4 ?_); (case h1 => walk_at "hx"); (case h2 => assumption); (case h3 => assumption); (case h4 => rfl))
  | ((with_reducible refine w_methAt (dx := ?vdx) (fs := ?vfs) ?h1 ?h2 ?_); (case h1 => walk_at "hx"); (case h2 => rfl))
  | ((with_reducible refine w_iteP ?h1 ?_); (case h1 => walk_at "yes"))
  | ((with_reducible refine w_iteN ?h1 ?_); (case h1 => walk_at "no")))
local macro_rules | `(tactic| walk_at "yes") => `(tactic| first | assumption | ((with_reducible refine bnotT ?_); walk_at "no") | (refine decide_eq_true ?_; first | assumption | omega) | exact rfl)
local macro_rules | `(tactic| walk_at "no") => `(tactic| first | assumption | ((with_reducible refine bnotF ?_); walk_at "yes") | (refine decide_eq_false ?_; first | assumption | omega) | exact rfl)
local macro_rules | `(tactic| walk_at "len") => `(tactic| first | assumption | exact Nat.le_of_ble_eq_true rfl | omega | decide | (simp only [List.length_append, List.length_cons, List.length_nil, List.length_map]; omega))
local macro_rules | `(tactic| walk_at "ne") => `(tactic| first | assumption | (refine Ne.symm ?_; assumption))
local macro_rules | `(tactic| walk_at "hx") => `(tactic| first
  | assumption
  | exact upd_same
  | ((with_reducible refine sqa_l ?_); walk_at "hx")
  | ((with_reducible refine sqa_t ?_); walk_at "hx")
  | ((with_reducible refine SqL.of ?_); walk_at "hx")
  | ((with_reducible refine SqT.of ?_); walk_at "hx")
  | ((with_reducible refine at_same (by assumption) ?_); walk_at "hx")
  | ((with_reducible refine at_but (by assumption) ?hne ?_); (case hne => walk_at "ne"); walk_at "hx")
  | ((with_reducible refine Txt.tup (by assumption) _ _ ?_); walk_at "hx")
  | ((with_reducible refine Same.seq (by assumption) ?_); walk_at "hx")
  | ((with_reducible refine Same.seqT (by assumption) ?_); walk_at "hx")
  | ((with_reducible refine Dp.same (by assumption) _ _ ?_); walk_at "hx")
  | ((with_reducible refine DpAll.same (by assumption) _ _ ?_); walk_at "hx"))
local macro_rules | `(tactic| walk_at "go") => `(tactic| repeat (first | walk_at "1" | walk_at "2"))
local macro_rules | `(tactic| walk_at "dp") => `(tactic| first | exact .int _ | exact .str _ | exact .bl _ | exact .non | walk_at "hx")

section
variable {P : Program} {w : World} {K : PySem.W.Frag} {mg : Str → Option Value} {base : Heap} {CM CR : Addr}
theorem ok_law_draw {f : Addr} {fd : FuncData} (T : Facts w K mg CM) (F : Fun K "_law_draw" "_law_draw" s__law_draw f fd) : FnOk P w K mg base CX0 1 f fd ["script"] (spDraw K) := by
  refine F.ok sc__law_draw (fun vs H Q E h => ?_) (fun cdv A outer s H vs Q E hr h => ?_)
  · obtain ⟨a, ns, rfl, _⟩ := h
    rfl
  · obtain ⟨a, ns, rfl, hs, hn, q⟩ := h
    refine ⟨_, (pss_cons (ps_set (i := 1) sc__law_draw.nd rfl (by first | exact Or.inl rfl | exact Or.inr rfl) pe_int)
    (pss_cons (ps_for PassesOwn.never rfl (pi_A (K := K) (pe_slice (sl_A (K := K)) (pv 0) po_none (po_some pe_int))) (pg_name (i := 2) sc__law_draw.nd rfl (by first | exact Or.inl rfl | exact Or.inr rfl)) (pss_one (ps_set (i := 1) sc__law_draw.nd rfl (by first | exact Or.inl rfl | exact Or.inr rfl) (pe_op op_addA (pe_op op_modA (pe_callTy call_intA (by rfl) T.b_int (by decide +kernel) (pa_cons (pe_op op_addA (pe_op op_mulA (pv 1) pe_int) (pv 2)) pa_nil)) pe_int) pe_int))))
    (pss_one (ps_ret (pe_lstG (pa_cons (pe_lc (own := [("cell", 2)]) (g := gName 2) (tt := tYes) rfl sc__law_draw.nd (pi_A (K := K) (pe_slice (sl_A (K := K)) (pv 0) po_none (po_some pe_int))) (blkOk_by (N := N__law_draw) (sc := defScope s__law_draw) (by decide +kernel)) (fun _ _ _ _ _ => pg_name (i := 2) sc__law_draw.nd rfl (Or.inl rfl)) (fun _ _ _ _ _ => pts_nil) (fun _ _ _ _ _ => (pe_callB call_absA (by rfl) T.b_abs (by decide +kernel) (pa_cons (pe_callTy call_intA (by rfl) T.b_int (by decide +kernel) (pa_cons (pv 2) pa_nil)) pa_nil)))) (pa_cons pe_int (pa_cons pe_int (pa_cons pe_int (pa_cons (pv 1) (pa_cons pe_int pa_nil))))))))))), ?_⟩
    try dsimp only [cxOf]
    refine w_start (show _ = [some _, none, none] from rfl) ?_
    walk_at "go"
    have hcut : cutV (ns.map V.int) none (some 63) = (ns.take 63).map V.int := by
      rw [show (63 : Int) = ((63 : Nat) : Int) from rfl, cutV_hi, List.map_take]
    refine w_sl_lst hs fun p1 H1 n1 e1 h1 => ?_
    rw [hcut] at h1
    refine lp_list (SqL.of h1) (fun i σ' H' => H1 = H' ∧ ∃ x o, σ' = [some (.ref a), some (.int x), o]) ⟨rfl, 7, none, rfl⟩ (fun i σ' H' hi p => ?_) (fun i y σ' H' hy p => ?_) (fun σ' H' p => ?_)
    · obtain ⟨rfl, _⟩ := p
      exact SqL.of h1
    · obtain ⟨rfl, x, o, rfl⟩ := p
      rw [List.getElem?_map] at hy
      obtain ⟨c, hc, rfl⟩ := Option.map_eq_some_iff.mp hy
      walk_at "go"
      exact ⟨rfl, _, _, rfl⟩
    · obtain ⟨rfl, x, o, rfl⟩ := p
      walk_at "go"
      refine w_lcI ?_
      walk_at "go"
      refine w_sl_lst (Same.seq e1 hs) fun p2 H2 n2 e2 h2 => ?_
      rw [hcut] at h2
      refine lcL (fun v => rfl) (SqL.of h2) (LcS.map (ys := (ns.take 63).map V.int) (fun v => match v with | .int i => .int (if i < 0 then -i else i) | v => v) rfl (by rw [List.length_map, List.length_take]; omega) (fun i y h => h) (fun H' e => SqL.of (e _ _ h2)) (fun y H3 hy e3 R hR => ?_) (fun D H3 n3 e3 h3 => ?_))
      · obtain ⟨c, hc, rfl⟩ := List.mem_map.mp hy
        show tCB _ _ [some (V.ref a), some (V.int x), some (V.int c)] H3 R
        walk_at "go"
        exact hR H3 (Same.refl H3)
      · walk_at "go"
        intro pd H4 n4 e4 h4
        refine q pd D H4 (none_same ((e1.trans e2).trans e3) n4) (none_same (e1.trans e2) n3) (((e1.trans e2).trans e3).trans e4) ⟨0, (ns.take 63).map (fun i => if i < 0 then -i else i), 0, 0, 0, x, Nat.le_refl _, h4, ?_, fun e => ?_, Nat.zero_le _⟩
        · rw [e4 _ _ h3, List.map_map, List.map_map]
          rfl
        · rw [e] at h3
          rw [h3] at n4
          cases n4
theorem ok_law_take {f : Addr} {fd : FuncData} (T : Facts w K mg CM) (F : Fun K "_law_take" "_law_take" s__law_take f fd) : FnOk P w K mg base CX0 1 f fd ["draw", "many"] (spTakeN K) := by
  refine F.ok sc__law_take (fun vs H Q E h => ?_) (fun cdv A outer s H vs Q E hr h => ?_)
  · obtain ⟨pd, pc, c, many, rfl, _⟩ := h
    rfl
  · obtain ⟨pd, pc, cB, many, rfl, hm1, hm2, D, hc, q⟩ := h
    refine ⟨_, (pss_mid (ps_if (PW.pt (pw_and (pt_cmpR (op_eqA (K := K) hr.units) (pe_ix (ix_A (K := K)) (pv 0) pe_int (fun _ _ => rfl)) pe_int (nomark _)) (pw_and1 (pt_cmpR op_ltA (pe_ix (ix_A (K := K)) (pv 0) pe_int (fun _ _ => rfl)) (pe_callB (call_lenA (K := K)) (by rfl) T.b_len (by decide +kernel) (pa_cons (pe_ix (ix_A (K := K)) (pv 0) pe_int (fun _ _ => rfl)) pa_nil)) (nomark _))))) (pss_one (ps_asg (pe_tupG (pa_cons (pe_ix (ix_A (K := K)) (pe_ix (ix_A (K := K)) (pv 0) pe_int (fun _ _ => rfl)) (pe_ix (ix_A (K := K)) (pv 0) pe_int (fun _ _ => rfl)) (fun _ _ => rfl)) (pa_cons pe_int (pa_cons (pe_op op_addA (pe_ix (ix_A (K := K)) (pv 0) pe_int (fun _ _ => rfl)) pe_int) pa_nil)))) (tup_A (K := K) (n := 3) rfl (pgs_cons (pg_sub (pv 0) pe_int set_list) (pgs_cons (pg_sub (pv 0) pe_int set_list) (pgs_cons (pg_sub (pv 0) pe_int set_list) pgs_nil)))))) pss_nil)
    (pss_cons (ps_if (pt_cmpR op_gtA (pe_ix (ix_A (K := K)) (pv 0) pe_int (fun _ _ => rfl)) pe_int (nomark _)) (pss_cons (ps_set (i := 2) sc__law_take.nd rfl (by first | exact Or.inl rfl | exact Or.inr rfl) (pe_op op_modA (pe_callTy call_intA (by rfl) T.b_int (by decide +kernel) (pa_cons (pe_ix (ix_A (K := K)) (pv 0) pe_int (fun _ _ => rfl)) pa_nil)) (pv 1)))
    (pss_cons (ps_asg (pe_op op_fdivA (pe_ix (ix_A (K := K)) (pv 0) pe_int (fun _ _ => rfl)) (pv 1)) (pg_sub (pv 0) pe_int set_list))
    (pss_cons (ps_asg (pe_ifExp (pt_cmpR op_gtA (pe_ix (ix_A (K := K)) (pv 0) pe_int (fun _ _ => rfl)) pe_int (nomark _)) (pe_op op_subA (pe_ix (ix_A (K := K)) (pv 0) pe_int (fun _ _ => rfl)) pe_int) pe_int) (pg_sub (pv 0) pe_int set_list))
    (pss_one (ps_ret (pv 2)))))) pss_nil)
    (pss_cons (ps_asg (pe_op op_addA (pe_ix (ix_A (K := K)) (pv 0) pe_int (fun _ _ => rfl)) pe_int) (pg_sub (pv 0) pe_int set_list))
    (pss_cons (ps_asg (pe_op op_modA (pe_callTy call_intA (by rfl) T.b_int (by decide +kernel) (pa_cons (pe_op op_addA (pe_op op_addA (pe_op op_mulA (pe_ix (ix_A (K := K)) (pv 0) pe_int (fun _ _ => rfl)) pe_int) (pe_op op_mulA (pe_op op_mulA (pe_ix (ix_A (K := K)) (pv 0) pe_int (fun _ _ => rfl)) (pe_ix (ix_A (K := K)) (pv 0) pe_int (fun _ _ => rfl))) pe_int)) pe_int) pa_nil)) pe_int) (pg_sub (pv 0) pe_int set_list))
    (pss_one (ps_ret (pe_op op_modA (pe_callTy call_intA (by rfl) T.b_int (by decide +kernel) (pa_cons (pe_op op_fdivA (pe_ix (ix_A (K := K)) (pv 0) pe_int (fun _ _ => rfl)) pe_int) pa_nil)) (pv 1)))))))), ?_⟩
    try dsimp only [cxOf]
    refine w_start (show _ = [some _, some _, none] from rfl) ?_
    obtain ⟨c, cells, i, x, k, s, hcB, D⟩ := D
    have ho := D.obj
    have hce := D.cel
    have hne := D.ne
    refine w_mid (fun σ' H' => σ' = [some (.ref pd), some (.int many), none] ∧ But pd H H' ∧ Txt H H' ∧ ∃ cells i x k s, DrAt H' pd c pc cells i x k s) ?_ ?_
    · walk_at "go"
      have done : But pd H H ∧ Txt H H ∧ ∃ cells i x k s, DrAt H pd c pc cells i x k s := ⟨But.refl H, Txt.refl H, cells, i, x, k, s, D⟩
      refine w_ite (fun h1 => ?_) (fun h1 => ?_)
      · walk_at "go"
        rw [List.length_map]
        refine w_ite (fun h2 => ?_) (fun h2 => ?_)
        · have h2' : i < cells.length := by
            have := of_decide_eq_true h2
            omega
          walk_at "go"
          refine w_ix (v := .int cells[i]) (.inl (SqL.of hce)) (atI_nat (by rw [List.getElem?_map, List.getElem?_eq_getElem h2']; rfl)) ?_
          walk_at "go"
          intro pt H2 n2 e2 h3
          walk_at "go"
          have ho2 := e2 _ _ ho
          refine w_setl (i := 2) ho2 rfl (Nat.le_of_ble_eq_true rfl) fun H3 b3 t3 h3 => ?_
          walk_at "go"
          refine w_setl (i := 3) h3 rfl (Nat.le_of_ble_eq_true rfl) fun H4 b4 t4 h4 => ?_
          walk_at "go"
          refine w_setl (i := 1) h4 rfl (Nat.le_of_ble_eq_true rfl) fun H5 b5 t5 h5 => ?_
          walk_at "go"
          exact ⟨rfl, (((But.same e2).trans b3).trans b4).trans b5, (((Txt.same e2).trans t3).trans t4).trans t5, cells, i + 1, cells[i], 60, s, h5, b5 _ _ hne (b4 _ _ hne (b3 _ _ hne (e2 _ _ hce))), hne, h2'⟩
        · walk_at "go"
          exact ⟨rfl, done⟩
      · walk_at "go"
        exact ⟨rfl, done⟩
    · rintro σ' H1 ⟨rfl, b1, t1, cells, i, x, k, s, D1⟩
      clear D ho hce hne
      have ho := D1.obj
      have hce := D1.cel
      have hne := D1.ne
      have fin : ∀ (y : Int) H2, 0 ≤ y → y < many → But pd H1 H2 → Txt H1 H2 → Dr H2 pd pc (cB + 1) → Q (.int y) H2 := fun y H2 h0 h1 b2 t2 d2 => by
        have e : y = (y.toNat : Int) := by omega
        rw [e]
        exact q y.toNat H2 (by omega) (b1.trans b2) (t1.trans t2) d2
      walk_at "go"
      refine w_ite (fun h1 => ?_) (fun h1 => ?_)
      · have h1' : 0 < k := by
          have := of_decide_eq_true h1
          omega
        have e1 := Int.emod_nonneg x (show many ≠ 0 by omega)
        have e2 := Int.emod_lt_of_pos x hm1
        walk_at "go"
        refine w_setl (i := 2) ho rfl (Nat.le_of_ble_eq_true rfl) fun H2 b2 t2 h2 => ?_
        replace h2 : H2 pd = some (.lst [.ref pc, .int (i : Nat), .int (x / many), .int (k : Nat), .int s, .int (c : Nat)]) := h2
        have hc2 := b2 _ _ hne hce
        have fin2 : ∀ (k' : Nat) H3, But pd H2 H3 → Txt H2 H3 → H3 pd = some (.lst [.ref pc, .int (i : Nat), .int (x / many), .int (k' : Nat), .int s, .int (c : Nat)]) → Q (.int (x % many)) H3 := fun k' H3 b3 t3 h3 => by
          exact fin _ H3 e1 e2 (b2.trans b3) (t2.trans t3) ⟨c, cells, i, _, k', s, by omega, h3, b3 _ _ hne hc2, hne, D1.le⟩
        walk_at "go"
        refine w_ite (fun h3 => ?_) (fun h3 => ?_)
        · walk_at "go"
          refine w_setl (i := 3) h2 rfl (Nat.le_of_ble_eq_true rfl) fun H3 b3 t3 h3 => ?_
          walk_at "go"
          refine fin2 (k - 1) H3 b3 t3 ?_
          have e : ((k - 1 : Nat) : Int) = (k : Int) - 1 := by omega
          rw [e]
          exact h3
        · walk_at "go"
          refine w_setl (i := 3) h2 rfl (Nat.le_of_ble_eq_true rfl) fun H3 b3 t3 h3 => ?_
          walk_at "go"
          exact fin2 0 H3 b3 t3 h3
      · walk_at "go"
        refine w_setl (i := 5) ho rfl (Nat.le_of_ble_eq_true rfl) fun H2 b2 t2 h2 => ?_
        replace h2 : H2 pd = some (.lst [.ref pc, .int (i : Nat), .int x, .int (k : Nat), .int s, .int ((c : Int) + 1)]) := h2
        walk_at "go"
        have hc2 := b2 _ _ hne hce
        refine w_setl (i := 4) h2 rfl (Nat.le_of_ble_eq_true rfl) fun H3 b3 t3 h3 => ?_
        generalize (s * 48271 + ((c : Int) + 1) * ((c : Int) + 1) * 69621 + 11) % 2147483647 = s2 at h3
        replace h3 : H3 pd = some (.lst [.ref pc, .int (i : Nat), .int x, .int (k : Nat), .int s2, .int ((c : Int) + 1)]) := h3
        walk_at "go"
        exact fin _ H3 (Int.emod_nonneg _ (show many ≠ 0 by omega)) (Int.emod_lt_of_pos _ hm1) (b2.trans b3) (t2.trans t3) ⟨c + 1, cells, i, x, k, s2, by omega, h3, b3 _ _ hne hc2, hne, D1.le⟩
end
end K53

set_option exponentiation.threshold 256
set_option Elab.async false
set_option linter.all false
set_option maxRecDepth 100000
set_option maxHeartbeats 4000000
set_option exponentiation.threshold 10
namespace K53
open PySem PySem.Spec PyProof.Rows L2 Lay DataM PySem.NumText
local macro_rules | `(tactic| walk_at "1") => `(tactic| first
  | with_reducible refine w_seq ?_
  | ((with_reducible refine w_var (v := ?vv) ?hv ?_); (case hv => rfl))
  | with_reducible refine w_c ?_
  | with_reducible refine w_m1 ?_
  | with_reducible refine w_isstr ?_
  | with_reducible refine w_bm0 ?_
  | with_reducible refine w_bm ?_
  | with_reducible refine w_gcons ?_
  | with_reducible refine w_gnil ?_
  | ((with_reducible refine w_ty (xs := ?vv) ?hv ?_); (case hv => walk_at "hx"))
  | ((with_reducible refine w_gtup (xs := ?vv) ?hv ?hl ?_); (case hv => walk_at "hx"); (case hl => rfl))
  | with_reducible refine w_for1 ?_
  | with_reducible refine w_for2 ?_
  | with_reducible refine w_for3 ?_
  | with_reducible refine w_forA ?_
  | with_reducible refine w_forE ?_
  | ((with_reducible refine w_aug (x := ?vv) ?hv ?_); (case hv => rfl))
  | with_reducible refine w_op ?_
  | with_reducible refine w_cb ?_
  | with_reducible refine w_acons ?_
  | with_reducible refine w_anil ?_
  | with_reducible refine w_set ?_
  | with_reducible refine w_if ?_
  | with_reducible refine w_test ?_
  | with_reducible refine w_tB ?_
  | with_reducible refine w_bl ?_
  | with_reducible refine w_and ?_
  | with_reducible refine w_or ?_
  | with_reducible refine w_not ?_
  | with_reducible refine w_iteT ?_
  | with_reducible refine w_iteF ?_
  | with_reducible refine w_ret ?_
  | with_reducible refine w_next ?_
  | with_reducible refine w_drop ?_
  | with_reducible refine w_call ?_
  | with_reducible refine w_ifx ?_
  | with_reducible refine w_andV ?_
  | with_reducible refine w_orV ?_
  | with_reducible refine w_notV ?_
  | with_reducible refine w_sl ?_
  | with_reducible refine w_nopart ?_
  | with_reducible refine w_part ?_
  | with_reducible refine w_exint ?_
  | with_reducible refine w_chain ?_
  | with_reducible refine w_par ?_
  | with_reducible refine w_two ?_
  | with_reducible refine w_par3 ?_
  | with_reducible refine w_three ?_
  | with_reducible refine w_asg ?_
  | with_reducible refine w_gset ?_
  | with_reducible refine w_retN ?_
  | with_reducible refine w_brk ?_
  | with_reducible refine w_cont ?_
  | with_reducible refine w_un ?_
  | with_reducible refine w_neg ?_
  | with_reducible refine w_callS ?_
  | with_reducible refine w_tup0 ?_
  | with_reducible refine w_lst0 ?_
  | with_reducible refine w_fld0 ?_
  | with_reducible refine w_sfld ?_
  | with_reducible refine w_gsub ?_
  | with_reducible refine w_iAny ?_
  | with_reducible refine w_iR1 ?_
  | with_reducible refine w_make ?_
  | with_reducible refine w_meth ?_)
local macro_rules | `(tactic| walk_at "2") => `(tactic| first
  | with_reducible refine w_add_int ?_
  | with_reducible refine w_sub ?_
  | ((with_reducible refine w_add_str ?hl ?_); (case hl => walk_at "len"))
  | ((with_reducible refine w_mod ?hl ?_); (case hl => first | decide | omega))
  | ((with_reducible refine w_fdiv ?h1 ?h2 ?_); (case h1 => first | decide | omega); (case h2 => first | decide | omega))
  | ((with_reducible refine w_mulR ?h1 ?h2 ?_); (case h1 => first | decide | omega); (case h2 => first | decide | omega))
  | ((with_reducible refine w_mulL ?h1 ?h2 ?_); (case h1 => first | decide | omega); (case h2 => first | decide | omega))
  | with_reducible refine w_iadd_int ?_
  | ((with_reducible refine w_iadd_str ?hl ?_); (case hl => walk_at "len"))
  | ((with_reducible refine w_mk ?hl ?_); (case hl => walk_at "len"))
  | with_reducible refine w_lt_int ?_
  | with_reducible refine w_lt_str ?_
  | with_reducible refine w_le_int ?_
  | with_reducible refine w_le_str ?_
  | with_reducible refine w_gt ?_
  | with_reducible refine w_ge ?_
  | with_reducible refine w_eq_int ?_
  | with_reducible refine w_eq_str ?_
  | with_reducible refine w_ne_int ?_
  | with_reducible refine w_ne_str ?_
  | ((with_reducible refine w_isInt (d := ?vd) ?hd ?_); (case hd => walk_at "dp"))
  | ((with_reducible refine w_isBool (d := ?vd) ?hd ?_); (case hd => walk_at "dp"))
  | ((with_reducible refine w_isStr (d := ?vd) ?hd ?_); (case hd => walk_at "dp"))
  | ((with_reducible refine w_isTup (d := ?vd) ?hd ?_); (case hd => walk_at "dp"))
  | ((with_reducible refine w_isLst (d := ?vd) ?hd ?_); (case hd => walk_at "dp"))
  | refine w_in_str ?_
  | refine w_nin_str ?_
  | ((with_reducible refine w_ixL (xs := ?vv) (y := ?vr) ?h ?ha ?_); (case h => walk_at "hx"); (case ha => rfl))
  | with_reducible refine w_is ?_
  | with_reducible refine w_isnot ?_
  | ((with_reducible refine w_len_str ?hl ?_); (case hl => walk_at "len"))
  | ((with_reducible refine w_len (xs := ?vv) ?hl ?_); (case hl => walk_at "hx"))
  | with_reducible refine w_int_int ?_
  | with_reducible refine w_str_str ?_
  | with_reducible refine w_abs ?_
  | ((with_reducible refine w_sl_str ?hl ?_); (case hl => walk_at "len"))
  | ((with_reducible refine w_fldAt (C := ?vC) (dx := ?vdx) (fs := ?vfs) (v := ?vv) ?h1 ?h2 ?h3 ?h4 ?_); (case h1 => walk_at "hx"); (case h2 => assumption); (case h3 => assumption); (case h4 => rfl))
  | ((with_reducible refine w_methAt (dx := ?vdx) (fs := ?vfs) ?h1 ?h2 ?_); (case h1 => walk_at "hx"); (case h2 => rfl))
  | ((with_reducible refine w_iteP ?h1 ?_); (case h1 => walk_at "yes"))
  | ((with_reducible refine w_iteN ?h1 ?_); (case h1 => walk_at "no")))
local macro_rules | `(tactic| walk_at "yes") => `(tactic| first | assumption | ((with_reducible refine bnotT ?_); walk_at "no") | (refine decide_eq_true ?_; first | assumption | omega) | exact rfl)
local macro_rules | `(tactic| walk_at "no") => `(tactic| first | assumption | ((with_reducible refine bnotF ?_); walk_at "yes") | (refine decide_eq_false ?_; first | assumption | omega) | exact rfl)
local macro_rules | `(tactic| walk_at "len") => `(tactic| first | assumption | exact Nat.le_of_ble_eq_true rfl | omega | decide | (simp only [List.length_append, List.length_cons, List.length_nil, List.length_map]; omega))
local macro_rules | `(tactic| walk_at "ne") => `(tactic| first | assumption | (refine Ne.symm ?_; assumption))
local macro_rules | `(tactic| walk_at "hx") => `(tactic| first
  | assumption
  | exact upd_same
  | ((with_reducible refine sqa_l ?_); walk_at "hx")
  | ((with_reducible refine sqa_t ?_); walk_at "hx")
  | ((with_reducible refine SqL.of ?_); walk_at "hx")
  | ((with_reducible refine SqT.of ?_); walk_at "hx")
  | ((with_reducible refine at_same (by assumption) ?_); walk_at "hx")
  | ((with_reducible refine at_but (by assumption) ?hne ?_); (case hne => walk_at "ne"); walk_at "hx")
  | ((with_reducible refine Txt.tup (by assumption) _ _ ?_); walk_at "hx")
  | ((with_reducible refine Same.seq (by assumption) ?_); walk_at "hx")
  | ((with_reducible refine Same.seqT (by assumption) ?_); walk_at "hx")
  | ((with_reducible refine Dp.same (by assumption) _ _ ?_); walk_at "hx")
  | ((with_reducible refine DpAll.same (by assumption) _ _ ?_); walk_at "hx"))
local macro_rules | `(tactic| walk_at "go") => `(tactic| repeat (first | walk_at "1" | walk_at "2"))
local macro_rules | `(tactic| walk_at "dp") => `(tactic| first | exact .int _ | exact .str _ | exact .bl _ | exact .non | walk_at "hx")

section
variable {P : Program} {w : World} {K : PySem.W.Frag} {mg : Str → Option Value} {base : Heap} {CM CR : Addr}
theorem lt_one (c d : Nat) : strLt ⟨#[c]⟩ ⟨#[d]⟩ = decide (c < d) := by
  unfold strLt
  rw [decide_eq_decide]
  show [c] < [d] ↔ c < d
  simp [List.cons_lt_cons_iff]
theorem le_one (c d : Nat) : (!strLt ⟨#[c]⟩ ⟨#[d]⟩) = decide (d ≤ c) := by
  rw [lt_one, ← decide_not]
  congr 1
  simp
theorem le_a (c : Nat) : (!strLt ⟨#[c]⟩ (Str.ofString "a")) = decide (97 ≤ c) := le_one c 97
theorem le_z (c : Nat) : (!strLt (Str.ofString "z") ⟨#[c]⟩) = decide (c ≤ 122) := le_one 122 c
theorem le_0 (c : Nat) : (!strLt ⟨#[c]⟩ (Str.ofString "0")) = decide (48 ≤ c) := le_one c 48
theorem le_9 (c : Nat) : (!strLt (Str.ofString "9") ⟨#[c]⟩) = decide (c ≤ 57) := le_one 57 c
theorem let_le (c : Nat) : (decide (97 ≤ c) && decide (c ≤ 122)) = isLet c := by
  unfold isLet
  simp
theorem dig_le (c : Nat) : (decide (48 ≤ c) && decide (c ≤ 57)) = isDig c := by
  unfold isDig
  simp
theorem ok_law_word {f : Addr} {fd : FuncData} (T : Facts w K mg CM) (F : Fun K "_law_word" "_law_word" s__law_word f fd) : FnOk P w K mg base CX0 1 f fd ["value"] (spWord K) := by
  refine F.ok sc__law_word (fun vs H Q E h => ?_) (fun cdv A outer s H vs Q E hr h => ?_)
  · obtain ⟨v, d, rfl, _⟩ := h
    rfl
  · obtain ⟨v, d, rfl, hd, hz, q⟩ := h
    refine ⟨_, (pss_cons (ps_if (PW.pt (pw_or (pt_not (pt_val (pe_callB (call_isiA (K := K)) (by rfl) T.b_isinstance (by decide +kernel) (pa_cons (pv 0) (pa_cons (pe_bltn (v := .ty "str") (by rfl) T.b_str (by decide +kernel) rfl) pa_nil))))) (pw_or (pt_not (pt_chain op_leA op_leA pe_int (pe_callB (call_lenA (K := K)) (by rfl) T.b_len (by decide +kernel) (pa_cons (pv 0) pa_nil)) pe_int)) (pw_or1 (pt_not (pt_chain op_leA op_leA pe_str (pe_ix (ix_A (K := K)) (pv 0) pe_int (fun _ _ => rfl)) pe_str)))))) (pss_one (ps_ret pe_bl)) pss_nil)
    (pss_one (ps_ret (pe_callB (all_A (K := K) rfl) (by rfl) T.b_all (by decide +kernel) (pa_cons (pe_lc (own := [("sign", 1)]) (g := gName 1) (tt := tYes) rfl sc__law_word.nd (pi_A (K := K) (pv 0)) (blkOk_by (N := N__law_word) (sc := defScope s__law_word) (by decide +kernel)) (fun _ _ _ _ _ => pg_name (i := 1) sc__law_word.nd rfl (Or.inl rfl)) (fun _ _ _ _ _ => pts_nil) (fun _ _ _ _ _ => (pe_or (pe_chain op_leA op_leA pe_str (pv 1) pe_str) (pe_one (pe_chain op_leA op_leA pe_str (pv 1) pe_str))))) pa_nil))))), ?_⟩
    try dsimp only [cxOf]
    refine w_start (show _ = [some _, none] from rfl) ?_
    walk_at "go"
    have no : ∀ d, isStrD d = false → isWord d = false := by
      intro d h
      cases d <;> first | rfl | cases h
    cases hi : isStrD d with
    | false =>
      walk_at "go"
      rw [← no d hi]
      exact q H (Same.refl H)
    | true =>
      cases d with
      | str s =>
        cases hd
        have hs : s.length ≤ 1000000 := hz
        walk_at "go"
        have e1 := len_cps s
        by_cases h1 : 1 ≤ s.length
        · walk_at "go"
          by_cases h2 : s.length ≤ 12
          · walk_at "go"
            cases hl : s.cps.toList with
            | nil =>
              rw [hl] at e1
              simp at e1
              omega
            | cons c r =>
              have hw : isWord (.str s) = (isLet c && s.cps.toList.all fun c => isLet c || isDig c) := by
                show isWordT s.cps.toList = _
                unfold isWordT
                rw [len_cps, decide_eq_true h1, decide_eq_true h2, hl]
                rfl
              refine w_ix_str (z := s) (n := 0) (c := c) (by omega) (by rw [hl]; exact atI_nat (j := 0) rfl) ?_
              walk_at "go"
              have bad : isLet c = false → Q (.bl false) H := fun hc => by
                have := q H (Same.refl H)
                rw [hw, hc] at this
                exact this
              rw [le_a]
              cases h3 : decide (97 ≤ c) with
              | false =>
                walk_at "go"
                exact bad (by rw [← let_le, h3]; rfl)
              | true =>
                walk_at "go"
                rw [le_z]
                cases h4 : decide (c ≤ 122) with
                | false =>
                  walk_at "go"
                  exact bad (by rw [← let_le, h3, h4]; rfl)
                | true =>
                  have hc : isLet c = true := by rw [← let_le, h3, h4]; rfl
                  walk_at "go"
                  refine w_lcS (x := s) (fun c => .bl (isLet c || isDig c)) rfl (by omega) (fun v => rfl) (fun c H1 hc1 e2 R hR => ?_) (fun D H2 n2 e2 hD => ?_)
                  · show tOrV _ _ [some (V.str s), some (.str ⟨#[c]⟩)] H1 R
                    have hR2 := hR H1 (Same.refl H1)
                    have dig : isLet c = false → if (!strLt ⟨#[c]⟩ (Str.ofString "0")) = true then tC (.str "9") [some (V.str s), some (.str ⟨#[c]⟩)] H1 fun w H4 => rLeA (.str ⟨#[c]⟩) w H4 R else R (.bl false) H1 := fun hl => by
                      rw [hl, Bool.false_or] at hR2
                      rw [le_0]
                      cases h5 : decide (48 ≤ c) with
                      | false =>
                        walk_at "go"
                        rw [← dig_le, h5] at hR2
                        exact hR2
                      | true =>
                        walk_at "go"
                        rw [le_9]
                        rw [← dig_le, h5, Bool.true_and] at hR2
                        exact hR2
                    walk_at "go"
                    rw [le_a]
                    cases h5 : decide (97 ≤ c) with
                    | false =>
                      walk_at "go"
                      exact dig (by rw [← let_le, h5]; rfl)
                    | true =>
                      walk_at "go"
                      rw [le_z]
                      cases h6 : decide (c ≤ 122) with
                      | false =>
                        walk_at "go"
                        exact dig (by rw [← let_le, h5, h6]; rfl)
                      | true =>
                        walk_at "go"
                        rw [← let_le, h5, h6] at hR2
                        exact hR2
                  · walk_at "go"
                    refine w_all (bs := s.cps.toList.map fun c => isLet c || isDig c) ?_ ?_
                    · rw [List.map_map]
                      exact SqL.of hD
                    · have := q H2 e2
                      rw [hw, hc] at this
                      rw [List.all_map]
                      exact this
          · walk_at "go"
            have := q H (Same.refl H)
            have hw : isWord (.str s) = false := by
              show isWordT s.cps.toList = _
              unfold isWordT
              rw [len_cps, decide_eq_true h1, decide_eq_false h2]
              rfl
            rw [hw] at this
            exact this
        · walk_at "go"
          have := q H (Same.refl H)
          have hw : isWord (.str s) = false := by
            show isWordT s.cps.toList = _
            unfold isWordT
            rw [len_cps, decide_eq_false h1]
            rfl
          rw [hw] at this
          exact this
      | _ => cases hi
def spNumL (K : PySem.W.Frag) : Sp := fun vs H Q _ => ∃ s : Str, vs = [.str s] ∧ s.length ≤ 4000 ∧ ∀ H', Same H H' → Q (if numOk s.cps.toList = true then .int (numV s.cps.toList) else .non) H'
theorem ok_law_number {f : Addr} {fd : FuncData} (T : Facts w K mg CM) (F : Fun K "_law_number" "_law_number" s__law_number f fd) :
    FnOk P w K mg base CX0 1 f fd ["text"] (spNumL K) := by
  refine F.ok sc__law_number (fun vs H Q E h => ?_) (fun cdv A outer s H vs Q E hr h => ?_)
  · obtain ⟨z, rfl, _⟩ := h
    rfl
  · obtain ⟨z, rfl, hz, q⟩ := h
    refine ⟨_, (pss_mid (ps_set (i := 1) sc__law_number.nd rfl (by first | exact Or.inl rfl | exact Or.inr rfl) (pe_ifExp (pt_cmpR (op_eqA (K := K) hr.units) (pe_slice (sl_A (K := K)) (pv 0) po_none (po_some pe_int)) pe_str (nomark _)) (pe_slice (sl_A (K := K)) (pv 0) (po_some pe_int) po_none) (pv 0)))
    (pss_cons (ps_if (PW.pt (pw_or (pt_cmpR (op_eqA (K := K) hr.units) (pv 1) pe_str (nomark _)) (pw_or (pt_val (pe_callB (any_A (K := K) rfl) (by rfl) T.b_any (by decide +kernel) (pa_cons (pe_lc (own := [("sign", 2)]) (g := gName 2) (tt := tYes) rfl sc__law_number.nd (pi_A (K := K) (pv 1)) (blkOk_by (N := N__law_number) (sc := defScope s__law_number) (by decide +kernel)) (fun _ _ _ _ _ => pg_name (i := 2) sc__law_number.nd rfl (Or.inl rfl)) (fun _ _ _ _ _ => pts_nil) (fun _ _ _ _ _ => (pe_cmpR (op_notInA (K := K)) (pv 2) pe_str (by rfl)))) pa_nil))) (pw_or1 (PW.pt (pw_and (pt_cmpR (op_eqA (K := K) hr.units) (pe_ix (ix_A (K := K)) (pv 1) pe_int (fun _ _ => rfl)) pe_str (nomark _)) (pw_and1 (pt_cmpR (op_neA (K := K) hr.units) (pv 0) pe_str (nomark _))))))))) (pss_one (ps_ret pe_non)) pss_nil)
    (pss_one (ps_ret (pe_callTy (call_intG T.digits) (by rfl) T.b_int (by decide +kernel) (pa_cons (pv 0) pa_nil)))))), ?_⟩
    try dsimp only [cxOf]
    refine w_start (show _ = [some _, none, none] from rfl) ?_
    refine w_mid (fun σ' H' => ∃ b : Str, b.cps.toList = bodyT z.cps.toList ∧ H = H' ∧ σ' = [some (.str z), some (.str b), none]) ?_ ?_
    · walk_at "go"
      have e1 : (cutS z none (some 1)).cps.toList = z.cps.toList.take 1 := cut_hi z 1
      have e2 : (cutS z (some 1) none).cps.toList = z.cps.toList.drop 1 := cut_lo z 1
      refine w_ite (fun h => ?_) (fun h => ?_)
      · walk_at "go"
        refine ⟨_, ?_, rfl, rfl⟩
        have h' : z.cps.toList.take 1 = [45] := by
          rw [← e1, of_decide_eq_true h]
          rfl
        rw [e2]
        unfold bodyT
        rw [if_pos h']
      · walk_at "go"
        refine ⟨z, ?_, rfl, rfl⟩
        have h' : ¬ z.cps.toList.take 1 = [45] := fun c => of_decide_eq_false h (str_ext (by rw [e1, c]; rfl))
        exact (body_pos h').symm
    · rintro σ' H' ⟨b, hb, rfl, rfl⟩
      have hlb := len_l b
      have hlz := len_l z
      have hle : b.length ≤ z.length := by
        rw [← hlb, ← hlz, hb]
        unfold bodyT
        split
        · rw [List.length_drop]
          omega
        · exact Nat.le_refl _
      have hno : numOk z.cps.toList = (decide (1 ≤ b.length) && decide (b.length ≤ 4000) && b.cps.toList.all isDig && !(decide (b.cps.toList.headD 0 = 48) && !decide (z.cps.toList = [48]))) := by
        unfold numOk
        rw [← hb, hlb]
      rw [decide_eq_true (show b.length ≤ 4000 by omega)] at hno
      have no : ∀ H', Same H H' → numOk z.cps.toList = false → Q .non H' := fun H' e h => by
        have := q H' e
        rw [h] at this
        exact this
      have yes : ∀ H', Same H H' → numOk z.cps.toList = true → rIntG [.str z] H' Q := fun H' e h => by
        have := q H' e
        rw [h] at this
        exact ⟨_, numT_ok h, this⟩
      walk_at "go"
      have he : decide (b = Str.ofString "") = decide (b.cps.toList = []) := by
        rw [decide_eq_decide]
        exact ⟨fun h => by rw [h]; rfl, fun h => str_ext (by rw [h]; rfl)⟩
      rw [he]
      cases hl : b.cps.toList with
      | nil =>
        walk_at "go"
        refine no H (Same.refl H) ?_
        rw [hno, decide_eq_false (by rw [← hlb, hl]; simp)]
        rfl
      | cons c r =>
        have h1 : 1 ≤ b.length := by
          rw [← hlb, hl]
          simp
        refine w_iteN rfl ?_
        walk_at "go"
        refine w_lcS (x := b) (fun c => .bl (!isDig c)) rfl (by omega) (fun v => rfl) (fun c H1 hc1 e2 R hR => ?_) (fun D H2 n2 e2 hD => ?_)
        · show tOp _ _ _ [some (V.str z), some (V.str b), some (.str ⟨#[c]⟩)] H1 R
          walk_at "go"
          rw [dig_mem]
          exact hR H1 (Same.refl H1)
        · walk_at "go"
          refine w_any (bs := b.cps.toList.map fun c => !isDig c) (by rw [List.map_map]; exact SqL.of hD) ?_
          rw [List.any_map]
          have hany : (b.cps.toList.any (id ∘ fun c => !isDig c)) = !b.cps.toList.all isDig := by
            rw [List.not_all_eq_any_not]
            rfl
          rw [hany]
          refine ⟨_, rfl, ?_⟩
          cases h3 : b.cps.toList.all isDig with
          | false =>
            walk_at "go"
            refine no H2 e2 ?_
            rw [hno, h3]
            simp
          | true =>
            walk_at "go"
            refine w_ix_str (z := b) (n := 0) (c := c) (by omega) (by rw [hl]; exact atI_nat (j := 0) rfl) ?_
            walk_at "go"
            have hz1 : decide (z = Str.ofString "0") = decide (z.cps.toList = [48]) := one_eq z 48 "0" rfl
            have hc1 : decide ((⟨#[c]⟩ : Str) = Str.ofString "0") = decide (c = 48) := by
              rw [decide_eq_decide]
              exact ⟨fun h => List.head_eq_of_cons_eq (show [c] = [48] from congrArg (fun s : Str => s.cps.toList) h), fun h => by rw [h]; rfl⟩
            have hh : b.cps.toList.headD 0 = c := by rw [hl]; rfl
            rw [hh, decide_eq_true h1, h3] at hno
            rw [hc1]
            cases h4 : decide (c = 48) with
            | false =>
              walk_at "go"
              exact yes H2 e2 (by rw [hno, h4]; rfl)
            | true =>
              walk_at "go"
              rw [hz1]
              cases h5 : decide (z.cps.toList = [48]) with
              | true =>
                walk_at "go"
                exact yes H2 e2 (by rw [hno, h4, h5]; rfl)
              | false =>
                walk_at "go"
                exact no H2 e2 (by rw [hno, h4, h5]; rfl)
end
end K53

set_option exponentiation.threshold 256
set_option Elab.async false
set_option linter.all false
set_option maxRecDepth 100000
set_option maxHeartbeats 4000000
set_option exponentiation.threshold 10
namespace K53
open PySem PySem.Spec PyProof.Rows L2 Lay DataM PySem.NumText
local macro_rules | `(tactic| walk_at "1") => `(tactic| first
  | with_reducible refine w_seq ?_
  | ((with_reducible refine w_var (v := ?vv) ?hv ?_); (case hv => rfl))
  | with_reducible refine w_c ?_
  | with_reducible refine w_m1 ?_
  | with_reducible refine w_isstr ?_
  | with_reducible refine w_bm0 ?_
  | with_reducible refine w_bm ?_
  | with_reducible refine w_gcons ?_
  | with_reducible refine w_gnil ?_
  | ((with_reducible refine w_ty (xs := ?vv) ?hv ?_); (case hv => walk_at "hx"))
  | ((with_reducible refine w_gtup (xs := ?vv) ?hv ?hl ?_); (case hv => walk_at "hx"); (case hl => rfl))
  | with_reducible refine w_for1 ?_
  | with_reducible refine w_for2 ?_
  | with_reducible refine w_for3 ?_
  | with_reducible refine w_forA ?_
  | with_reducible refine w_forE ?_
  | ((with_reducible refine w_aug (x := ?vv) ?hv ?_); (case hv => rfl))
  | with_reducible refine w_op ?_
  | with_reducible refine w_cb ?_
  | with_reducible refine w_acons ?_
  | with_reducible refine w_anil ?_
  | with_reducible refine w_set ?_
  | with_reducible refine w_if ?_
  | with_reducible refine w_test ?_
  | with_reducible refine w_tB ?_
  | with_reducible refine w_bl ?_
  | with_reducible refine w_and ?_
  | with_reducible refine w_or ?_
  | with_reducible refine w_not ?_
  | with_reducible refine w_iteT ?_
  | with_reducible refine w_iteF ?_
  | with_reducible refine w_ret ?_
  | with_reducible refine w_next ?_
  | with_reducible refine w_drop ?_
  | with_reducible refine w_call ?_
  | with_reducible refine w_ifx ?_
  | with_reducible refine w_andV ?_
  | with_reducible refine w_orV ?_
  | with_reducible refine w_notV ?_
  | with_reducible refine w_sl ?_
  | with_reducible refine w_nopart ?_
  | with_reducible refine w_part ?_
  | with_reducible refine w_exint ?_
  | with_reducible refine w_chain ?_
  | with_reducible refine w_par ?_
  | with_reducible refine w_two ?_
  | with_reducible refine w_par3 ?_
  | with_reducible refine w_three ?_
  | with_reducible refine w_asg ?_
  | with_reducible refine w_gset ?_
  | with_reducible refine w_retN ?_
  | with_reducible refine w_brk ?_
  | with_reducible refine w_cont ?_
  | with_reducible refine w_un ?_
  | with_reducible refine w_neg ?_
  | with_reducible refine w_callS ?_
  | with_reducible refine w_tup0 ?_
  | with_reducible refine w_lst0 ?_
  | with_reducible refine w_fld0 ?_
  | with_reducible refine w_sfld ?_
  | with_reducible refine w_gsub ?_
  | with_reducible refine w_iAny ?_
  | with_reducible refine w_iR1 ?_
  | with_reducible refine w_make ?_
  | with_reducible refine w_meth ?_)
local macro_rules | `(tactic| walk_at "2") => `(tactic| first
  | with_reducible refine w_add_int ?_
  | with_reducible refine w_sub ?_
  | ((with_reducible refine w_add_str ?hl ?_); (case hl => walk_at "len"))
  | ((with_reducible refine w_mod ?hl ?_); (case hl => first | decide | omega))
  | ((with_reducible refine w_fdiv ?h1 ?h2 ?_); (case h1 => first | decide | omega); (case h2 => first | decide | omega))
  | ((with_reducible refine w_mulR ?h1 ?h2 ?_); (case h1 => first | decide | omega); (case h2 => first | decide | omega))
  | ((with_reducible refine w_mulL ?h1 ?h2 ?_); (case h1 => first | decide | omega); (case h2 => first | decide | omega))
  | with_reducible refine w_iadd_int ?_
  | ((with_reducible refine w_iadd_str ?hl ?_); (case hl => walk_at "len"))
  | ((with_reducible refine w_mk ?hl ?_); (case hl => walk_at "len"))
  | with_reducible refine w_lt_int ?_
  | with_reducible refine w_lt_str ?_
  | with_reducible refine w_le_int ?_
  | with_reducible refine w_le_str ?_
  | with_reducible refine w_gt ?_
  | with_reducible refine w_ge ?_
  | with_reducible refine w_eq_int ?_
  | with_reducible refine w_eq_str ?_
  | with_reducible refine w_ne_int ?_
  | with_reducible refine w_ne_str ?_
  | ((with_reducible refine w_isInt (d := ?vd) ?hd ?_); (case hd => walk_at "dp"))
  | ((with_reducible refine w_isBool (d := ?vd) ?hd ?_); (case hd => walk_at "dp"))
  | ((with_reducible refine w_isStr (d := ?vd) ?hd ?_); (case hd => walk_at "dp"))
  | ((with_reducible refine w_isTup (d := ?vd) ?hd ?_); (case hd => walk_at "dp"))
  | ((with_reducible refine w_isLst (d := ?vd) ?hd ?_); (case hd => walk_at "dp"))
  | refine w_in_str ?_
  | refine w_nin_str ?_
  | ((with_reducible refine w_ixL (xs := ?vv) (y := ?vr) ?h ?ha ?_); (case h => walk_at "hx"); (case ha => rfl))
  | with_reducible refine w_is ?_
  | with_reducible refine w_isnot ?_
  | ((with_reducible refine w_len_str ?hl ?_); (case hl => walk_at "len"))
  | ((with_reducible refine w_len (xs := ?vv) ?hl ?_); (case hl => walk_at "hx"))
  | with_reducible refine w_int_int ?_
  | with_reducible refine w_str_str ?_
  | with_reducible refine w_abs ?_
  | ((with_reducible refine w_sl_str ?hl ?_); (case hl => walk_at "len"))
  | ((with_reducible refine w_fldAt (C := ?vC) (dx := ?vdx) (fs := ?vfs) (v := ?vv) ?h1 ?h2 ?h3 ?h4 ?_); (case h1 => walk_at "hx"); (case h2 => assumption); (case h3 => assumption); (case h4 => rfl))
  | ((with_reducible refine w_methAt (dx := ?vdx) (fs := ?vfs) ?h1 ?h2 ?_); (case h1 => walk_at "hx"); (case h2 => rfl))
  | ((with_reducible refine w_iteP ?h1 ?_); (case h1 => walk_at "yes"))
  | ((with_reducible refine w_iteN ?h1 ?_); (case h1 => walk_at "no")))
local macro_rules | `(tactic| walk_at "yes") => `(tactic| first | assumption | ((with_reducible refine bnotT ?_); walk_at "no") | (refine decide_eq_true ?_; first | assumption | omega) | exact rfl)
local macro_rules | `(tactic| walk_at "no") => `(tactic| first | assumption | ((with_reducible refine bnotF ?_); walk_at "yes") | (refine decide_eq_false ?_; first | assumption | omega) | exact rfl)
local macro_rules | `(tactic| walk_at "len") => `(tactic| first | assumption | exact Nat.le_of_ble_eq_true rfl | omega | decide | (simp only [List.length_append, List.length_cons, List.length_nil, List.length_map]; omega))
local macro_rules | `(tactic| walk_at "ne") => `(tactic| first | assumption | (refine Ne.symm ?_; assumption))
local macro_rules | `(tactic| walk_at "hx") => `(tactic| first
  | assumption
  | exact upd_same
  | ((with_reducible refine sqa_l ?_); walk_at "hx")
  | ((with_reducible refine sqa_t ?_); walk_at "hx")
  | ((with_reducible refine SqL.of ?_); walk_at "hx")
  | ((with_reducible refine SqT.of ?_); walk_at "hx")
  | ((with_reducible refine at_same (by assumption) ?_); walk_at "hx")
  | ((with_reducible refine at_but (by assumption) ?hne ?_); (case hne => walk_at "ne"); walk_at "hx")
  | ((with_reducible refine Txt.tup (by assumption) _ _ ?_); walk_at "hx")
  | ((with_reducible refine Same.seq (by assumption) ?_); walk_at "hx")
  | ((with_reducible refine Same.seqT (by assumption) ?_); walk_at "hx")
  | ((with_reducible refine Dp.same (by assumption) _ _ ?_); walk_at "hx")
  | ((with_reducible refine DpAll.same (by assumption) _ _ ?_); walk_at "hx"))
local macro_rules | `(tactic| walk_at "go") => `(tactic| repeat (first | walk_at "1" | walk_at "2"))
local macro_rules | `(tactic| walk_at "dp") => `(tactic| first | exact .int _ | exact .str _ | exact .bl _ | exact .non | walk_at "hx")

section
variable {P : Program} {w : World} {K : PySem.W.Frag} {mg : Str → Option Value} {base : Heap} {CM CR : Addr}
theorem join_wrj : ∀ (ds : List PyData) (l : Tx), wrj ds = some l → ∃ ps : List Str, (∀ (i : Nat) d, ds[i]? = some d → ∃ p : Str, ps[i]? = some p ∧ wr d = some p.cps.toList) ∧ ps.length = ds.length ∧ (Txt.join "," ps).cps.toList = l ∧ (ps.map (·.length)).sum + ps.length ≤ l.length + 1
  | [], l, h => by
    simp only [wrj] at h
    cases h
    exact ⟨[], fun i d e => by simp at e, rfl, rfl, by simp⟩
  | d :: ds, l, h => by
    simp only [wrj] at h
    cases ha : wr d with
    | none =>
      rw [ha] at h
      cases h
    | some a =>
      cases hb : wrj ds with
      | none =>
        rw [ha, hb] at h
        cases h
      | some b =>
        rw [ha, hb] at h
        obtain ⟨ps, h1, h2, h3, h4⟩ := join_wrj ds b hb
        have hlen : (⟨a.toArray⟩ : Str).length = a.length := List.size_toArray ..
        refine ⟨⟨a.toArray⟩ :: ps, fun i d' e => ?_, by simp [h2], ?_, ?_⟩
        · cases i with
          | zero =>
            simp at e
            subst e
            exact ⟨_, rfl, ha⟩
          | succ i => exact h1 i d' (by simpa using e)
        · rw [join_l]
          cases ds with
          | nil =>
            have : ps = [] := List.length_eq_zero_iff.mp (by simpa using h2)
            subst this
            simp at h
            subst h
            simp
          | cons d2 ds =>
            cases ps with
            | nil => simp at h2
            | cons p ps =>
              simp at h
              subst h
              rw [join_l] at h3
              rw [← h3]
              simp
              rfl
        · cases ds with
          | nil =>
            have : ps = [] := List.length_eq_zero_iff.mp (by simpa using h2)
            subst this
            simp at h
            subst h
            simp [hlen]
          | cons d2 ds =>
            simp at h
            subst h
            simp only [List.map_cons, List.sum_cons, List.length_cons, List.length_append, hlen]
            omega
def spWr (K : PySem.W.Frag) (n : Nat) : Sp := fun vs H Q _ => ∃ v d l, vs = [v] ∧ Dp K H v d ∧ wr d = some l ∧ okI d ∧ dep d ≤ n ∧ l.length ≤ 900000 ∧ ∀ H', Same H H' → Q (.str ⟨l.toArray⟩) H'
theorem okIs_get : ∀ {ds : List PyData} {i : Nat} {d : PyData}, okIs ds → ds[i]? = some d → okI d
  | [], i, d, _, e => by simp at e
  | a :: ds, 0, d, h, e => by
    simp at e
    subst e
    simp only [okIs] at h
    exact h.1
  | a :: ds, i + 1, d, h, e => by
    simp only [okIs] at h
    exact okIs_get (i := i) h.2 (by simpa using e)
theorem depAll_get : ∀ {ds : List PyData} {i : Nat} {d : PyData}, ds[i]? = some d → dep d ≤ depAll ds
  | [], i, d, e => by simp at e
  | a :: ds, 0, d, e => by
    simp at e
    subst e
    simp only [depAll]
    omega
  | a :: ds, i + 1, d, e => by
    have := depAll_get (ds := ds) (i := i) (d := d) (by simpa using e)
    simp only [depAll]
    omega
theorem len_get : ∀ {ps : List Str} {i : Nat} {p : Str}, ps[i]? = some p → p.length ≤ (ps.map (·.length)).sum
  | [], i, d, e => by simp at e
  | a :: ds, 0, d, e => by
    simp at e
    subst e
    simp
  | a :: ds, i + 1, d, e => by
    have := len_get (ps := ds) (i := i) (p := d) (by simpa using e)
    simp
    omega
theorem ok_law_written_step {f : Addr} {fd : FuncData} {n : Nat} {sp : Sp} (T : Facts w K mg CM) (F : Fun K "_law_written" "_law_written" s__law_written f fd) (c__law_word : Fn0 P w K mg base 1 "_law_word" (spWord K))
    (c__law_written : Fn0 P w K mg base (n + 1) "_law_written" sp) (hsp : ∀ m, n = m + 1 → sp = spWr K m) : FnOk P w K mg base CX0 (n + 2) f fd ["data"] (spWr K n) := by
  refine F.ok sc__law_written (fun vs H Q E h => ?_) (fun cdv A outer s H vs Q E hr h => ?_)
  · obtain ⟨v, d, l, rfl, _⟩ := h
    rfl
  · obtain ⟨v, d, l, rfl, hd, hw, hi, hdep, hlen, q⟩ := h
    refine ⟨_, (pss_cons (ps_if (pt_val (pe_callB (call_isiA (K := K)) (by rfl) T.b_isinstance (by decide +kernel) (pa_cons (pv 0) (pa_cons (pe_bltn (v := .ty "tuple") (by rfl) T.b_tuple (by decide +kernel) rfl) pa_nil)))) (pss_cons (ps_setLc (i := 1) (own := [("item", 2)]) (g := gName 2) (tt := tYes) rfl sc__law_written.nd rfl rfl (sw_true rfl rfl rfl (by decide +kernel)) (pi_A (K := K) (pv 0)) (blkOk_by (N := N__law_written) (sc := defScope s__law_written) (by decide +kernel)) (fun _ _ _ _ _ => pg_name (i := 2) sc__law_written.nd rfl (Or.inl rfl)) (fun _ _ _ _ _ => pts_nil) (fun _ _ _ _ _ => (pe_f0 c__law_written hr (by first | decide | omega) (pa_cons (pv 2) pa_nil))))
    (pss_one (ps_ret (pe_ifExp (pt_cmpR (op_inA (K := K)) pe_non (pv 1) (by rfl)) pe_non (pe_op op_addA (pe_op op_addA pe_str (join_A (K := K) pe_str (pv 1))) pe_str))))) pss_nil)
    (pss_cons (ps_if (pt_val (pe_f0 c__law_word hr (by first | decide | omega) (pa_cons (pv 0) pa_nil))) (pss_one (ps_ret (pv 0))) pss_nil)
    (pss_cons (ps_if (PW.pt (pw_or (pt_val (pe_callB (call_isiA (K := K)) (by rfl) T.b_isinstance (by decide +kernel) (pa_cons (pv 0) (pa_cons (pe_bltn (v := .ty "bool") (by rfl) T.b_bool (by decide +kernel) rfl) pa_nil)))) (pw_or1 (PW.pt (pw_and (pt_val (pe_callB (call_isiA (K := K)) (by rfl) T.b_isinstance (by decide +kernel) (pa_cons (pv 0) (pa_cons (pe_bltn (v := .ty "str") (by rfl) T.b_str (by decide +kernel) rfl) pa_nil)))) (pw_and1 (pt_cmpR (op_eqA (K := K) hr.units) (pv 0) pe_str (nomark _)))))))) (pss_one (ps_ret (pe_dget (hu_of hr) (pe_disp (pps_cons pe_str pe_str (pps_cons pe_str pe_str (pps_cons pe_str pe_str pps_nil))) (by rfl) (by rfl) (fun z => by cases z) (by decide)) (pe_callTy (call_strA rfl T.digits) (by rfl) T.b_str (by decide +kernel) (pa_cons (pv 0) pa_nil)) (fun _ _ => rfl)))) pss_nil)
    (pss_one (ps_ret (pe_ifExp (pt_val (pe_callB (call_isiA (K := K)) (by rfl) T.b_isinstance (by decide +kernel) (pa_cons (pv 0) (pa_cons (pe_bltn (v := .ty "int") (by rfl) T.b_int (by decide +kernel) rfl) pa_nil)))) (pe_callTy (call_strA rfl T.digits) (by rfl) T.b_str (by decide +kernel) (pa_cons (pv 0) pa_nil)) pe_non)))))), ?_⟩
    try dsimp only [cxOf]
    refine w_start (show _ = [some _, none, none] from rfl) ?_
    walk_at "go"
    cases hT : isTupD d with
    | true =>
      obtain ⟨ds, rfl⟩ := isTup_ex hT
      cases hd with
      | @tup a xs _ hs ha =>
      simp only [wr] at hw
      cases hx : wrj ds with
      | none =>
        rw [hx] at hw
        cases hw
      | some x =>
      rw [hx] at hw
      obtain rfl : 91 :: (x ++ [93]) = l := Option.some.inj hw
      simp only [dep] at hdep
      obtain ⟨m, rfl⟩ : ∃ m, n = m + 1 := ⟨n - 1, by omega⟩
      cases hsp m rfl
      obtain ⟨ps, hp1, hp2, hp3, hp4⟩ := join_wrj ds x hx
      have hlx := DpAll.length ha
      simp only [List.length_cons, List.length_append, List.length_nil] at hlen
      simp only [okI] at hi
      walk_at "go"
      refine w_lcI ?_
      walk_at "go"
      refine lcT (fun v => rfl) hs (LcS.mapI (zs := ps.map V.str) (by rw [List.length_map]; omega) (by omega) (fun H' e => Same.seqT e hs) (fun i y z H2 hy hz e2 R hR => ?_) (fun D H2 n2 e2 h2 => ?_))
      · show tCall _ _ _ _ [some (V.ref a), none, some y] H2 R
        obtain ⟨di, hdi, hdy⟩ := DpAll.get ha hy
        obtain ⟨p, hpi, hpw⟩ := hp1 i di hdi
        rw [List.getElem?_map, hpi] at hz
        obtain rfl : V.str p = z := Option.some.inj hz
        have hpl := len_get hpi
        have hdd := depAll_get hdi
        walk_at "go"
        refine ⟨y, di, p.cps.toList, rfl, Dp.same e2 di y hdy, hpw, okIs_get hi hdi, by omega, by rw [len_l]; omega, fun H3 e3 => ?_⟩
        rw [str_back]
        exact hR H3 e3
      · walk_at "go"
        refine ⟨D, ps.map V.str, rfl, .inl (SqL.of h2), rfl, by rw [List.all_map]; exact List.all_eq_true.mpr fun _ _ => rfl, ?_⟩
        have hno : inV V.non (ps.map V.str) = false := by
          unfold inV
          rw [List.any_map, List.any_eq_false]
          intro y hy
          simp [eqV]
        rw [hno]
        walk_at "go"
        have hsum : (ps.map (·.length)).sum + ps.length * (Str.ofString ",").length ≤ 10000000 := by
          show _ + ps.length * 1 ≤ _
          omega
        refine ⟨_, D, ps, rfl, rfl, .inl (SqL.of h2), Nat.le_trans hsum (by decide), ?_⟩
        have hjl : (Txt.join (Str.ofString ",") ps).length = x.length := by
          rw [← len_l]
          exact congrArg List.length hp3
        show rAddA (V.str (Str.ofString "[")) (V.str (Txt.join (Str.ofString ",") ps)) H2 _
        refine w_add_str (by rw [hjl]; show 1 + x.length ≤ _; omega) ?_
        refine w_add_str (by rw [app_len, hjl]; show 1 + x.length + 1 ≤ _; omega) ?_
        have e : (Str.ofString "[" ++ Txt.join (Str.ofString ",") ps ++ Str.ofString "]") = ⟨(91 :: (x ++ [93])).toArray⟩ := by
          refine str_ext ?_
          rw [app_l, app_l]
          rw [show (Txt.join (Str.ofString ",") ps).cps.toList = x from hp3]
          rfl
        rw [e]
        exact q H2 e2
    | false =>
      walk_at "go"
      have hshort : shortS d := by
        cases d <;> first | trivial | skip
        rename_i s0
        show s0.length ≤ 1000000
        simp only [wr] at hw
        split at hw
        · rename_i hw2
          have := Option.some.inj hw
          rw [← len_l, this]
          omega
        · split at hw
          · rename_i h0
            rw [← len_l, h0]
            decide
          · cases hw
      refine ⟨v, d, rfl, hd, hshort, fun H1 e1 => ?_⟩
      walk_at "go"
      have hd1 := Dp.same e1 d v hd
      cases d with
      | tuple ds => cases hT
      | none => cases hw
      | list ds => cases hw
      | dict ds => cases hw
      | bool b =>
        cases hd
        walk_at "go"
        simp only [wr] at hw
        cases hw
        refine w_dget ?_
        refine w_dispC (kvs := [(.inr "True", .str "+"), (.inr "False", .str "-"), (.inr "", .str ".")]) (by decide) fun p H3 n3 e3 h3 => ?_
        walk_at "go"
        have qq := q H3 (e1.trans e3)
        cases b with
        | true => exact w_dgetAt (k := .inr "True") h3 rfl qq
        | false => exact w_dgetAt (k := .inr "False") h3 rfl qq
      | int i =>
        cases hd
        walk_at "go"
        simp only [okI] at hi
        refine w_str_int (Nat.lt_of_lt_of_le hi pow43) ?_
        simp only [wr] at hw
        cases hw
        have := q H1 e1
        unfold digs at this
        rw [str_back] at this
        exact this
      | str s0 =>
        cases hd
        walk_at "go"
        simp only [wr] at hw
        show if isWordT s0.cps.toList = true then _ else _
        cases hw2 : isWordT s0.cps.toList with
        | true =>
          rw [hw2] at hw
          cases hw
          walk_at "go"
          have := q H1 e1
          rw [str_back] at this
          exact this
        | false =>
          rw [hw2] at hw
          simp only [Bool.false_eq_true, if_false] at hw
          split at hw
          · rename_i h0
            cases hw
            have hs0 : s0 = Str.ofString "" := str_ext h0
            subst hs0
            walk_at "go"
            refine w_dget ?_
            refine w_dispC (kvs := [(.inr "True", .str "+"), (.inr "False", .str "-"), (.inr "", .str ".")]) (by decide) fun p H3 n3 e3 h3 => ?_
            walk_at "go"
            exact w_dgetAt (k := .inr "") h3 rfl (q H3 (e1.trans e3))
          · cases hw
end
end K53

set_option exponentiation.threshold 256
set_option Elab.async false
set_option linter.all false
set_option maxRecDepth 100000
set_option maxHeartbeats 4000000
set_option exponentiation.threshold 10
namespace K53
open PySem PySem.Spec PyProof.Rows L2 Lay DataM PySem.NumText
local macro_rules | `(tactic| walk_at "1") => `(tactic| first
  | with_reducible refine w_seq ?_
  | ((with_reducible refine w_var (v := ?vv) ?hv ?_); (case hv => rfl))
  | with_reducible refine w_c ?_
  | with_reducible refine w_m1 ?_
  | with_reducible refine w_isstr ?_
  | with_reducible refine w_bm0 ?_
  | with_reducible refine w_bm ?_
  | with_reducible refine w_gcons ?_
  | with_reducible refine w_gnil ?_
  | ((with_reducible refine w_ty (xs := ?vv) ?hv ?_); (case hv => walk_at "hx"))
  | ((with_reducible refine w_gtup (xs := ?vv) ?hv ?hl ?_); (case hv => walk_at "hx"); (case hl => rfl))
  | with_reducible refine w_for1 ?_
  | with_reducible refine w_for2 ?_
  | with_reducible refine w_for3 ?_
  | with_reducible refine w_forA ?_
  | with_reducible refine w_forE ?_
  | ((with_reducible refine w_aug (x := ?vv) ?hv ?_); (case hv => rfl))
  | with_reducible refine w_op ?_
  | with_reducible refine w_cb ?_
  | with_reducible refine w_acons ?_
  | with_reducible refine w_anil ?_
  | with_reducible refine w_set ?_
  | with_reducible refine w_if ?_
  | with_reducible refine w_test ?_
  | with_reducible refine w_tB ?_
  | with_reducible refine w_bl ?_
  | with_reducible refine w_and ?_
  | with_reducible refine w_or ?_
  | with_reducible refine w_not ?_
  | with_reducible refine w_iteT ?_
  | with_reducible refine w_iteF ?_
  | with_reducible refine w_ret ?_
  | with_reducible refine w_next ?_
  | with_reducible refine w_drop ?_
  | with_reducible refine w_call ?_
  | with_reducible refine w_ifx ?_
  | with_reducible refine w_andV ?_
  | with_reducible refine w_orV ?_
  | with_reducible refine w_notV ?_
  | with_reducible refine w_sl ?_
  | with_reducible refine w_nopart ?_
  | with_reducible refine w_part ?_
  | with_reducible refine w_exint ?_
  | with_reducible refine w_chain ?_
  | with_reducible refine w_par ?_
  | with_reducible refine w_two ?_
  | with_reducible refine w_par3 ?_
  | with_reducible refine w_three ?_
  | with_reducible refine w_asg ?_
  | with_reducible refine w_gset ?_
  | with_reducible refine w_retN ?_
  | with_reducible refine w_brk ?_
  | with_reducible refine w_cont ?_
  | with_reducible refine w_un ?_
  | with_reducible refine w_neg ?_
  | with_reducible refine w_callS ?_
  | with_reducible refine w_tup0 ?_
  | with_reducible refine w_lst0 ?_
  | with_reducible refine w_fld0 ?_
  | with_reducible refine w_sfld ?_
  | with_reducible refine w_gsub ?_
  | with_reducible refine w_iAny ?_
  | with_reducible refine w_iR1 ?_
  | with_reducible refine w_make ?_
  | with_reducible refine w_meth ?_)
local macro_rules | `(tactic| walk_at "2") => `(tactic| first
  | with_reducible refine w_add_int ?_
  | with_reducible refine w_sub ?_
  | ((with_reducible refine w_add_str ?hl ?_); (case hl => walk_at "len"))
  | ((with_reducible refine w_mod ?hl ?_); (case hl => first | decide | omega))
  | ((with_reducible refine w_fdiv ?h1 ?h2 ?_); (case h1 => first | decide | omega); (case h2 => first | decide | omega))
  | ((with_reducible refine w_mulR ?h1 ?h2 ?_); (case h1 => first | decide | omega); (case h2 => first | decide | omega))
  | ((with_reducible refine w_mulL ?h1 ?h2 ?_); (case h1 => first | decide | omega); (case h2 => first | decide | omega))
  | with_reducible refine w_iadd_int ?_
  | ((with_reducible refine w_iadd_str ?hl ?_); (case hl => walk_at "len"))
  | ((with_reducible refine w_mk ?hl ?_); (case hl => walk_at "len"))
  | with_reducible refine w_lt_int ?_
  | with_reducible refine w_lt_str ?_
  | with_reducible refine w_le_int ?_
  | with_reducible refine w_le_str ?_
  | with_reducible refine w_gt ?_
  | with_reducible refine w_ge ?_
  | with_reducible refine w_eq_int ?_
  | with_reducible refine w_eq_str ?_
  | with_reducible refine w_ne_int ?_
  | with_reducible refine w_ne_str ?_
  | ((with_reducible refine w_isInt (d := ?vd) ?hd ?_); (case hd => walk_at "dp"))
  | ((with_reducible refine w_isBool (d := ?vd) ?hd ?_); (case hd => walk_at "dp"))
  | ((with_reducible refine w_isStr (d := ?vd) ?hd ?_); (case hd => walk_at "dp"))
  | ((with_reducible refine w_isTup (d := ?vd) ?hd ?_); (case hd => walk_at "dp"))
  | ((with_reducible refine w_isLst (d := ?vd) ?hd ?_); (case hd => walk_at "dp"))
  | refine w_in_str ?_
  | refine w_nin_str ?_
  | ((with_reducible refine w_ixL (xs := ?vv) (y := ?vr) ?h ?ha ?_); (case h => walk_at "hx"); (case ha => rfl))
  | with_reducible refine w_is ?_
  | with_reducible refine w_isnot ?_
  | ((with_reducible refine w_len_str ?hl ?_); (case hl => walk_at "len"))
  | ((with_reducible refine w_len (xs := ?vv) ?hl ?_); (case hl => walk_at "hx"))
  | with_reducible refine w_int_int ?_
  | with_reducible refine w_str_str ?_
  | with_reducible refine w_abs ?_
  | ((with_reducible refine w_sl_str ?hl ?_); (case hl => walk_at "len"))
  | ((with_reducible refine w_fldAt (C := ?vC) (dx := ?vdx) (fs := ?vfs) (v := ?vv) ?h1 ?h2 ?h3 ?h4 ?_); (case h1 => walk_at "hx"); (case h2 => assumption); (case h3 => assumption); (case h4 => rfl))
  | ((with_reducible refine w_methAt (dx := ?vdx) (fs := ?vfs) ?h1 ?h2 ?_); (case h1 => walk_at "hx"); (case h2 => rfl))
  | ((with_reducible refine w_iteP ?h1 ?_); (case h1 => walk_at "yes"))
  | ((with_reducible refine w_iteN ?h1 ?_); (case h1 => walk_at "no")))
local macro_rules | `(tactic| walk_at "yes") => `(tactic| first | assumption | ((with_reducible refine bnotT ?_); walk_at "no") | (refine decide_eq_true ?_; first | assumption | omega) | exact rfl)
local macro_rules | `(tactic| walk_at "no") => `(tactic| first | assumption | ((with_reducible refine bnotF ?_); walk_at "yes") | (refine decide_eq_false ?_; first | assumption | omega) | exact rfl)
local macro_rules | `(tactic| walk_at "len") => `(tactic| first | assumption | exact Nat.le_of_ble_eq_true rfl | omega | decide | (simp only [List.length_append, List.length_cons, List.length_nil, List.length_map]; omega))
local macro_rules | `(tactic| walk_at "ne") => `(tactic| first | assumption | (refine Ne.symm ?_; assumption))
local macro_rules | `(tactic| walk_at "hx") => `(tactic| first
  | assumption
  | exact upd_same
  | ((with_reducible refine sqa_l ?_); walk_at "hx")
  | ((with_reducible refine sqa_t ?_); walk_at "hx")
  | ((with_reducible refine SqL.of ?_); walk_at "hx")
  | ((with_reducible refine SqT.of ?_); walk_at "hx")
  | ((with_reducible refine at_same (by assumption) ?_); walk_at "hx")
  | ((with_reducible refine at_but (by assumption) ?hne ?_); (case hne => walk_at "ne"); walk_at "hx")
  | ((with_reducible refine Txt.tup (by assumption) _ _ ?_); walk_at "hx")
  | ((with_reducible refine Same.seq (by assumption) ?_); walk_at "hx")
  | ((with_reducible refine Same.seqT (by assumption) ?_); walk_at "hx")
  | ((with_reducible refine Dp.same (by assumption) _ _ ?_); walk_at "hx")
  | ((with_reducible refine DpAll.same (by assumption) _ _ ?_); walk_at "hx"))
local macro_rules | `(tactic| walk_at "go") => `(tactic| repeat (first | walk_at "1" | walk_at "2"))
local macro_rules | `(tactic| walk_at "dp") => `(tactic| first | exact .int _ | exact .str _ | exact .bl _ | exact .non | walk_at "hx")

section
variable {P : Program} {w : World} {K : PySem.W.Frag} {mg : Str → Option Value} {base : Heap} {CM CR : Addr}
def lenB : Nat → Nat
  | 0 => 42
  | n + 1 => 3 * lenB n + 6
structure Fine (n B : Nat) (d : PyData) (l : Tx) : Prop where
  wr : wr d = some l
  ok : okI d
  dep : dep d ≤ n
  len : l.length ≤ B
  runs : Runs 42 l
  no : ∀ c ∈ l, c ≠ 59
theorem Fine.mono {n m B C : Nat} {d : PyData} {l : Tx} (h : Fine n B d l) (h1 : n ≤ m) (h2 : B ≤ C) : Fine m C d l := ⟨h.wr, h.ok, Nat.le_trans h.dep h1, Nat.le_trans h.len h2, h.runs, h.no⟩
theorem fine_str {n : Nat} {s : Str} (h : isWordT s.cps.toList = true) : Fine n 42 (.str s) s.cps.toList := by
  have hw := h
  unfold isWordT at h
  simp only [Bool.and_eq_true, decide_eq_true_eq, List.all_eq_true, Bool.or_eq_true] at h
  refine ⟨by simp only [DataM.wr, if_pos hw], by simp only [okI], by simp only [DataM.dep]; omega, by omega, Runs.of_len (by omega), fun c hc => ?_⟩
  have := h.2 c hc
  unfold isLet isDig at this
  simp only [decide_eq_true_eq] at this
  omega
theorem fine_int {n : Nat} {i : Int} (h : i.natAbs < 10 ^ 41) : Fine n 42 (.int i) (digs i) := by
  have hl : (digs i).length ≤ 42 := by
    cases i with
    | ofNat m =>
      rw [show (Int.ofNat m) = (m : Int) from rfl, digs_nat]
      have := nats_len m 41 (by decide) h
      omega
    | negSucc m =>
      rw [digs_neg, List.length_cons]
      have := nats_len (m + 1) 41 (by decide) h
      omega
  refine ⟨by simp only [DataM.wr], ?_, by simp only [DataM.dep]; omega, hl, Runs.of_len hl, fun c hc => ?_⟩
  · simp only [okI]
    exact Nat.lt_of_lt_of_le h (Nat.pow_le_pow_right (by decide) (by decide))
  · cases i with
    | ofNat m =>
      rw [show (Int.ofNat m) = (m : Int) from rfl, digs_nat] at hc
      have := nats_all m c hc
      omega
    | negSucc m =>
      rw [digs_neg] at hc
      rcases List.mem_cons.mp hc with rfl | hc
      · decide
      · have := nats_all (m + 1) c hc
        omega
theorem fine_bool {n : Nat} (b : Bool) : ∃ l, Fine n 42 (.bool b) l := by
  cases b with
  | true => exact ⟨[43], rfl, by simp only [okI], by simp only [DataM.dep]; omega, by decide, Runs.of_len (by decide), by decide⟩
  | false => exact ⟨[45], rfl, by simp only [okI], by simp only [DataM.dep]; omega, by decide, Runs.of_len (by decide), by decide⟩
theorem fine_none {n : Nat} : Fine n 42 (.str "") [46] := ⟨rfl, by simp only [okI], by simp only [DataM.dep]; omega, by decide, Runs.of_len (by decide), by decide⟩
theorem fines {n B : Nat} : ∀ ds : List PyData, (∀ d ∈ ds, ∃ l, Fine n B d l) → ∃ x, wrj ds = some x ∧ okIs ds ∧ depAll ds ≤ n ∧ x.length ≤ ds.length * (B + 1) ∧ Runs 42 x ∧ ∀ c ∈ x, c ≠ 59
  | [], _ => ⟨[], rfl, by simp only [okIs], by simp only [depAll]; omega, by simp, Runs.of_len (by simp), fun c hc => by cases hc⟩
  | d :: ds, h => by
    obtain ⟨a, h1⟩ := h d List.mem_cons_self
    obtain ⟨x, h2, h3, h4, h5, h6, h7⟩ := fines ds fun e he => h e (List.mem_cons_of_mem _ he)
    refine ⟨if ds.isEmpty then a else a ++ 44 :: x, ?_, by simp only [okIs]; exact ⟨h1.ok, h3⟩, ?_, ?_, ?_, ?_⟩
    · simp only [wrj, h1.wr, h2]
      rfl
    · have := h1.dep
      simp only [depAll]
      omega
    · have := h1.len
      rw [List.length_cons, Nat.succ_mul]
      split
      · omega
      · rw [List.length_append, List.length_cons]
        omega
    · split
      · exact h1.runs
      · exact Runs.sep rfl h1.runs h6
    · intro c hc
      split at hc
      · exact h1.no c hc
      · rcases List.mem_append.mp hc with hc | hc
        · exact h1.no c hc
        · rcases List.mem_cons.mp hc with rfl | hc
          · decide
          · exact h7 c hc
theorem fine_tup {n B : Nat} {ds : List PyData} (h : ∀ d ∈ ds, ∃ l, Fine n B d l) (hl : ds.length ≤ 3) : ∃ l, Fine (n + 1) (3 * B + 6) (.tuple ds) l := by
  obtain ⟨x, h2, h3, h4, h5, h6, h7⟩ := fines ds h
  have hm : ds.length * (B + 1) ≤ 3 * (B + 1) := Nat.mul_le_mul_right _ hl
  refine ⟨91 :: (x ++ [93]), by simp only [DataM.wr, h2]; rfl, by simp only [okI]; exact h3, by simp only [DataM.dep]; omega, ?_, ?_, ?_⟩
  · simp only [List.length_cons, List.length_append, List.length_nil]
    omega
  · exact Runs.sep (a := []) rfl (Runs.of_len (by simp)) (Runs.sep (b := []) rfl h6 (Runs.of_len (by simp)))
  · intro c hc
    rcases List.mem_cons.mp hc with rfl | hc
    · decide
    · rcases List.mem_append.mp hc with hc | hc
      · exact h7 c hc
      · rw [List.mem_singleton.mp hc]
        decide
def costB : Nat → Nat
  | 0 => 3
  | n + 1 => 3 * costB n + 3
def spData (K : PySem.W.Frag) (n : Nat) : Sp := fun vs H Q _ => ∃ pd pc c, vs = [.ref pd, .int (n : Nat)] ∧ Dr H pd pc c ∧ c + costB n ≤ 900000 ∧
  ∀ v d l H', Fine n (lenB n) d l → Dp K H' v d → Lay.fz d = true → But pd H H' → Txt H H' → Dr H' pd pc (c + costB n) → Q v H'
theorem cost3 : ∀ n, 3 ≤ costB n
  | 0 => Nat.le_refl _
  | n + 1 => by
    have := cost3 n
    simp only [costB]
    omega
theorem len42 : ∀ n, 42 ≤ lenB n
  | 0 => Nat.le_refl _
  | n + 1 => by
    have := len42 n
    simp only [lenB]
    omega
theorem ok_law_data_step {f : Addr} {fd : FuncData} {n : Nat} {sp : Sp} (T : Facts w K mg CM) (F : Fun K "_law_data" "_law_data" s__law_data f fd) (c__law_take : Fn0 P w K mg base 1 "_law_take" (spTakeN K))
    (c__law_data : Fn0 P w K mg base (n + 1) "_law_data" sp) (hsp : ∀ m, n = m + 1 → sp = spData K m) : FnOk P w K mg base CX0 (n + 2) f fd ["draw", "deep"] (spData K n) := by
  refine F.ok sc__law_data (fun vs H Q E h => ?_) (fun cdv A outer s H vs Q E hr h => ?_)
  · obtain ⟨pd, pc, c, rfl, _⟩ := h
    rfl
  · obtain ⟨pd, pc, c, rfl, hD, hc, q⟩ := h
    refine ⟨_, (pss_cons (ps_set (i := 2) sc__law_data.nd rfl (by first | exact Or.inl rfl | exact Or.inr rfl) (pe_f0 c__law_take hr (by first | decide | omega) (pa_cons (pv 0) (pa_cons pe_int pa_nil))))
    (pss_mid (ps_if (PW.pt (pw_and (pt_cmpR op_gtA (pv 1) pe_int (nomark _)) (pw_and1 (pt_cmpR op_ltA (pv 2) pe_int (nomark _))))) (pss_one (ps_ret (pe_callTy (call_tupA (K := K)) (by rfl) T.b_tuple (by decide +kernel) (pa_cons (pe_lc (own := [("turn", 3)]) (g := gName 3) (tt := tYes) rfl sc__law_data.nd (pi_range1 (by rfl) T.b_range (pa_cons (pe_f0 c__law_take hr (by first | decide | omega) (pa_cons (pv 0) (pa_cons pe_int pa_nil))) pa_nil)) (blkOk_by (N := N__law_data) (sc := defScope s__law_data) (by decide +kernel)) (fun _ _ _ _ _ => pg_name (i := 3) sc__law_data.nd rfl (Or.inl rfl)) (fun _ _ _ _ _ => pts_nil) (fun _ _ _ _ _ => (pe_f0 c__law_data hr (by first | decide | omega) (pa_cons (pv 0) (pa_cons (pe_op op_subA (pv 1) pe_int) pa_nil))))) pa_nil)))) pss_nil)
    (pss_cons (ps_if (pt_cmpR (op_eqA (K := K) hr.units) (pv 2) pe_int (nomark _)) (pss_one (ps_ret (pe_ifExp (pt_cmpR op_gtA (pe_f0 c__law_take hr (by first | decide | omega) (pa_cons (pv 0) (pa_cons pe_int pa_nil))) pe_int (nomark _)) (pe_slice (sl_A (K := K)) pe_str (po_some (pe_f0 c__law_take hr (by first | decide | omega) (pa_cons (pv 0) (pa_cons pe_int pa_nil)))) po_none) pe_str))) pss_nil)
    (pss_one (ps_ret (pe_ix (ix_A (K := K)) (pe_lstG (pa_cons pe_int (pa_cons (pe_un un_neg pe_int) (pa_cons pe_int (pa_cons (pe_op op_powA pe_int pe_int) (pa_cons (pe_un un_neg (pe_op op_powA pe_int pe_int)) (pa_cons pe_int (pa_cons pe_bl (pa_cons pe_bl (pa_cons pe_str pa_nil)))))))))) (pe_f0 c__law_take hr (by first | decide | omega) (pa_cons (pv 0) (pa_cons pe_int pa_nil))) (fun _ _ => rfl))))))), ?_⟩
    try dsimp only [cxOf]
    refine w_start (show _ = [some _, some _, none, none] from rfl) ?_
    have hc3 := cost3 n
    have hl42 := len42 n
    have atom : ∀ v d l c' H', Fine n 42 d l → Dp K H' v d → But pd H H' → Txt H H' → Dr H' pd pc c' → c' ≤ c + 3 → Q v H' := fun v d l c' H' h1 h2 h3 h4 h5 h6 =>
      q v d l H' (h1.mono (Nat.le_refl _) hl42) h2 (okP_fz d (wr_okP d l h1.wr)) h3 h4 (h5.mono (by omega))
    walk_at "go"
    refine ⟨pd, pc, c, 6, rfl, by decide, by decide, hD, by omega, fun k H1 hk b1 t1 D1 => ?_⟩
    walk_at "go"
    refine w_mid (fun σ' H' => H1 = H' ∧ σ' = [some (.ref pd), some (.int (n : Nat)), some (.int (k : Nat)), none]) ?_ ?_
    · walk_at "go"
      refine w_ite (fun h1 => ?_) (fun h1 => ?_)
      · have h1' : 0 < n := by
          have := of_decide_eq_true h1
          omega
        obtain ⟨m, rfl⟩ : ∃ m, n = m + 1 := ⟨n - 1, by omega⟩
        cases hsp m rfl
        walk_at "go"
        refine w_ite (fun h2 => ?_) (fun h2 => ?_)
        · walk_at "go"
          refine w_lcI ?_
          walk_at "go"
          refine ⟨pd, pc, c + 1, 4, rfl, by decide, by decide, D1, by omega, fun j H2 hj b2 t2 D2 => ?_⟩
          walk_at "go"
          refine lr1_of (n := j) rfl (by omega) ?_
          have hcs : costB (m + 1) = 3 * costB m + 3 := rfl
          refine lcR (fun v => rfl) (fun L nL => ⟨fun i acc H' => i ≤ j ∧ acc.length = i ∧ But pd H2 H' ∧ Txt H2 H' ∧ Dr H' pd pc (c + 2 + i * costB m) ∧ ∃ ds, DpAll K H' acc ds ∧ fzAll ds = true ∧ ds.length = i ∧ ∀ d ∈ ds, ∃ l, Fine m (lenB m) d l,
            fun H3 e3 h3 => ⟨Nat.zero_le _, rfl, But.same e3, Txt.same e3, (D2.same e3).mono (by omega), [], .nil, rfl, rfl, fun d hd => by cases hd⟩, fun _ _ _ _ => trivial, fun i y acc H3 R hy p hL hR => ?_, fun acc H3 p hL => ?_⟩)
          · obtain ⟨hij, rfl⟩ := hy
            obtain ⟨p1, p2, p3, p4, p5, ds, p6, p7, p8, p9⟩ := p
            have hnew := D2.new nL
            have him : (i + 1) * costB m ≤ 3 * costB m := Nat.mul_le_mul_right _ (by omega)
            have him2 : (i + 1) * costB m = i * costB m + costB m := Nat.succ_mul i (costB m)
            show tCall _ _ _ _ [some (V.ref pd), some (.int ((m + 1 : Nat) : Int)), some (.int (k : Nat)), some (.int (i : Nat))] H3 R
            walk_at "go"
            refine ⟨pd, pc, c + 2 + i * costB m, ?_, p5, by omega, fun v d l H4 fd hv hfz b4 t4 D4 => ?_⟩
            · rw [show (((m + 1 : Nat) : Int) - 1) = (m : Nat) by omega]
            · refine hR v H4 (b4 _ _ (Ne.symm hnew.1) hL) (by omega) fun H5 b5 t5 h5 => ?_
              have hds := DpAll.txt t4 _ _ p7 p6
              refine ⟨hij, by simp [p2], but_new (p3.trans b4) nL b5, (p4.trans t4).trans t5, (D4.but b5 hnew.1 hnew.2).mono (by omega), ds ++ [d], DpAll.append (DpAll.txt t5 _ _ p7 hds) (.cons (Dp.txt t5 d v hfz hv) .nil), fzAll_app p7 (fzAll_one hfz), by simp [p8], fun x hx => ?_⟩
              rcases List.mem_append.mp hx with hx | hx
              · exact p9 x hx
              · rw [List.mem_singleton.mp hx]
                exact ⟨l, fd⟩
          · obtain ⟨p1, p2, p3, p4, p5, ds, p6, p7, p8, p9⟩ := p
            walk_at "go"
            refine w_tupL (SqL.of hL) ?_
            intro pt H4 n4 e4 h4
            have hjm : j * costB m ≤ 3 * costB m := Nat.mul_le_mul_right _ (by omega)
            obtain ⟨l, hf⟩ := fine_tup p9 (by omega)
            exact q (.ref pt) (.tuple ds) l H4 hf (.tup (SqT.of h4) (DpAll.same e4 _ _ p6)) (by simp only [Lay.fz]; exact p7) ((b1.trans b2).trans (p3.trans (But.same e4))) ((t1.trans t2).trans (p4.trans (Txt.same e4))) ((p5.same e4).mono (by omega))
        · walk_at "go"
          exact ⟨rfl, rfl⟩
      · walk_at "go"
        exact ⟨rfl, rfl⟩
    · rintro σ' H' ⟨rfl, rfl⟩
      walk_at "go"
      refine w_ite (fun h1 => ?_) (fun h1 => ?_)
      · walk_at "go"
        refine ⟨pd, pc, c + 1, 4, rfl, by decide, by decide, D1, by omega, fun j H2 hj b2 t2 D2 => ?_⟩
        walk_at "go"
        refine w_ite (fun h2 => ?_) (fun h2 => ?_)
        · walk_at "go"
          refine ⟨pd, pc, c + 2, 3, rfl, by decide, by decide, D2, by omega, fun i H3 hi b3 t3 D3 => ?_⟩
          walk_at "go"
          have hstr : isWordT (cutS (Str.ofString "abz9") (some (i : Int)) none).cps.toList = true := by
            rw [cut_lo]
            have hi3 : i = 0 ∨ i = 1 ∨ i = 2 := by omega
            rcases hi3 with rfl | rfl | rfl <;> decide
          exact atom _ _ _ _ H3 (fine_str hstr) (.str _) ((b1.trans b2).trans b3) ((t1.trans t2).trans t3) D3 (by omega)
        · walk_at "go"
          exact atom _ _ _ _ H2 (fine_str (s := "a23456789012") (by decide)) (.str _) (b1.trans b2) (t1.trans t2) D2 (by omega)
      · walk_at "go"
        refine w_pow ⟨by decide, by decide, by decide⟩ ?_
        walk_at "go"
        refine w_pow ⟨by decide, by decide, by decide⟩ ?_
        walk_at "go"
        intro L H2 n2 e2 h2
        walk_at "go"
        refine ⟨pd, pc, c + 1, 9, rfl, by decide, by decide, D1.same e2, by omega, fun i H3 hi b3 t3 D3 => ?_⟩
        have hLp := (D1.new n2).1
        have h3 := b3 _ _ (Ne.symm hLp) h2
        have bb := b1.trans ((But.same e2).trans b3)
        have tt := t1.trans ((Txt.same e2).trans t3)
        have hi9 : i = 0 ∨ i = 1 ∨ i = 2 ∨ i = 3 ∨ i = 4 ∨ i = 5 ∨ i = 6 ∨ i = 7 ∨ i = 8 := by omega
        rcases hi9 with rfl | rfl | rfl | rfl | rfl | rfl | rfl | rfl | rfl
        · exact w_ix (.inl (SqL.of h3)) (atI_nat (j := 0) rfl) (atom _ _ _ _ H3 (fine_int (by decide +kernel)) (.int _) bb tt D3 (by omega))
        · exact w_ix (.inl (SqL.of h3)) (atI_nat (j := 1) rfl) (atom _ _ _ _ H3 (fine_int (by decide +kernel)) (.int _) bb tt D3 (by omega))
        · exact w_ix (.inl (SqL.of h3)) (atI_nat (j := 2) rfl) (atom _ _ _ _ H3 (fine_int (by decide +kernel)) (.int _) bb tt D3 (by omega))
        · exact w_ix (.inl (SqL.of h3)) (atI_nat (j := 3) rfl) (atom _ _ _ _ H3 (fine_int (by decide +kernel)) (.int _) bb tt D3 (by omega))
        · exact w_ix (.inl (SqL.of h3)) (atI_nat (j := 4) rfl) (atom _ _ _ _ H3 (fine_int (by decide +kernel)) (.int _) bb tt D3 (by omega))
        · exact w_ix (.inl (SqL.of h3)) (atI_nat (j := 5) rfl) (atom _ _ _ _ H3 (fine_int (by decide +kernel)) (.int _) bb tt D3 (by omega))
        · obtain ⟨l, hl⟩ := fine_bool (n := n) true
          exact w_ix (.inl (SqL.of h3)) (atI_nat (j := 6) rfl) (atom _ _ _ _ H3 hl (.bl _) bb tt D3 (by omega))
        · obtain ⟨l, hl⟩ := fine_bool (n := n) false
          exact w_ix (.inl (SqL.of h3)) (atI_nat (j := 7) rfl) (atom _ _ _ _ H3 hl (.bl _) bb tt D3 (by omega))
        · exact w_ix (.inl (SqL.of h3)) (atI_nat (j := 8) rfl) (atom _ _ _ _ H3 fine_none (.str _) bb tt D3 (by omega))
end
end K53

set_option exponentiation.threshold 256
set_option Elab.async false
set_option linter.all false
set_option maxRecDepth 100000
set_option maxHeartbeats 4000000
set_option exponentiation.threshold 10
namespace K53
open PySem PySem.Spec PyProof.Rows L2 Lay DataM PySem.NumText
local macro_rules | `(tactic| walk_at "1") => `(tactic| first
  | with_reducible refine w_seq ?_
  | ((with_reducible refine w_var (v := ?vv) ?hv ?_); (case hv => rfl))
  | with_reducible refine w_c ?_
  | with_reducible refine w_m1 ?_
  | with_reducible refine w_isstr ?_
  | with_reducible refine w_bm0 ?_
  | with_reducible refine w_bm ?_
  | with_reducible refine w_gcons ?_
  | with_reducible refine w_gnil ?_
  | ((with_reducible refine w_ty (xs := ?vv) ?hv ?_); (case hv => walk_at "hx"))
  | ((with_reducible refine w_gtup (xs := ?vv) ?hv ?hl ?_); (case hv => walk_at "hx"); (case hl => rfl))
  | with_reducible refine w_for1 ?_
  | with_reducible refine w_for2 ?_
  | with_reducible refine w_for3 ?_
  | with_reducible refine w_forA ?_
  | with_reducible refine w_forE ?_
  | ((with_reducible refine w_aug (x := ?vv) ?hv ?_); (case hv => rfl))
  | with_reducible refine w_op ?_
  | with_reducible refine w_cb ?_
  | with_reducible refine w_acons ?_
  | with_reducible refine w_anil ?_
  | with_reducible refine w_set ?_
  | with_reducible refine w_if ?_
  | with_reducible refine w_test ?_
  | with_reducible refine w_tB ?_
  | with_reducible refine w_bl ?_
  | with_reducible refine w_and ?_
  | with_reducible refine w_or ?_
  | with_reducible refine w_not ?_
  | with_reducible refine w_iteT ?_
  | with_reducible refine w_iteF ?_
  | with_reducible refine w_ret ?_
  | with_reducible refine w_next ?_
  | with_reducible refine w_drop ?_
  | with_reducible refine w_call ?_
  | with_reducible refine w_ifx ?_
  | with_reducible refine w_andV ?_
  | with_reducible refine w_orV ?_
  | with_reducible refine w_notV ?_
  | with_reducible refine w_sl ?_
  | with_reducible refine w_nopart ?_
  | with_reducible refine w_part ?_
  | with_reducible refine w_exint ?_
  | with_reducible refine w_chain ?_
  | with_reducible refine w_par ?_
  | with_reducible refine w_two ?_
  | with_reducible refine w_par3 ?_
  | with_reducible refine w_three ?_
  | with_reducible refine w_asg ?_
  | with_reducible refine w_gset ?_
  | with_reducible refine w_retN ?_
  | with_reducible refine w_brk ?_
  | with_reducible refine w_cont ?_
  | with_reducible refine w_un ?_
  | with_reducible refine w_neg ?_
  | with_reducible refine w_callS ?_
  | with_reducible refine w_tup0 ?_
  | with_reducible refine w_lst0 ?_
  | with_reducible refine w_fld0 ?_
  | with_reducible refine w_sfld ?_
  | with_reducible refine w_gsub ?_
  | with_reducible refine w_iAny ?_
  | with_reducible refine w_iR1 ?_
  | with_reducible refine w_make ?_
  | with_reducible refine w_meth ?_)
local macro_rules | `(tactic| walk_at "2") => `(tactic| first
  | with_reducible refine w_add_int ?_
  | with_reducible refine w_sub ?_
  | ((with_reducible refine w_add_str ?hl ?_); (case hl => walk_at "len"))
  | ((with_reducible refine w_mod ?hl ?_); (case hl => first | decide | omega))
  | ((with_reducible refine w_fdiv ?h1 ?h2 ?_); (case h1 => first | decide | omega); (case h2 => first | decide | omega))
  | ((with_reducible refine w_mulR ?h1 ?h2 ?_); (case h1 => first | decide | omega); (case h2 => first | decide | omega))
  | ((with_reducible refine w_mulL ?h1 ?h2 ?_); (case h1 => first | decide | omega); (case h2 => first | decide | omega))
  | with_reducible refine w_iadd_int ?_
  | ((with_reducible refine w_iadd_str ?hl ?_); (case hl => walk_at "len"))
  | ((with_reducible refine w_mk ?hl ?_); (case hl => walk_at "len"))
  | with_reducible refine w_lt_int ?_
  | with_reducible refine w_lt_str ?_
  | with_reducible refine w_le_int ?_
  | with_reducible refine w_le_str ?_
  | with_reducible refine w_gt ?_
  | with_reducible refine w_ge ?_
  | with_reducible refine w_eq_int ?_
  | with_reducible refine w_eq_str ?_
  | with_reducible refine w_ne_int ?_
  | with_reducible refine w_ne_str ?_
  | ((with_reducible refine w_isInt (d := ?vd) ?hd ?_); (case hd => walk_at "dp"))
  | ((with_reducible refine w_isBool (d := ?vd) ?hd ?_); (case hd => walk_at "dp"))
  | ((with_reducible refine w_isStr (d := ?vd) ?hd ?_); (case hd => walk_at "dp"))
  | ((with_reducible refine w_isTup (d := ?vd) ?hd ?_); (case hd => walk_at "dp"))
  | ((with_reducible refine w_isLst (d := ?vd) ?hd ?_); (case hd => walk_at "dp"))
  | refine w_in_str ?_
  | refine w_nin_str ?_
  | ((with_reducible refine w_ixL (xs := ?vv) (y := ?vr) ?h ?ha ?_); (case h => walk_at "hx"); (case ha => rfl))
  | with_reducible refine w_is ?_
  | with_reducible refine w_isnot ?_
  | ((with_reducible refine w_len_str ?hl ?_); (case hl => walk_at "len"))
  | ((with_reducible refine w_len (xs := ?vv) ?hl ?_); (case hl => walk_at "hx"))
  | with_reducible refine w_int_int ?_
  | with_reducible refine w_str_str ?_
  | with_reducible refine w_abs ?_
  | ((with_reducible refine w_sl_str ?hl ?_); (case hl => walk_at "len"))
  | ((with_reducible refine w_fldAt (C := ?vC) (dx := ?vdx) (fs := ?vfs) (v := ?vv) ?h1 ?h2 ?h3 ?h4 ?_); (case h1 => walk_at "hx"); (case h2 => assumption); (case h3 => assumption); (case h4 => rfl))
  | ((with_reducible refine w_methAt (dx := ?vdx) (fs := ?vfs) ?h1 ?h2 ?_); (case h1 => walk_at "hx"); (case h2 => rfl))
  | ((with_reducible refine w_iteP ?h1 ?_); (case h1 => walk_at "yes"))
  | ((with_reducible refine w_iteN ?h1 ?_); (case h1 => walk_at "no")))
local macro_rules | `(tactic| walk_at "yes") => `(tactic| first | assumption | ((with_reducible refine bnotT ?_); walk_at "no") | (refine decide_eq_true ?_; first | assumption | omega) | exact rfl)
local macro_rules | `(tactic| walk_at "no") => `(tactic| first | assumption | ((with_reducible refine bnotF ?_); walk_at "yes") | (refine decide_eq_false ?_; first | assumption | omega) | exact rfl)
local macro_rules | `(tactic| walk_at "len") => `(tactic| first | assumption | exact Nat.le_of_ble_eq_true rfl | omega | decide | (simp only [List.length_append, List.length_cons, List.length_nil, List.length_map]; omega))
local macro_rules | `(tactic| walk_at "ne") => `(tactic| first | assumption | (refine Ne.symm ?_; assumption))
local macro_rules | `(tactic| walk_at "hx") => `(tactic| first
  | assumption
  | exact upd_same
  | ((with_reducible refine sqa_l ?_); walk_at "hx")
  | ((with_reducible refine sqa_t ?_); walk_at "hx")
  | ((with_reducible refine SqL.of ?_); walk_at "hx")
  | ((with_reducible refine SqT.of ?_); walk_at "hx")
  | ((with_reducible refine at_same (by assumption) ?_); walk_at "hx")
  | ((with_reducible refine at_but (by assumption) ?hne ?_); (case hne => walk_at "ne"); walk_at "hx")
  | ((with_reducible refine Txt.tup (by assumption) _ _ ?_); walk_at "hx")
  | ((with_reducible refine Same.seq (by assumption) ?_); walk_at "hx")
  | ((with_reducible refine Same.seqT (by assumption) ?_); walk_at "hx")
  | ((with_reducible refine Dp.same (by assumption) _ _ ?_); walk_at "hx")
  | ((with_reducible refine DpAll.same (by assumption) _ _ ?_); walk_at "hx"))
local macro_rules | `(tactic| walk_at "go") => `(tactic| repeat (first | walk_at "1" | walk_at "2"))
local macro_rules | `(tactic| walk_at "dp") => `(tactic| first | exact .int _ | exact .str _ | exact .bl _ | exact .non | walk_at "hx")

section
variable {P : Program} {w : World} {K : PySem.W.Frag} {mg : Str → Option Value} {base : Heap} {CM CR : Addr}
structure LAt (K : PySem.W.Frag) (H0 H : Hp) (pr : Addr) (n : Nat) (ls : LS) (rws : List Addr) (dv : V) : Prop where
  ob : H pr = some (.lst (rws.reverse.map .ref))
  row : Paired (RowAt K H0 H pr pr pr n) rws ls.rows
  nod : rws.Nodup
  npr : H0 pr = none
  same : Same H0 H
  dn : ls.ah = false → ∃ p v d, dv = .ref p ∧ H p = some (.lst [v]) ∧ ls.dn = some d ∧ Dp K H v d ∧ Lay.fz d = true ∧ p ≠ pr ∧ p ∉ rws
variable {H0 H H' : Hp} {pr : Addr} {n : Nat} {ls : LS} {rws : List Addr} {dv : V}
theorem LAt.go (z : LAt K H0 H pr n ls rws dv) (e : Same H H') : LAt K H0 H' pr n ls rws dv :=
  ⟨e _ _ z.ob, Paired.mapP z.row fun _ _ q => q.txt (Txt.same e) fun vs h => e _ _ h, z.nod, z.npr, z.same.trans e, fun h => by
    obtain ⟨p, v, d, h1, h2, h3, h4, h5⟩ := z.dn h
    exact ⟨p, v, d, h1, e _ _ h2, h3, Dp.same e d v h4, h5⟩⟩
theorem LAt.fresh {p : Addr} (z : LAt K H0 H pr n ls rws dv) (h : H p = none) : p ≠ pr ∧ p ∉ rws ∧ H0 p = none := by
  refine ⟨fun e => ?_, fun e => ?_, none_same z.same h⟩
  · rw [e, z.ob] at h
    cases h
  · obtain ⟨ds, k⟩ := paired_get z.row p e
    obtain ⟨vs, k1, _⟩ := k.at_
    rw [k1] at h
    cases h
theorem LAt.done {p : Addr} {v : V} {d : PyData} {tk : Tx} (z : LAt K H0 H pr n ls rws dv) (np : H p = none) (e : Same H H') (h : H' p = some (.lst [v])) (hd : Dp K H' v d) (hf : Lay.fz d = true) : LAt K H0 H' pr n ⟨ls.rows, some d, tk, false⟩ rws (.ref p) := by
  have z2 := z.go e
  have hn := z.fresh np
  exact ⟨z2.ob, z2.row, z2.nod, z2.npr, z2.same, fun _ => ⟨p, v, d, rfl, h, rfl, hd, hf, hn.1, hn.2.1⟩⟩
theorem LAt.push {q : Addr} {ah : Bool} {tk : Tx} (z : LAt K H0 H pr n ls rws dv) (hq : H q = some (.lst [])) (n0 : H0 q = none) (n1 : q ∉ rws) (n2 : q ≠ pr) (bt : But pr H H') (t : Txt H H') (h : H' pr = some (.lst (rws.reverse.map .ref ++ [.ref q]))) (ha : ls.ah = true) :
    LAt K H0 H' pr n ⟨[] :: ls.rows, ls.dn, tk, true⟩ (q :: rws) dv := by
  refine ⟨?_, .cons ⟨n2, n2, n2, n0, Nat.zero_le _, rfl, [], bt _ _ n2 hq, .nil⟩ (Paired.mapP z.row fun _ _ q => q.txt t fun vs h => bt _ _ q.nt h), List.nodup_cons.mpr ⟨n1, z.nod⟩, z.npr, same_but z.same bt z.npr, fun h => (by cases h)⟩
  rw [h]
  simp
theorem LAt.row_app {v : V} {d : PyData} {q : Addr} {rest : List Addr} {row : List PyData} {s : List (List PyData)} {dn : Option PyData} {tk tk2 : Tx} {ah : Bool} {vs : List V} (z : LAt K H0 H pr n ⟨row :: s, dn, tk, ah⟩ (q :: rest) dv) (hq : H q = some (.lst vs)) (hv : DpAll K H vs row)
    (hd : Dp K H v d) (hf : Lay.fz d = true) (bt : But q H H') (t : Txt H H') (h : H' q = some (.lst (vs ++ [v]))) : LAt K H0 H' pr (n + 1) ⟨(row ++ [d]) :: s, dn, tk2, true⟩ (q :: rest) dv := by
  have hr := z.row
  cases hr with
  | cons h1 h2 =>
    have hnd := List.nodup_cons.mp z.nod
    refine ⟨bt _ _ (Ne.symm h1.na) z.ob, .cons ?_ ?_, z.nod, z.npr, same_but z.same bt h1.fr, fun h => (by cases h)⟩
    · exact ⟨h1.na, h1.nt, h1.nd, h1.fr, by rw [List.length_append]; exact Nat.succ_le_succ h1.len, fzAll_app h1.fz (fzAll_one hf), _, h, DpAll.append (DpAll.txt t _ _ h1.fz hv) (.cons (Dp.txt t d v hf hd) .nil)⟩
    · exact paired_mem h2 fun x y hx q2 => (q2.txt t fun vs h => bt _ _ (fun e => hnd.1 (e ▸ hx)) h).mono (Nat.le_succ n)
theorem LAt.pop {q : Addr} {rest : List Addr} {row : List PyData} {s : List (List PyData)} {dn : Option PyData} {tk : Tx} {ah : Bool} (z : LAt K H0 H pr n ⟨row :: s, dn, tk, ah⟩ (q :: rest) dv) (bt : But pr H H') (t : Txt H H') (h : H' pr = some (.lst (rest.reverse.map .ref))) :
    LAt K H0 H' pr n ⟨s, dn, tk, ah⟩ rest dv := by
  have hr := z.row
  cases hr with
  | cons h1 h2 =>
    refine ⟨h, Paired.mapP h2 fun _ _ q => q.txt t fun vs h => bt _ _ q.nt h, (List.nodup_cons.mp z.nod).2, z.npr, same_but z.same bt z.npr, fun h => ?_⟩
    obtain ⟨p, v, d, k1, k2, k3, k4, k5, k6, k7⟩ := z.dn h
    exact ⟨p, v, d, k1, bt _ _ k6 k2, k3, Dp.txt t d v k5 k4, k5, k6, fun e => k7 (List.mem_cons_of_mem _ e)⟩
theorem LAt.dps (z : LAt K H0 H pr n ls rws dv) : DpAll K H (rws.reverse.map .ref) (ls.rows.reverse.map .list) := by
  have key : ∀ {rs : List Addr} {ds : List (List PyData)}, Paired (RowAt K H0 H pr pr pr n) rs ds → DpAll K H (rs.reverse.map .ref) (ds.reverse.map .list) := by
    intro rs ds p
    induction p with
    | nil => exact .nil
    | cons h _ ih =>
      obtain ⟨vs, k1, k2⟩ := h.at_
      rw [List.reverse_cons, List.map_append, List.reverse_cons, List.map_append]
      exact DpAll.append ih (.cons (.lst (SqL.of k1) k2) .nil)
  exact key z.row
theorem eqv_nil (xs : List PyData) : PyData.eqv (.list xs) (.list []) = xs.isEmpty := by
  simp only [PyData.eqv]
  cases xs <;> simp [PyData.eqvAll]
theorem rows_shape {B : Nat} (hB : B ≤ 60) : ∀ (rs : List (List PyData)), rowsD B rs → PyData.canLayAll0 (rs.reverse.map .list) = true ∧ PyData.depthAll (rs.reverse.map .list) ≤ B + 1 := by
  have app : ∀ xs ys : List PyData, PyData.canLayAll0 (xs ++ ys) = (PyData.canLayAll0 xs && PyData.canLayAll0 ys) ∧ PyData.depthAll (xs ++ ys) = max (PyData.depthAll xs) (PyData.depthAll ys) := by
    intro xs ys
    induction xs with
    | nil => simp [PyData.canLayAll0, PyData.depthAll]
    | cons x xs ih =>
      rw [List.cons_append]
      simp only [PyData.canLayAll0, PyData.depthAll, ih.1, ih.2]
      exact ⟨by rw [Bool.and_assoc], by omega⟩
  intro rs
  induction rs with
  | nil => exact fun _ => ⟨rfl, Nat.zero_le _⟩
  | cons row rs ih =>
    intro h
    simp only [rowsD] at h
    have h1 := ih h.2.2
    have h2 := okPs_lay row h.2.1
    rw [List.reverse_cons, List.map_append, (app _ _).1, (app _ _).2, h1.1]
    show (true && PyData.canLayAll0 [.list row]) = true ∧ max _ (PyData.depthAll [.list row]) ≤ _
    simp only [PyData.canLayAll0, PyData.canLay0, PyData.depthAll, PyData.depth, h2.1, h2.2]
    refine ⟨rfl, ?_⟩
    have := h.1
    omega
theorem shaped_of {d : PyData} (h1 : d.canLay0 = true) (h2 : d.depth ≤ 64) : SeqAt.shaped d = true := by
  unfold SeqAt.shaped
  rw [h1, decide_eq_true h2]
  rfl
def avOf (z : Str) : V := (signV z).getD (if isWordT z.cps.toList = true then .str z else if numOk z.cps.toList = true then .int (numV z.cps.toList) else .non)
theorem avOf_atom (z : Str) : (∃ d, atomT z.cps.toList = some d ∧ avOf z = atV d) ∨ (atomT z.cps.toList = none ∧ avOf z = .non) := by
  unfold avOf atomT signV
  rw [str_back]
  by_cases h1 : z.cps.toList = [43]
  · rw [if_pos h1, if_pos h1]
    exact .inl ⟨_, rfl, rfl⟩
  · rw [if_neg h1, if_neg h1]
    by_cases h2 : z.cps.toList = [45]
    · rw [if_pos h2, if_pos h2]
      exact .inl ⟨_, rfl, rfl⟩
    · rw [if_neg h2, if_neg h2]
      by_cases h3 : z.cps.toList = [46]
      · rw [if_pos h3, if_pos h3]
        exact .inl ⟨_, rfl, rfl⟩
      · rw [if_neg h3, if_neg h3]
        show (∃ d, _ = some d ∧ (if isWordT z.cps.toList = true then V.str z else _) = atV d) ∨ _
        by_cases h4 : isWordT z.cps.toList = true
        · rw [if_pos h4, if_pos h4]
          exact .inl ⟨_, rfl, rfl⟩
        · rw [if_neg h4, if_neg h4]
          by_cases h5 : numOk z.cps.toList = true
          · rw [if_pos h5, if_pos h5]
            exact .inl ⟨_, rfl, rfl⟩
          · rw [if_neg h5, if_neg h5]
            exact .inr ⟨rfl, rfl⟩
abbrev kvS : List (Key × V) := [(.inr "+", .bl true), (.inr "-", .bl false), (.inr ".", .str "")]
theorem val_sign (z : Str) : valV (mergeK [] kvS) (.inr z) = signV z := by
  have e : mergeK [] kvS = kvS := rfl
  rw [e]
  unfold signV
  have h : ∀ (c : Nat) (s : String), (Str.ofString s).cps.toList = [c] → decide ((Sum.inr (Str.ofString s) : Key) = .inr z) = decide (z.cps.toList = [c]) := fun c s hs => by
    rw [decide_eq_decide]
    exact ⟨fun e => by rw [← Sum.inr.inj e, hs], fun e => by rw [str_ext (hs.trans e.symm)]⟩
  have e1 := h 43 "+" rfl
  have e2 := h 45 "-" rfl
  have e3 := h 46 "." rfl
  show Option.map _ (List.find? _ _) = _
  unfold kvS
  simp only [List.find?, e1, e2, e3]
  cases h1 : decide (z.cps.toList = [43]) with
  | true =>
    rw [if_pos (of_decide_eq_true h1)]
    rfl
  | false =>
    rw [if_neg (of_decide_eq_false h1)]
    cases h2 : decide (z.cps.toList = [45]) with
    | true =>
      rw [if_pos (of_decide_eq_true h2)]
      rfl
    | false =>
      rw [if_neg (of_decide_eq_false h2)]
      cases h3 : decide (z.cps.toList = [46]) with
      | true =>
        rw [if_pos (of_decide_eq_true h3)]
        rfl
      | false =>
        rw [if_neg (of_decide_eq_false h3)]
        rfl
theorem cut_mem (c : Nat) : decide (c ∈ (Str.ofString "[],;").cps.toList) = cut c := by
  show decide (c ∈ [91, 93, 44, 59]) = _
  unfold cut sep
  by_cases h1 : c = 91
  · subst h1; rfl
  · by_cases h2 : c = 93
    · subst h2; rfl
    · by_cases h3 : c = 44
      · subst h3; rfl
      · by_cases h4 : c = 59
        · subst h4; rfl
        · simp [h1, h2, h3, h4]
end
end K53

set_option exponentiation.threshold 256
set_option Elab.async false
set_option linter.all false
set_option maxRecDepth 100000
set_option maxHeartbeats 4000000
set_option exponentiation.threshold 10
namespace K53
open PySem PySem.Spec PyProof.Rows L2 Lay DataM PySem.NumText
local macro_rules | `(tactic| walk_at "1") => `(tactic| first
  | with_reducible refine w_seq ?_
  | ((with_reducible refine w_var (v := ?vv) ?hv ?_); (case hv => rfl))
  | with_reducible refine w_c ?_
  | with_reducible refine w_m1 ?_
  | with_reducible refine w_isstr ?_
  | with_reducible refine w_bm0 ?_
  | with_reducible refine w_bm ?_
  | with_reducible refine w_gcons ?_
  | with_reducible refine w_gnil ?_
  | ((with_reducible refine w_ty (xs := ?vv) ?hv ?_); (case hv => walk_at "hx"))
  | ((with_reducible refine w_gtup (xs := ?vv) ?hv ?hl ?_); (case hv => walk_at "hx"); (case hl => rfl))
  | with_reducible refine w_for1 ?_
  | with_reducible refine w_for2 ?_
  | with_reducible refine w_for3 ?_
  | with_reducible refine w_forA ?_
  | with_reducible refine w_forE ?_
  | ((with_reducible refine w_aug (x := ?vv) ?hv ?_); (case hv => rfl))
  | with_reducible refine w_op ?_
  | with_reducible refine w_cb ?_
  | with_reducible refine w_acons ?_
  | with_reducible refine w_anil ?_
  | with_reducible refine w_set ?_
  | with_reducible refine w_if ?_
  | with_reducible refine w_test ?_
  | with_reducible refine w_tB ?_
  | with_reducible refine w_bl ?_
  | with_reducible refine w_and ?_
  | with_reducible refine w_or ?_
  | with_reducible refine w_not ?_
  | with_reducible refine w_iteT ?_
  | with_reducible refine w_iteF ?_
  | with_reducible refine w_ret ?_
  | with_reducible refine w_next ?_
  | with_reducible refine w_drop ?_
  | with_reducible refine w_call ?_
  | with_reducible refine w_ifx ?_
  | with_reducible refine w_andV ?_
  | with_reducible refine w_orV ?_
  | with_reducible refine w_notV ?_
  | with_reducible refine w_sl ?_
  | with_reducible refine w_nopart ?_
  | with_reducible refine w_part ?_
  | with_reducible refine w_exint ?_
  | with_reducible refine w_chain ?_
  | with_reducible refine w_par ?_
  | with_reducible refine w_two ?_
  | with_reducible refine w_par3 ?_
  | with_reducible refine w_three ?_
  | with_reducible refine w_asg ?_
  | with_reducible refine w_gset ?_
  | with_reducible refine w_retN ?_
  | with_reducible refine w_brk ?_
  | with_reducible refine w_cont ?_
  | with_reducible refine w_un ?_
  | with_reducible refine w_neg ?_
  | with_reducible refine w_callS ?_
  | with_reducible refine w_tup0 ?_
  | with_reducible refine w_lst0 ?_
  | with_reducible refine w_fld0 ?_
  | with_reducible refine w_sfld ?_
  | with_reducible refine w_gsub ?_
  | with_reducible refine w_iAny ?_
  | with_reducible refine w_iR1 ?_
  | with_reducible refine w_make ?_
  | with_reducible refine w_meth ?_)
local macro_rules | `(tactic| walk_at "2") => `(tactic| first
  | with_reducible refine w_add_int ?_
  | with_reducible refine w_sub ?_
  | ((with_reducible refine w_add_str ?hl ?_); (case hl => walk_at "len"))
  | ((with_reducible refine w_mod ?hl ?_); (case hl => first | decide | omega))
  | ((with_reducible refine w_fdiv ?h1 ?h2 ?_); (case h1 => first | decide | omega); (case h2 => first | decide | omega))
  | ((with_reducible refine w_mulR ?h1 ?h2 ?_); (case h1 => first | decide | omega); (case h2 => first | decide | omega))
  | ((with_reducible refine w_mulL ?h1 ?h2 ?_); (case h1 => first | decide | omega); (case h2 => first | decide | omega))
  | with_reducible refine w_iadd_int ?_
  | ((with_reducible refine w_iadd_str ?hl ?_); (case hl => walk_at "len"))
  | ((with_reducible refine w_mk ?hl ?_); (case hl => walk_at "len"))
  | with_reducible refine w_lt_int ?_
  | with_reducible refine w_lt_str ?_
  | with_reducible refine w_le_int ?_
  | with_reducible refine w_le_str ?_
  | with_reducible refine w_gt ?_
  | with_reducible refine w_ge ?_
  | with_reducible refine w_eq_int ?_
  | with_reducible refine w_eq_str ?_
  | with_reducible refine w_ne_int ?_
  | with_reducible refine w_ne_str ?_
  | ((with_reducible refine w_isInt (d := ?vd) ?hd ?_); (case hd => walk_at "dp"))
  | ((with_reducible refine w_isBool (d := ?vd) ?hd ?_); (case hd => walk_at "dp"))
  | ((with_reducible refine w_isStr (d := ?vd) ?hd ?_); (case hd => walk_at "dp"))
  | ((with_reducible refine w_isTup (d := ?vd) ?hd ?_); (case hd => walk_at "dp"))
  | ((with_reducible refine w_isLst (d := ?vd) ?hd ?_); (case hd => walk_at "dp"))
  | refine w_in_str ?_
  | refine w_nin_str ?_
  | ((with_reducible refine w_ixL (xs := ?vv) (y := ?vr) ?h ?ha ?_); (case h => walk_at "hx"); (case ha => rfl))
  | with_reducible refine w_is ?_
  | with_reducible refine w_isnot ?_
  | ((with_reducible refine w_len_str ?hl ?_); (case hl => walk_at "len"))
  | ((with_reducible refine w_len (xs := ?vv) ?hl ?_); (case hl => walk_at "hx"))
  | with_reducible refine w_int_int ?_
  | with_reducible refine w_str_str ?_
  | with_reducible refine w_abs ?_
  | ((with_reducible refine w_sl_str ?hl ?_); (case hl => walk_at "len"))
  | ((with_reducible refine w_fldAt (C := ?vC) (dx := ?vdx) (fs := ?vfs) (v := ?vv) ?h1 ?h2 ?h3 ?h4 ?_); (case h1 => walk_at "hx"); (case h2 => assumption); (case h3 => assumption); (case h4 => rfl))
  | ((with_reducible refine w_methAt (dx := ?vdx) (fs := ?vfs) ?h1 ?h2 ?_); (case h1 => walk_at "hx"); (case h2 => rfl))
  | ((with_reducible refine w_iteP ?h1 ?_); (case h1 => walk_at "yes"))
  | ((with_reducible refine w_iteN ?h1 ?_); (case h1 => walk_at "no")))
local macro_rules | `(tactic| walk_at "yes") => `(tactic| first | assumption | ((with_reducible refine bnotT ?_); walk_at "no") | (refine decide_eq_true ?_; first | assumption | omega) | exact rfl)
local macro_rules | `(tactic| walk_at "no") => `(tactic| first | assumption | ((with_reducible refine bnotF ?_); walk_at "yes") | (refine decide_eq_false ?_; first | assumption | omega) | exact rfl)
local macro_rules | `(tactic| walk_at "len") => `(tactic| first | assumption | exact Nat.le_of_ble_eq_true rfl | omega | decide | (simp only [List.length_append, List.length_cons, List.length_nil, List.length_map]; omega))
local macro_rules | `(tactic| walk_at "ne") => `(tactic| first | assumption | (refine Ne.symm ?_; assumption))
local macro_rules | `(tactic| walk_at "hx") => `(tactic| first
  | assumption
  | exact upd_same
  | ((with_reducible refine sqa_l ?_); walk_at "hx")
  | ((with_reducible refine sqa_t ?_); walk_at "hx")
  | ((with_reducible refine SqL.of ?_); walk_at "hx")
  | ((with_reducible refine SqT.of ?_); walk_at "hx")
  | ((with_reducible refine at_same (by assumption) ?_); walk_at "hx")
  | ((with_reducible refine at_but (by assumption) ?hne ?_); (case hne => walk_at "ne"); walk_at "hx")
  | ((with_reducible refine Txt.tup (by assumption) _ _ ?_); walk_at "hx")
  | ((with_reducible refine Same.seq (by assumption) ?_); walk_at "hx")
  | ((with_reducible refine Same.seqT (by assumption) ?_); walk_at "hx")
  | ((with_reducible refine Dp.same (by assumption) _ _ ?_); walk_at "hx")
  | ((with_reducible refine DpAll.same (by assumption) _ _ ?_); walk_at "hx"))
local macro_rules | `(tactic| walk_at "go") => `(tactic| repeat (first | walk_at "1" | walk_at "2"))
local macro_rules | `(tactic| walk_at "dp") => `(tactic| first | exact .int _ | exact .str _ | exact .bl _ | exact .non | walk_at "hx")

section
variable {P : Program} {w : World} {K : PySem.W.Frag} {mg : Str → Option Value} {base : Heap} {CM CR : Addr}
def spLR (K : PySem.W.Frag) : Sp := fun vs H Q _ => ∃ s : Str, vs = [.str s] ∧ s.length ≤ 400000 ∧ (∀ c ∈ s.cps.toList, c ≠ 59) ∧ mb (s.cps.toList ++ [59]) ≤ 20 ∧ Runs 3000 (s.cps.toList ++ [59]) ∧
  (lr s.cps.toList = none → ∀ H', Same H H' → Q .non H') ∧ (∀ d, lr s.cps.toList = some d → ∀ p v H', Same H H' → H' p = some (.lst [v]) → Dp K H' v d → Lay.fz d = true → Q (.ref p) H')
structure LInv (K : PySem.W.Frag) (H0 : Hp) (s : Str) (pr : Addr) (i : Nat) (ls : LS) (σ : L2.St) (H : Hp) : Prop where
  il : i ≤ (s.cps.toList ++ [59]).length
  run : ((s.cps.toList ++ [59]).take i).foldlM LS.step LS.zero = some ls
  ld : LD 20 ls ((s.cps.toList ++ [59]).drop i)
  tk : ∃ pre, (s.cps.toList ++ [59]).take i = pre ++ ls.tok ∧ ∀ c ∈ ls.tok, sep c = false
  st : ∃ rws dv o5 o6 o7, σ = [some (.str s), some (.ref pr), some dv, some (.str ⟨ls.tok.toArray⟩), some (.bl ls.ah), o5, o6, o7] ∧ LAt K H0 H pr i ls rws dv
theorem sgn (c d : Nat) (t : Str) (ht : t.cps.toList = [d]) : decide ((⟨#[c]⟩ : Str) = t) = decide (c = d) := by
  rw [decide_eq_decide]
  exact ⟨fun h => by rw [← h] at ht; exact List.head_eq_of_cons_eq (show [c] = [d] from ht), fun h => str_ext (by rw [ht, ← h])⟩
theorem rows_nil {K : PySem.W.Frag} {H0 H H' : Hp} {pr D : Addr} {n : Nat} {ls : LS} {rws : List Addr} {dv : V} {rest : Tx} (z : LAt K H0 H pr n ls rws dv) (l : LD 20 ls rest) (e : Same H H') (h : H' D = some (.lst [])) {Q : VK} (q : Q (.bl ls.rows.isEmpty) H') : rEqD K (.ref pr) (.ref D) H' Q := by
  have z2 := z.go e
  have hs := rows_shape (by omega) ls.rows l.rows
  refine ⟨.list (ls.rows.reverse.map .list), .list [], .lst (SqL.of z2.ob) z2.dps, .lst (SqL.of h) .nil, shaped_of ?_ ?_, rfl, ?_⟩
  · simp only [PyData.canLay0]
    exact hs.1
  · simp only [PyData.depth]
    omega
  · rw [eqv_nil]
    have : (ls.rows.reverse.map PyData.list).isEmpty = ls.rows.isEmpty := by
      cases ls.rows <;> simp
    rw [this]
    exact q
theorem row_nil {K : PySem.W.Frag} {H' : Hp} {q D : Addr} {row : List PyData} {vs : List V} (hq : H' q = some (.lst vs)) (hv : DpAll K H' vs row) (ho : okPs row) (hd : depAll row ≤ 20) (h : H' D = some (.lst [])) {Q : VK} (qq : Q (.bl (!row.isEmpty)) H') : rNeD K (.ref q) (.ref D) H' Q := by
  have hs := okPs_lay row ho
  refine ⟨.list row, .list [], .lst (SqL.of hq) hv, .lst (SqL.of h) .nil, shaped_of ?_ ?_, rfl, ?_⟩
  · simp only [PyData.canLay0]
    exact hs.1
  · simp only [PyData.depth]
    omega
  · rw [eqv_nil]
    exact qq
theorem act_comma_yes (rows : List (List PyData)) (dn : Option PyData) : LS.act ⟨rows, dn, [], true⟩ 44 = none := by
  unfold LS.act
  rw [if_neg (by decide), if_pos rfl]
theorem act_comma_nil (dn : Option PyData) : LS.act ⟨[], dn, [], false⟩ 44 = none := by
  unfold LS.act
  rw [if_neg (by decide), if_pos rfl]
theorem ok_law_read {f : Addr} {fd : FuncData} (T : Facts w K mg CM) (F : Fun K "_law_read" "_law_read" s__law_read f fd) (c__law_word : Fn0 P w K mg base 1 "_law_word" (spWord K)) (c__law_number : Fn0 P w K mg base 1 "_law_number" (spNumL K)) :
    FnOk P w K mg base CX0 2 f fd ["text"] (spLR K) := by
  refine F.ok sc__law_read (fun vs H Q E h => ?_) (fun cdv A outer s H vs Q E hr h => ?_)
  · obtain ⟨z, rfl, _⟩ := h
    rfl
  · obtain ⟨z, rfl, hz, h59, hmb, hruns, q1, q2⟩ := h
    refine ⟨_, (pss_cons (ps_asg (pe_tupG (pa_cons (pe_lstG pa_nil) (pa_cons (pe_lstG pa_nil) (pa_cons pe_str (pa_cons pe_bl pa_nil))))) (tup_A (K := K) (n := 4) rfl (pgs_cons (pg_name (i := 1) sc__law_read.nd rfl (by first | exact Or.inl rfl | exact Or.inr rfl)) (pgs_cons (pg_name (i := 2) sc__law_read.nd rfl (by first | exact Or.inl rfl | exact Or.inr rfl)) (pgs_cons (pg_name (i := 3) sc__law_read.nd rfl (by first | exact Or.inl rfl | exact Or.inr rfl)) (pgs_cons (pg_name (i := 4) sc__law_read.nd rfl (by first | exact Or.inl rfl | exact Or.inr rfl)) pgs_nil))))))
    (pss_cons (ps_for PassesOwn.never rfl (pi_A (K := K) (pe_op op_addA (pv 0) pe_str)) (pg_name (i := 5) sc__law_read.nd rfl (by first | exact Or.inl rfl | exact Or.inr rfl)) (pss_one (ps_if (pt_cmpR (op_inA (K := K)) (pv 5) pe_str (by rfl)) (pss_mid (ps_if (pt_cmpR (op_neA (K := K) hr.units) (pv 3) pe_str (nomark _)) (pss_cons (ps_set (i := 6) sc__law_read.nd rfl (by first | exact Or.inl rfl | exact Or.inr rfl) (pe_dget2 (hu_of hr) (pe_disp (pps_cons pe_str pe_bl (pps_cons pe_str pe_bl (pps_cons pe_str pe_str pps_nil))) (by rfl) (by rfl) (fun z => by cases z) (by decide)) (pv 3) (pe_ifExp (pt_val (pe_f0 c__law_word hr (by first | decide | omega) (pa_cons (pv 3) pa_nil))) (pv 3) (pe_f0 c__law_number hr (by first | decide | omega) (pa_cons (pv 3) pa_nil))) ⟨by rfl, by rfl, by rfl, by rfl⟩))
    (pss_cons (ps_if (PW.pt (pw_or (pt_cmpR op_isA (pv 6) pe_non (nomark _)) (pw_or1 (pt_not (pt_val (pv 4)))))) (pss_one (ps_ret pe_non)) pss_nil)
    (pss_one (ps_par3 (i := 2) (j := 4) (l := 3) rfl sc__law_read.nd rfl rfl rfl (by decide) (by decide) (by decide) rfl rfl rfl (pa_cons (pe_lstG (pa_cons (pv 6) pa_nil)) (pa_cons pe_bl (pa_cons pe_str pa_nil))) (by rfl))))) pss_nil)
    (pss_one (ps_if (pt_cmpR (op_eqA (K := K) hr.units) (pv 5) pe_str (nomark _)) (pss_cons (ps_if (pt_not (pt_val (pv 4))) (pss_one (ps_ret pe_non)) pss_nil)
    (pss_one (ps_expr (pe_bm PySem.F.plainAttrs_list PySem.F.slot_list_append PySem.F.type_list_append mt_append (pv 1) (pa_cons (pe_lstG pa_nil) pa_nil))))) (pss_one (ps_if (pt_cmpR (op_eqA (K := K) hr.units) (pv 5) pe_str (nomark _)) (pss_cons (ps_if (PW.pt (pw_or (pt_val (pv 4)) (pw_or1 (pt_cmpR (op_eqA (K := K) hr.units) (pv 1) (pe_lstG pa_nil) (nomark _))))) (pss_one (ps_ret pe_non)) pss_nil)
    (pss_cons (ps_expr (pe_bm PySem.F.plainAttrs_list PySem.F.slot_list_append PySem.F.type_list_append mt_append (pe_ix (ix_A (K := K)) (pv 1) (pe_un un_neg pe_int) (fun _ _ => rfl)) (pa_cons (pe_ix (ix_A (K := K)) (pv 2) pe_int (fun _ _ => rfl)) pa_nil)))
    (pss_one (ps_set (i := 4) sc__law_read.nd rfl (by first | exact Or.inl rfl | exact Or.inr rfl) pe_bl)))) (pss_one (ps_if (pt_cmpR (op_eqA (K := K) hr.units) (pv 5) pe_str (nomark _)) (pss_cons (ps_if (PW.pt (pw_or (pt_cmpR (op_eqA (K := K) hr.units) (pv 1) (pe_lstG pa_nil) (nomark _)) (pw_or1 (PW.pt (pw_and (pt_val (pv 4)) (pw_and1 (pt_cmpR (op_neA (K := K) hr.units) (pe_ix (ix_A (K := K)) (pv 1) (pe_un un_neg pe_int) (fun _ _ => rfl)) (pe_lstG pa_nil) (nomark _)))))))) (pss_one (ps_ret pe_non)) pss_nil)
    (pss_cons (ps_set (i := 7) sc__law_read.nd rfl (by first | exact Or.inl rfl | exact Or.inr rfl) (pe_bm0 PySem.F.plainAttrs_list PySem.F.slot_list_pop PySem.F.type_list_pop mt_pop (pv 1)))
    (pss_one (ps_par (i := 2) (j := 4) rfl sc__law_read.nd rfl rfl (by decide) rfl rfl (pa_cons (pe_lstG (pa_cons (pe_callTy (call_tupA (K := K)) (by rfl) T.b_tuple (by decide +kernel) (pa_cons (pe_op op_addA (pv 7) (pe_ifExp (pt_val (pv 4)) (pe_lstG pa_nil) (pe_lstG (pa_cons (pe_ix (ix_A (K := K)) (pv 2) pe_int (fun _ _ => rfl)) pa_nil)))) pa_nil)) pa_nil)) (pa_cons pe_bl pa_nil)) (by rfl))))) pss_nil))))))) (pss_one (ps_set (i := 3) sc__law_read.nd rfl (by first | exact Or.inl rfl | exact Or.inr rfl) (pe_op op_addA (pv 3) (pv 5)))))))
    (pss_one (ps_ret (pe_ifExp (PW.pt (pw_and (pt_cmpR (op_eqA (K := K) hr.units) (pv 1) (pe_lstG pa_nil) (nomark _)) (pw_and (pt_not (pt_val (pv 4))) (pw_and1 (pt_cmpR (op_notInA (K := K)) pe_str (pv 0) (by rfl)))))) (pv 2) pe_non))))), ?_⟩
    try dsimp only [cxOf]
    refine w_start (show _ = [some _, none, none, none, none, none, none, none] from rfl) ?_
    have hlz := len_l z
    walk_at "go"
    intro pr H1 n1 e1 h1
    walk_at "go"
    intro p0 H2 n2 e2 h2
    walk_at "go"
    intro pt H3 n3 e3 h3
    walk_at "go"
    refine w_add_str (by show z.length + 1 ≤ _; omega) ?_
    have hx : (z ++ Str.ofString ";").cps.toList = z.cps.toList ++ [59] := app_l _ _
    have e3' : Same H H3 := (e1.trans e2).trans e3
    refine lp_str (fun i σ' H' => ∃ ls, LInv K H z pr i ls σ' H') ⟨LS.zero, Nat.zero_le _, rfl, ⟨trivial, fun h => (by cases h), by show ((0 : Nat) : Int) + mb (z.cps.toList ++ [59]) ≤ 20; omega⟩, ⟨[], rfl, fun c hc => by cases hc⟩,
      [], .ref p0, none, none, none, rfl, ⟨e3 _ _ (e2 _ _ h1), .nil, List.nodup_nil, n1, e3', fun h => (by cases h)⟩⟩ (fun i c σ' H' hc p => ?_) (fun σ' H' p => ?_)
    · rw [hx] at hc
      obtain ⟨ls, hil, hrun, hld, ⟨pre, htk1, htk2⟩, rws, dv, o5, o6, o7, rfl, Z⟩ := p
      have hi : i < (z.cps.toList ++ [59]).length := (List.getElem?_eq_some_iff.mp hc).1
      have hdr : (z.cps.toList ++ [59]).drop i = c :: (z.cps.toList ++ [59]).drop (i + 1) := by
        rw [List.drop_eq_getElem_cons hi, (List.getElem?_eq_some_iff.mp hc).2]
      have htk : (z.cps.toList ++ [59]).take (i + 1) = (z.cps.toList ++ [59]).take i ++ [c] := by
        rw [List.take_add_one, hc]
        rfl
      have hstep : ((z.cps.toList ++ [59]).take (i + 1)).foldlM LS.step LS.zero = ls.step c := by
        rw [htk, List.foldlM_append, hrun]
        show List.foldlM LS.step ls [c] = _
        simp
      have hfail : ls.step c = none → ∀ H', Same H H' → Q .non H' := fun hn => q1 (by
        unfold lr
        have : (z.cps.toList ++ [59]).foldlM LS.step LS.zero = none := by
          rw [← List.take_append_drop (i + 1) (z.cps.toList ++ [59]), List.foldlM_append, hstep, hn]
          rfl
        rw [this]
        rfl)
      rw [hdr] at hld
      have hsuc : ∀ ls' σ2 H2, ls.step c = some ls' → (∃ pre, (z.cps.toList ++ [59]).take (i + 1) = pre ++ ls'.tok ∧ ∀ c ∈ ls'.tok, sep c = false) → (∃ rws dv o5 o6 o7, σ2 = [some (V.str z), some (.ref pr), some dv, some (.str ⟨ls'.tok.toArray⟩), some (.bl ls'.ah), o5, o6, o7] ∧ LAt K H H2 pr (i + 1) ls' rws dv) → ∃ ls, LInv K H z pr (i + 1) ls σ2 H2 :=
        fun ls' σ2 H2 h1 h2 h3 => ⟨ls', hi, hstep.trans h1, hld.step h1, h2, h3⟩
      have htl : ls.tok.length ≤ 3000 := hruns pre ls.tok ((z.cps.toList ++ [59]).drop i) (by rw [← htk1, List.take_append_drop]) htk2
      have hsame := Z.same
      walk_at "go"
      rw [cut_mem]
      cases hcut : cut c with
      | false =>
        walk_at "go"
        refine w_add_str (by show ls.tok.toArray.size + 1 ≤ _; rw [List.size_toArray]; omega) ?_
        have hst : ls.step c = some ⟨ls.rows, ls.dn, ls.tok ++ [c], ls.ah⟩ := by
          unfold LS.step
          rw [hcut]
          rfl
        have hsc : sep c = false := by
          unfold cut at hcut
          exact (Bool.or_eq_false_iff.mp hcut).1
        refine hsuc _ _ _ hst ⟨pre, by rw [htk, htk1, List.append_assoc], fun x hx => ?_⟩ ⟨rws, dv, some (.str ⟨#[c]⟩), o6, o7, ?_, Z.ob, Paired.mapP Z.row fun _ _ q => q.mono (Nat.le_succ i), Z.nod, Z.npr, Z.same, Z.dn⟩
        · rcases List.mem_append.mp hx with hx | hx
          · exact htk2 x hx
          · rw [List.mem_singleton.mp hx]
            exact hsc
        · have : ((⟨ls.tok.toArray⟩ : Str) ++ ⟨#[c]⟩) = ⟨(ls.tok ++ [c]).toArray⟩ := str_ext (by rw [app_l])
          rw [this]
          rfl
      | true =>
        have hst : ls.step c = ls.flush.bind fun s => s.act c := by
          unfold LS.step
          rw [hcut]
          rfl
        walk_at "go"
        refine w_mid (fun σ2 H2 => ∃ ls2, ls.flush = some ls2 ∧ ls2.tok = [] ∧ ls2.rows = ls.rows ∧ ∃ rws dv o6 o7, σ2 = [some (V.str z), some (.ref pr), some dv, some (.str ⟨#[]⟩), some (.bl ls2.ah), some (.str ⟨#[c]⟩), o6, o7] ∧ LAt K H H2 pr i ls2 rws dv) ?_ ?_
        · walk_at "go"
          have hte : decide ((⟨ls.tok.toArray⟩ : Str) = Str.ofString "") = decide (ls.tok = []) := by
            rw [decide_eq_decide]
            exact ⟨fun h => congrArg (fun s : Str => s.cps.toList) h, fun h => str_ext h⟩
          rw [hte]
          by_cases ht0 : ls.tok = []
          · refine w_iteN (bnotF (decide_eq_true ht0)) ?_
            walk_at "go"
            refine ⟨ls, ?_, ht0, rfl, rws, dv, o6, o7, ?_, Z⟩
            · unfold LS.flush
              rw [if_pos ht0]
            · rw [ht0]
              rfl
          · refine w_iteP (bnotT (decide_eq_false ht0)) ?_
            have hfl : ls.flush = (atomT ls.tok).bind fun v => if ls.ah = true then some ⟨ls.rows, some v, [], false⟩ else none := by
              unfold LS.flush
              rw [if_neg ht0]
            have hl1 : (⟨ls.tok.toArray⟩ : Str).length ≤ 3000 := by
              show ls.tok.toArray.size ≤ _
              rw [List.size_toArray]
              exact htl
            have get : ∀ R : VK, (∀ Hn, Same H' Hn → R (avOf ⟨ls.tok.toArray⟩) Hn) → tDGet2 (tDisp [(tC (V.str (Str.ofString "+")), tC (V.bl true)), (tC (V.str (Str.ofString "-")), tC (V.bl false)), (tC (V.str (Str.ofString ".")), tC (V.str (Str.ofString "")))]) (tVar 3)
                (tIf (tB (tCall (spWord K) [] E0 (tCons (tVar 3) tNil))) (tVar 3) (tCall (spNumL K) [] E0 (tCons (tVar 3) tNil))) [some (V.str z), some (V.ref pr), some dv, some (V.str ⟨ls.tok.toArray⟩), some (V.bl ls.ah), some (.str ⟨#[c]⟩), o6, o7] H' R := fun R hR => by
              refine w_dget2 ?_
              refine w_dispC (kvs := kvS) (by decide) fun p Hd nd ed hd => ?_
              refine w_isD hd ?_
              walk_at "go"
              refine ⟨_, .str ⟨ls.tok.toArray⟩, rfl, .str _, by show _ ≤ 1000000; omega, fun He ee => ?_⟩
              walk_at "go"
              have hd2 := ee _ _ hd
              show if isWordT ls.tok = true then _ else _
              cases hw : isWordT ls.tok with
              | true =>
                walk_at "go"
                refine w_dget2At (k := .inr ⟨ls.tok.toArray⟩) hd2 ?_
                rw [val_sign]
                have := hR He (ed.trans ee)
                unfold avOf at this
                rw [if_pos hw] at this
                exact this
              | false =>
                walk_at "go"
                refine ⟨⟨ls.tok.toArray⟩, rfl, by omega, fun Hf ef => ?_⟩
                refine w_dget2At (k := .inr ⟨ls.tok.toArray⟩) (ef _ _ hd2) ?_
                rw [val_sign]
                have := hR Hf ((ed.trans ee).trans ef)
                unfold avOf at this
                rw [if_neg (by rw [show (⟨ls.tok.toArray⟩ : Str).cps.toList = ls.tok from rfl, hw]; exact Bool.false_ne_true)] at this
                exact this
            walk_at "go"
            refine get _ fun Hn en => ?_
            walk_at "go"
            rcases avOf_atom ⟨ls.tok.toArray⟩ with ⟨d, ha, hv⟩ | ⟨ha, hv⟩
            · rw [hv]
              have hnon : decide (atV d = V.non) = false := by
                refine decide_eq_false ?_
                unfold atomT at ha
                repeat' split at ha
                all_goals first
                  | (cases ha; intro z; cases z)
                  | cases ha
              walk_at "go"
              have ha' : atomT ls.tok = some d := ha
              cases hah : ls.ah with
              | false =>
                walk_at "go"
                refine hfail ?_ Hn (hsame.trans en)
                rw [hst, hfl, ha', hah]
                rfl
              | true =>
                walk_at "go"
                intro pn Ho no eo ho
                walk_at "go"
                have hfl2 : ls.flush = some ⟨ls.rows, some d, [], false⟩ := by
                  rw [hfl, ha', hah]
                  rfl
                exact ⟨_, hfl2, rfl, rfl, rws, .ref pn, _, _, rfl, (Z.go en).done no eo ho (atom_dp ha') (atom_fz ha')⟩
            · rw [hv]
              walk_at "go"
              refine hfail ?_ Hn (hsame.trans en)
              have ha' : atomT ls.tok = none := ha
              rw [hst, hfl, ha']
              rfl
        · rintro σ2 H2 ⟨⟨rows, dn, tok, ah⟩, hf, ht2, hr2, rws, dv, o6, o7, rfl, Z2⟩
          obtain rfl : tok = [] := ht2
          have hld2 := (hld.flush hf).1
          have hst2 : ls.step c = LS.act ⟨rows, dn, [], ah⟩ c := by
            rw [hst, hf]
            rfl
          have hs2 := Z2.same
          have hob := Z2.ob
          have suc : ∀ (rows' : List (List PyData)) dn' ah' rws' dv' o5 o6 o7 H3, LS.act ⟨rows, dn, [], ah⟩ c = some ⟨rows', dn', [], ah'⟩ → LAt K H H3 pr (i + 1) ⟨rows', dn', [], ah'⟩ rws' dv' →
              ∃ ls, LInv K H z pr (i + 1) ls [some (V.str z), some (.ref pr), some dv', some (.str ⟨#[]⟩), some (.bl ah'), o5, o6, o7] H3 := fun rows' dn' ah' rws' dv' o5 o6 o7 H3 h1 h2 =>
            hsuc _ _ _ (hst2.trans h1) ⟨_, (List.append_nil _).symm, fun c hc => by cases hc⟩ ⟨rws', dv', o5, o6, o7, rfl, h2⟩
          have fail : LS.act ⟨rows, dn, [], ah⟩ c = none → ∀ H3, Same H2 H3 → Q .non H3 := fun h H3 e => hfail (hst2.trans h) H3 (hs2.trans e)
          have up : ∀ {H3 rows' dn' ah' rws' dv'}, LAt K H H3 pr i ⟨rows', dn', [], ah'⟩ rws' dv' → LAt K H H3 pr (i + 1) ⟨rows', dn', [], ah'⟩ rws' dv' := fun Z => ⟨Z.ob, Paired.mapP Z.row fun _ _ q => q.mono (Nat.le_succ i), Z.nod, Z.npr, Z.same, Z.dn⟩
          clear hsuc hfail
          walk_at "go"
          rw [sgn c 91 "[" rfl]
          refine w_ite (fun k1 => ?_) (fun k1 => ?_)
          · obtain rfl : c = 91 := of_decide_eq_true k1
            walk_at "go"
            cases ah with
            | false =>
              walk_at "go"
              exact fail rfl H2 (Same.refl H2)
            | true =>
              walk_at "go"
              intro q H3 n3 e3 h3
              walk_at "go"
              have hfr := Z2.fresh n3
              have Z3 := Z2.go e3
              refine w_appG Z3.ob (by rw [List.length_map, List.length_reverse, Z2.row.length]; have := hld2.bal; have := mb_nonneg (91 :: List.drop (i + 1) (z.cps.toList ++ [59])); simp only at *; omega) fun H4 b4 t4 h4 => ?_
              exact suc _ _ _ _ _ _ _ _ H4 rfl (up (Z3.push (tk := []) (ah := true) h3 hfr.2.2 hfr.2.1 hfr.1 b4 t4 h4 rfl))
          · have k1' := of_decide_eq_false k1
            walk_at "go"
            rw [sgn c 44 "," rfl]
            refine w_ite (fun k2 => ?_) (fun k2 => ?_)
            · obtain rfl : c = 44 := of_decide_eq_true k2
              walk_at "go"
              cases ah with
              | true =>
                walk_at "go"
                exact fail (act_comma_yes rows dn) H2 (Same.refl H2)
              | false =>
                walk_at "go"
                intro D H3 n3 e3 h3
                walk_at "go"
                refine Or.inr (rows_nil Z2 hld2 e3 h3 ?_)
                cases rows with
                | nil =>
                  walk_at "go"
                  exact fail (act_comma_nil dn) H3 e3
                | cons row rest =>
                  obtain ⟨p, v, d, rfl, hp, hdn, hdp, hfz, hpr, hprw⟩ := Z2.dn rfl
                  obtain rfl : dn = some d := hdn
                  have Z3 := Z2.go e3
                  have hp3 := e3 _ _ hp
                  have hdp3 := Dp.same e3 d v hdp
                  have hrow := Z3.row
                  cases hrow with
                  | @cons q _ rs _ r1 r2 =>
                    obtain ⟨vs, hq, hvs⟩ := r1.at_
                    have hob3 := Z3.ob
                    have hlv := DpAll.length hvs
                    have hrl := r1.len
                    have hil2 : i ≤ 400001 := by
                      have : (z.cps.toList ++ [59]).length = z.length + 1 := by
                        rw [List.length_append, hlz]
                        rfl
                      omega
                    walk_at "go"
                    refine w_ix (.inl (SqL.of hob3)) (by rw [List.reverse_cons, List.map_append]; exact atI_last _ _) ?_
                    walk_at "go"
                    refine w_appG hq (by omega) fun H4 b4 t4 h4 => ?_
                    walk_at "go"
                    exact suc _ _ _ _ _ _ _ _ H4 rfl (Z3.row_app hq hvs hdp3 hfz b4 t4 h4)
            · have k2' := of_decide_eq_false k2
              walk_at "go"
              rw [sgn c 93 "]" rfl]
              refine w_ite (fun k3 => ?_) (fun k3 => ?_)
              · obtain rfl : c = 93 := of_decide_eq_true k3
                walk_at "go"
                intro D H3 n3 e3 h3
                walk_at "go"
                refine Or.inr (rows_nil Z2 hld2 e3 h3 ?_)
                cases rows with
                | nil =>
                  walk_at "go"
                  exact fail rfl H3 e3
                | cons row rest =>
                  have Z3 := Z2.go e3
                  have hrow := Z3.row
                  have hld3 := hld2.rows
                  have hbal3 := hld2.bal
                  have hmb0 := mb_nonneg (93 :: List.drop (i + 1) (z.cps.toList ++ [59]))
                  simp only [rowsD] at hld3
                  cases hrow with
                  | @cons q _ rs _ r1 r2 =>
                    have hob3 := Z3.ob
                    have hil2 : i ≤ 400001 := by
                      have : (z.cps.toList ++ [59]).length = z.length + 1 := by
                        rw [List.length_append, hlz]
                        rfl
                      omega
                    cases ah with
                    | true =>
                      walk_at "go"
                      refine w_ix (.inl (SqL.of hob3)) (by rw [List.reverse_cons, List.map_append]; exact atI_last _ _) ?_
                      walk_at "go"
                      intro D2 H4 n4 e4 h4
                      walk_at "go"
                      obtain ⟨vs, hq, hvs⟩ := r1.at_
                      refine Or.inr (row_nil (e4 _ _ hq) (DpAll.same e4 _ _ hvs) hld3.2.1 (by omega) h4 ?_)
                      cases row with
                      | cons d0 row =>
                        walk_at "go"
                        refine fail ?_ H4 (e3.trans e4)
                        have e1 : (if (true = true ∧ d0 :: row ≠ []) then none else some (⟨rest, some (.tuple ((d0 :: row) ++ (if true = true then [] else dn.toList))), [], false⟩ : LS)) = none := if_pos ⟨rfl, by simp⟩
                        exact e1
                      | nil =>
                        walk_at "go"
                        have Z4 := Z3.go e4
                        have ht' : H4 pr = some (.lst (rs.reverse.map V.ref ++ [.ref q])) := by
                          rw [Z4.ob]
                          simp
                        refine w_popG ht' fun H5 b5 t5 h5 => ?_
                        have Z5 := Z4.pop b5 t5 h5
                        have hq5 := b5 _ _ r1.na (e4 _ _ hq)
                        walk_at "go"
                        intro D3 H6 n6 e6 h6
                        walk_at "go"
                        cases hvs
                        refine w_add_lst (e6 _ _ hq5) h6 (by simp) fun D4 H7 n7 e7 h7 => ?_
                        walk_at "go"
                        refine w_tupL (SqL.of h7) ?_
                        intro pt8 H8 n8 e8 h8
                        walk_at "go"
                        intro D9 H9 n9 e9 h9
                        walk_at "go"
                        exact suc _ _ _ _ _ _ _ _ H9 rfl (up ((Z5.go ((e6.trans e7).trans e8)).done n9 e9 h9 (.tup (SqT.of (e9 _ _ h8)) .nil) rfl))
                    | false =>
                      walk_at "go"
                      obtain ⟨vs, hq, hvs⟩ := r1.at_
                      obtain ⟨p, v, d, rfl, hp, hdn, hdp, hfz, hpr, hprw⟩ := Z3.dn rfl
                      obtain rfl : dn = some d := hdn
                      have ht' : H3 pr = some (.lst (rs.reverse.map V.ref ++ [.ref q])) := by
                        rw [Z3.ob]
                        simp
                      refine w_popG ht' fun H5 b5 t5 h5 => ?_
                      have Z5 := Z3.pop b5 t5 h5
                      have hq5 := b5 _ _ r1.na hq
                      have hp5 := b5 _ _ hpr hp
                      have hv5 := DpAll.txt t5 _ _ r1.fz hvs
                      have hd5 := Dp.txt t5 d v hfz hdp
                      have hlv := DpAll.length hvs
                      have hrl := r1.len
                      walk_at "go"
                      intro D3 H6 n6 e6 h6
                      walk_at "go"
                      refine w_add_lst (e6 _ _ hq5) h6 (by simp; omega) fun D4 H7 n7 e7 h7 => ?_
                      walk_at "go"
                      refine w_tupL (SqL.of h7) ?_
                      intro pt8 H8 n8 e8 h8
                      walk_at "go"
                      intro D9 H9 n9 e9 h9
                      walk_at "go"
                      have e59 := ((e6.trans e7).trans e8).trans e9
                      have hfz2 : fzAll (row ++ [d]) = true := fzAll_app r1.fz (fzAll_one hfz)
                      exact suc _ _ _ _ _ _ _ _ H9 rfl (up ((Z5.go ((e6.trans e7).trans e8)).done n9 e9 h9 (.tup (SqT.of (e9 _ _ h8)) (DpAll.append (DpAll.same e59 _ _ hv5) (.cons (Dp.same e59 d v hd5) .nil))) (by simp only [Lay.fz]; exact hfz2)))
              · have k3' := of_decide_eq_false k3
                walk_at "go"
                refine suc rows dn ah rws dv _ _ _ H2 ?_ (up Z2)
                unfold LS.act
                rw [if_neg k1', if_neg k2', if_neg k3']
    · obtain ⟨ls, hil, hrun, hld, _, rws, dv, o5, o6, o7, rfl, Z⟩ := p
      rw [hx, List.take_length] at hrun
      rw [hx] at hld
      have hlr : lr z.cps.toList = ls.fin := by
        unfold lr
        rw [hrun]
        rfl
      have hob := Z.ob
      walk_at "go"
      intro D H4 n4 e4 h4
      walk_at "go"
      refine Or.inr (rows_nil Z hld e4 h4 ?_)
      obtain ⟨rows, dn, tok, ah⟩ := ls
      have hsame := Z.same.trans e4
      cases rows with
      | cons row rest =>
        walk_at "go"
        refine q1 ?_ H4 hsame
        rw [hlr]
        unfold LS.fin
        rw [if_neg (by simp)]
      | nil =>
        walk_at "go"
        cases ah with
        | true =>
          walk_at "go"
          refine q1 ?_ H4 hsame
          rw [hlr]
          unfold LS.fin
          rw [if_neg (by simp)]
        | false =>
          obtain ⟨p, v, d, rfl, hp, hdn, hdp, hfz, hpr, hprw⟩ := Z.dn rfl
          obtain rfl : dn = some d := hdn
          walk_at "go"
          have h59' : decide (59 ∈ z.cps.toList) = false := decide_eq_false fun h => h59 59 h rfl
          walk_at "go"
          exact q2 d (hlr.trans (if_pos ⟨rfl, rfl⟩)) p v H4 hsame (e4 _ _ hp) (Dp.same e4 d v hdp) hfz
end
end K53

set_option exponentiation.threshold 256
set_option Elab.async false
set_option linter.all false
set_option maxRecDepth 100000
set_option maxHeartbeats 4000000
set_option exponentiation.threshold 10
namespace K53
open PySem PySem.Spec PyProof.Rows L2 Lay DataM PySem.NumText
local macro_rules | `(tactic| walk_at "1") => `(tactic| first
  | with_reducible refine w_seq ?_
  | ((with_reducible refine w_var (v := ?vv) ?hv ?_); (case hv => rfl))
  | with_reducible refine w_c ?_
  | with_reducible refine w_m1 ?_
  | with_reducible refine w_isstr ?_
  | with_reducible refine w_bm0 ?_
  | with_reducible refine w_bm ?_
  | with_reducible refine w_gcons ?_
  | with_reducible refine w_gnil ?_
  | ((with_reducible refine w_ty (xs := ?vv) ?hv ?_); (case hv => walk_at "hx"))
  | ((with_reducible refine w_gtup (xs := ?vv) ?hv ?hl ?_); (case hv => walk_at "hx"); (case hl => rfl))
  | with_reducible refine w_for1 ?_
  | with_reducible refine w_for2 ?_
  | with_reducible refine w_for3 ?_
  | with_reducible refine w_forA ?_
  | with_reducible refine w_forE ?_
  | ((with_reducible refine w_aug (x := ?vv) ?hv ?_); (case hv => rfl))
  | with_reducible refine w_op ?_
  | with_reducible refine w_cb ?_
  | with_reducible refine w_acons ?_
  | with_reducible refine w_anil ?_
  | with_reducible refine w_set ?_
  | with_reducible refine w_if ?_
  | with_reducible refine w_test ?_
  | with_reducible refine w_tB ?_
  | with_reducible refine w_bl ?_
  | with_reducible refine w_and ?_
  | with_reducible refine w_or ?_
  | with_reducible refine w_not ?_
  | with_reducible refine w_iteT ?_
  | with_reducible refine w_iteF ?_
  | with_reducible refine w_ret ?_
  | with_reducible refine w_next ?_
  | with_reducible refine w_drop ?_
  | with_reducible refine w_call ?_
  | with_reducible refine w_ifx ?_
  | with_reducible refine w_andV ?_
  | with_reducible refine w_orV ?_
  | with_reducible refine w_notV ?_
  | with_reducible refine w_sl ?_
  | with_reducible refine w_nopart ?_
  | with_reducible refine w_part ?_
  | with_reducible refine w_exint ?_
  | with_reducible refine w_chain ?_
  | with_reducible refine w_par ?_
  | with_reducible refine w_two ?_
  | with_reducible refine w_par3 ?_
  | with_reducible refine w_three ?_
  | with_reducible refine w_asg ?_
  | with_reducible refine w_gset ?_
  | with_reducible refine w_retN ?_
  | with_reducible refine w_brk ?_
  | with_reducible refine w_cont ?_
  | with_reducible refine w_un ?_
  | with_reducible refine w_neg ?_
  | with_reducible refine w_callS ?_
  | with_reducible refine w_tup0 ?_
  | with_reducible refine w_lst0 ?_
  | with_reducible refine w_fld0 ?_
  | with_reducible refine w_sfld ?_
  | with_reducible refine w_gsub ?_
  | with_reducible refine w_iAny ?_
  | with_reducible refine w_iR1 ?_
  | with_reducible refine w_make ?_
  | with_reducible refine w_meth ?_)
local macro_rules | `(tactic| walk_at "2") => `(tactic| first
  | with_reducible refine w_add_int ?_
  | with_reducible refine w_sub ?_
  | ((with_reducible refine w_add_str ?hl ?_); (case hl => walk_at "len"))
  | ((with_reducible refine w_mod ?hl ?_); (case hl => first | decide | omega))
  | ((with_reducible refine w_fdiv ?h1 ?h2 ?_); (case h1 => first | decide | omega); (case h2 => first | decide | omega))
  | ((with_reducible refine w_mulR ?h1 ?h2 ?_); (case h1 => first | decide | omega); (case h2 => first | decide | omega))
  | ((with_reducible refine w_mulL ?h1 ?h2 ?_); (case h1 => first | decide | omega); (case h2 => first | decide | omega))
  | with_reducible refine w_iadd_int ?_
  | ((with_reducible refine w_iadd_str ?hl ?_); (case hl => walk_at "len"))
  | ((with_reducible refine w_mk ?hl ?_); (case hl => walk_at "len"))
  | with_reducible refine w_lt_int ?_
  | with_reducible refine w_lt_str ?_
  | with_reducible refine w_le_int ?_
  | with_reducible refine w_le_str ?_
  | with_reducible refine w_gt ?_
  | with_reducible refine w_ge ?_
  | with_reducible refine w_eq_int ?_
  | with_reducible refine w_eq_str ?_
  | with_reducible refine w_ne_int ?_
  | with_reducible refine w_ne_str ?_
  | ((with_reducible refine w_isInt (d := ?vd) ?hd ?_); (case hd => walk_at "dp"))
  | ((with_reducible refine w_isBool (d := ?vd) ?hd ?_); (case hd => walk_at "dp"))
  | ((with_reducible refine w_isStr (d := ?vd) ?hd ?_); (case hd => walk_at "dp"))
  | ((with_reducible refine w_isTup (d := ?vd) ?hd ?_); (case hd => walk_at "dp"))
  | ((with_reducible refine w_isLst (d := ?vd) ?hd ?_); (case hd => walk_at "dp"))
  | refine w_in_str ?_
  | refine w_nin_str ?_
  | ((with_reducible refine w_ixL (xs := ?vv) (y := ?vr) ?h ?ha ?_); (case h => walk_at "hx"); (case ha => rfl))
  | with_reducible refine w_is ?_
  | with_reducible refine w_isnot ?_
  | ((with_reducible refine w_len_str ?hl ?_); (case hl => walk_at "len"))
  | ((with_reducible refine w_len (xs := ?vv) ?hl ?_); (case hl => walk_at "hx"))
  | with_reducible refine w_int_int ?_
  | with_reducible refine w_str_str ?_
  | with_reducible refine w_abs ?_
  | ((with_reducible refine w_sl_str ?hl ?_); (case hl => walk_at "len"))
  | ((with_reducible refine w_fldAt (C := ?vC) (dx := ?vdx) (fs := ?vfs) (v := ?vv) ?h1 ?h2 ?h3 ?h4 ?_); (case h1 => walk_at "hx"); (case h2 => assumption); (case h3 => assumption); (case h4 => rfl))
  | ((with_reducible refine w_methAt (dx := ?vdx) (fs := ?vfs) ?h1 ?h2 ?_); (case h1 => walk_at "hx"); (case h2 => rfl))
  | ((with_reducible refine w_iteP ?h1 ?_); (case h1 => walk_at "yes"))
  | ((with_reducible refine w_iteN ?h1 ?_); (case h1 => walk_at "no")))
local macro_rules | `(tactic| walk_at "yes") => `(tactic| first | assumption | ((with_reducible refine bnotT ?_); walk_at "no") | (refine decide_eq_true ?_; first | assumption | omega) | exact rfl)
local macro_rules | `(tactic| walk_at "no") => `(tactic| first | assumption | ((with_reducible refine bnotF ?_); walk_at "yes") | (refine decide_eq_false ?_; first | assumption | omega) | exact rfl)
local macro_rules | `(tactic| walk_at "len") => `(tactic| first | assumption | exact Nat.le_of_ble_eq_true rfl | omega | decide | (simp only [List.length_append, List.length_cons, List.length_nil, List.length_map]; omega))
local macro_rules | `(tactic| walk_at "ne") => `(tactic| first | assumption | (refine Ne.symm ?_; assumption))
local macro_rules | `(tactic| walk_at "hx") => `(tactic| first
  | assumption
  | exact upd_same
  | ((with_reducible refine sqa_l ?_); walk_at "hx")
  | ((with_reducible refine sqa_t ?_); walk_at "hx")
  | ((with_reducible refine SqL.of ?_); walk_at "hx")
  | ((with_reducible refine SqT.of ?_); walk_at "hx")
  | ((with_reducible refine at_same (by assumption) ?_); walk_at "hx")
  | ((with_reducible refine at_but (by assumption) ?hne ?_); (case hne => walk_at "ne"); walk_at "hx")
  | ((with_reducible refine Txt.tup (by assumption) _ _ ?_); walk_at "hx")
  | ((with_reducible refine Same.seq (by assumption) ?_); walk_at "hx")
  | ((with_reducible refine Same.seqT (by assumption) ?_); walk_at "hx")
  | ((with_reducible refine Dp.same (by assumption) _ _ ?_); walk_at "hx")
  | ((with_reducible refine DpAll.same (by assumption) _ _ ?_); walk_at "hx"))
local macro_rules | `(tactic| walk_at "go") => `(tactic| repeat (first | walk_at "1" | walk_at "2"))
local macro_rules | `(tactic| walk_at "dp") => `(tactic| first | exact .int _ | exact .str _ | exact .bl _ | exact .non | walk_at "hx")

section
variable {P : Program} {w : World} {K : PySem.W.Frag} {mg : Str → Option Value} {base : Heap} {CM CR : Addr}
def spTold (K : PySem.W.Frag) : Sp := fun vs H Q _ => ∃ which v d, vs = [.int which, v] ∧ Dp K H v d ∧
  ((which = 0 ∧ fitS d ∧ siz d ≤ 1000000 ∧ (∀ l, wrd d 1 = some l → l.length ≤ 10000000) ∧ (∀ l, wrd d 1 = some l → ∀ p H', Same H H' → H' p = some (.lst [.str ⟨l.toArray⟩]) → Q (.ref p) H') ∧ (wrd d 1 = none → ∀ H', Same H H' → Q .non H')) ∨
   (which = 1 ∧ shortR d ∧ (∀ d', readD d = some d' → ∀ p v' H', Same H H' → H' p = some (.lst [v']) → Dp K H' v' d' → Lay.fz d' = true → Q (.ref p) H') ∧ (readD d = none → ∀ H', Same H H' → Q .non H')))
theorem ok_law_told {f : Addr} {fd : FuncData} (T : Facts w K mg CM) (F : Fun K "_law_told" "_law_told" s__law_told f fd) (c_write_data : FnX P w K mg base 4 "write_data" (spWrite K CM)) (c_read_data : FnX P w K mg base 4 "read_data" (spRead K CM)) :
    FnOk P w K mg base CX0 5 f fd ["which", "value"] (spTold K) := by
  refine F.ok sc__law_told (fun vs H Q E h => ?_) (fun cdv A outer s H vs Q E hr h => ?_)
  · obtain ⟨which, v, d, rfl, _⟩ := h
    rfl
  · obtain ⟨which, v, d, rfl, hd, h⟩ := h
    refine ⟨_, (pss_one (ps_try_only rfl rfl ⟨rfl, by decide, .inl T.g_Malformed⟩ takes0 (fun W pn xe tk pw_ => (pss_one (ps_ret (pe_ifExp (pt_cmpR (op_eqA (K := K) hr.units) (pv 0) pe_int (nomark _)) (pe_lstG (pa_cons (pe_fs c_write_data hr (by first | decide | omega) (fun σ => passAt tk σ) (pa_cons (pv 1) pa_nil)) pa_nil)) (pe_lstG (pa_cons (pe_fs c_read_data hr (by first | decide | omega) (fun σ => passAt tk σ) (pa_cons (pv 1) pa_nil)) pa_nil)))))) (fun a_ oe_ cls_ d_ pn_ _ _ => (pss_one (ps_ret pe_non))))), ?_⟩
    try dsimp only [cxOf]
    refine w_start (show _ = [some _, some _] from rfl) ?_
    rcases h with ⟨rfl, hf, hz, hl, q1, q2⟩ | ⟨rfl, hz, q1, q2⟩
    · walk_at "go"
      refine ⟨v, d, rfl, hd, hf, hz, hl, fun l hl H1 e1 => ?_, fun hl H1 e1 => ?_⟩
      · walk_at "go"
        intro p H2 n2 e2 h2
        exact q1 l hl p H2 (e1.trans e2) h2
      · refine ⟨true, T.e_Malformed, fun _ a ha => ?_, fun q => nomatch q⟩
        walk_at "go"
        exact q2 hl H1 e1
    · walk_at "go"
      refine ⟨v, d, rfl, hd, hz, fun d' hr' v' H1 e1 hd' hf' => ?_, fun hr' H1 e1 => ?_⟩
      · walk_at "go"
        intro p H2 n2 e2 h2
        exact q1 d' hr' p v' H2 (e1.trans e2) h2 (Dp.same e2 d' v' hd') hf'
      · refine ⟨true, T.e_Malformed, fun _ a ha => ?_, fun q => nomatch q⟩
        walk_at "go"
        exact q2 hr' H1 e1
end
end K53

set_option exponentiation.threshold 256
set_option Elab.async false
set_option linter.all false
set_option maxRecDepth 100000
set_option maxHeartbeats 4000000
set_option exponentiation.threshold 10
namespace K53
open PySem PySem.Spec PyProof.Rows L2 Lay DataM PySem.NumText
mutual
theorem wr_wrd : ∀ (d : PyData) (l : Tx) (n : Nat), DataM.wr d = some l → okI d → dep d + n ≤ 1001 → wrd d n = some l
  | .tuple ds, l, n, h, ho, hn => by
    simp only [DataM.wr] at h
    simp only [okI] at ho
    simp only [dep] at hn
    cases hx : wrj ds with
    | none =>
      rw [hx] at h
      cases h
    | some x =>
      rw [hx] at h
      cases h
      simp only [wrd]
      rw [if_pos (by omega), wrj_wrdj ds x (n + 1) hx ho (by omega)]
      rfl
  | .str s, l, n, h, _, _ => by
    simp only [DataM.wr] at h
    rw [wrd_atom rfl]
    unfold atomP
    split at h
    · rename_i hw
      cases h
      show Option.map _ (if isWordT s.cps.toList = true then _ else _) = _
      rw [if_pos hw]
      rfl
    · rename_i hw
      split at h
      · rename_i he
        cases h
        have : s = "" := str_ext he
        show Option.map _ (if isWordT s.cps.toList = true then _ else if s = Str.ofString "" then some (Str.ofString ".") else none) = _
        rw [if_neg hw, if_pos this]
        rfl
      · cases h
  | .bool b, l, n, h, _, _ => by
    simp only [DataM.wr] at h
    cases h
    cases b <;> rfl
  | .int i, l, n, h, ho, _ => by
    simp only [DataM.wr] at h
    simp only [okI] at ho
    cases h
    rw [wrd_atom rfl]
    unfold atomP
    show Option.map _ (if i.natAbs < 10 ^ 4000 then _ else none) = _
    rw [if_pos ho]
    rfl
  | .none, _, _, h, _, _ | .list _, _, _, h, _, _ | .dict _, _, _, h, _, _ => by cases h
theorem wrj_wrdj : ∀ (ds : List PyData) (l : Tx) (n : Nat), wrj ds = some l → okIs ds → depAll ds + n ≤ 1001 → wrdj ds n = some l
  | [], l, n, h, _, _ => by
    simp only [wrj] at h
    simp only [wrdj]
    exact h
  | d :: ds, l, n, h, ho, hn => by
    simp only [wrj] at h
    simp only [okIs] at ho
    simp only [depAll] at hn
    cases ha : DataM.wr d with
    | none =>
      rw [ha] at h
      cases h
    | some a =>
      cases hb : wrj ds with
      | none =>
        rw [ha, hb] at h
        cases h
      | some b =>
        rw [ha, hb] at h
        simp only [wrdj]
        rw [wr_wrd d a n ha ho.1 (by omega), wrj_wrdj ds b n hb ho.2 (by omega)]
        exact h
end
mutual
theorem wr_fit : ∀ (d : PyData) (l : Tx), DataM.wr d = some l → fitS d ∧ siz d ≤ 2 * l.length ∧ ∀ c ∈ l, c < 1114112
  | .tuple ds, l, h => by
    simp only [DataM.wr] at h
    cases hx : wrj ds with
    | none =>
      rw [hx] at h
      cases h
    | some x =>
      rw [hx] at h
      cases h
      have ih := wrj_fit ds x hx
      refine ⟨by simp only [fitS]; exact ih.1, ?_, fun c hc => ?_⟩
      · simp only [siz]
        have := ih.2.1
        show sizs ds + 2 ≤ 2 * (91 :: (x ++ [93])).length
        simp only [List.length_cons, List.length_append, List.length_nil]
        omega
      · change c ∈ 91 :: (x ++ [93]) at hc
        rcases List.mem_cons.mp hc with rfl | hc
        · decide
        · rcases List.mem_append.mp hc with hc | hc
          · exact ih.2.2 c hc
          · rw [List.mem_singleton.mp hc]
            decide
  | .str s, l, h => by
    have hp := wr_okP (.str s) l h
    simp only [okP] at hp
    simp only [DataM.wr] at h
    have hl := len_l s
    split at h
    · rename_i hw
      cases h
      have hw2 := hw
      unfold isWordT at hw2
      simp only [Bool.and_eq_true, decide_eq_true_eq] at hw2
      refine ⟨by show s.length ≤ 1000000; omega, by simp only [siz]; omega, hp⟩
    · split at h
      · rename_i he
        cases h
        rw [he] at hl
        refine ⟨by show s.length ≤ 1000000; simp at hl; omega, by simp [siz], by decide⟩
      · cases h
  | .bool b, l, h => by
    simp only [DataM.wr] at h
    cases h
    cases b <;> exact ⟨trivial, by decide, by decide⟩
  | .int i, l, h => by
    simp only [DataM.wr] at h
    cases h
    have hne := (digs_sep i).1
    have : 1 ≤ (digs i).length := by
      cases hd : digs i with
      | nil => exact absurd hd hne
      | cons a b => simp
    refine ⟨trivial, by simp only [siz]; omega, fun c hc => ?_⟩
    cases i with
    | ofNat m =>
      rw [show (Int.ofNat m) = (m : Int) from rfl, digs_nat] at hc
      have := nats_all m c hc
      omega
    | negSucc m =>
      rw [digs_neg] at hc
      rcases List.mem_cons.mp hc with rfl | hc
      · decide
      · have := nats_all (m + 1) c hc
        omega
  | .none, _, h | .list _, _, h | .dict _, _, h => by cases h
theorem wrj_fit : ∀ (ds : List PyData) (l : Tx), wrj ds = some l → fitSs ds ∧ sizs ds ≤ 2 * l.length + 1 ∧ ∀ c ∈ l, c < 1114112
  | [], l, h => by
    simp only [wrj] at h
    cases h
    exact ⟨by simp only [fitSs], by simp [sizs], fun c hc => by cases hc⟩
  | d :: ds, l, h => by
    simp only [wrj] at h
    cases ha : DataM.wr d with
    | none =>
      rw [ha] at h
      cases h
    | some a =>
      cases hb : wrj ds with
      | none =>
        rw [ha, hb] at h
        cases h
      | some b =>
        rw [ha, hb] at h
        have i1 := wr_fit d a ha
        have i2 := wrj_fit ds b hb
        cases ds with
        | nil =>
          simp at h
          subst h
          refine ⟨by simp only [fitSs]; exact ⟨i1.1, trivial⟩, by simp only [sizs]; omega, i1.2.2⟩
        | cons d2 ds =>
          simp at h
          subst h
          refine ⟨by simp only [fitSs] at i2 ⊢; exact ⟨i1.1, i2.1⟩, ?_, fun c hc => ?_⟩
          · have h1 := i1.2.1
            have h2 := i2.2.1
            simp only [sizs, List.length_append, List.length_cons] at *
            omega
          · rcases List.mem_append.mp hc with hc | hc
            · exact i1.2.2 c hc
            · rcases List.mem_cons.mp hc with rfl | hc
              · decide
              · exact i2.2.2 c hc
end
mutual
theorem ints_ok {M : Nat} (hM : M ≤ 4000) : ∀ d : PyData, intsB M d → okI d
  | .tuple ds, h => by
    simp only [intsB] at h
    simp only [okI]
    exact intss_ok hM ds h
  | .int i, h => by
    simp only [intsB] at h
    simp only [okI]
    exact Nat.lt_of_lt_of_le h (Nat.pow_le_pow_right (by decide) hM)
  | .str _, _ | .bool _, _ | .none, _ | .list _, _ | .dict _, _ => by simp only [okI]
theorem intss_ok {M : Nat} (hM : M ≤ 4000) : ∀ ds : List PyData, intsBs M ds → okIs ds
  | [], _ => by simp only [okIs]
  | d :: ds, h => by
    simp only [intsBs] at h
    simp only [okIs]
    exact ⟨ints_ok hM d h.1, intss_ok hM ds h.2⟩
end
structure Near (l : Tx) : Prop where
  len : l.length ≤ 20000
  mb : mb l ≤ 8
  runs : Runs 90 l
  no : ∀ c ∈ l, c ≠ 59
theorem mb_semi (l : Tx) : DataM.mb (l ++ [59]) = DataM.mb l := by
  have h := sm_pre l []
  have h2 := mb_nonneg l
  rw [mb_app, show DataM.mb [59] = 0 from rfl]
  rw [List.append_nil] at h
  omega
theorem near_fine {d : PyData} {l : Tx} (h : Fine 5 (lenB 5) d l) : Near l := by
  have hm := mb_wr d l h.wr
  have hd := h.dep
  have hl := h.len
  have e : lenB 5 = 10932 := rfl
  exact ⟨by omega, by omega, h.runs.mono (by decide), h.no⟩
theorem near_edit {d : PyData} {l mid : Tx} {i j : Nat} (h : Fine 5 (lenB 5) d l) (hm : mid.length ≤ 1) (hm2 : ∀ c ∈ mid, c ≠ 59) (hj : j = i ∨ j = i + 1) : Near (l.take i ++ mid ++ l.drop j) := by
  have hmb := mb_wr d l h.wr
  have hd := h.dep
  have hl := h.len
  have e : lenB 5 = 10932 := rfl
  have hcut : DataM.mb (l.take i ++ l.drop j) ≤ DataM.mb l + 1 := by
    rcases hj with rfl | rfl
    · rw [List.take_append_drop]
      omega
    · by_cases hi : i < l.length
      · have h2 : l = l.take i ++ l[i] :: l.drop (i + 1) := by
          rw [← List.drop_eq_getElem_cons hi, List.take_append_drop]
        have h3 := mb_del (l.take i) l[i] (l.drop (i + 1))
        rw [← h2] at h3
        exact h3
      · rw [List.take_of_length_le (by omega), List.drop_of_length_le (by omega), List.append_nil]
        omega
  refine ⟨?_, ?_, ?_, fun c hc => ?_⟩
  · simp only [List.length_append, List.length_take, List.length_drop]
    omega
  · cases mid with
    | nil =>
      rw [List.append_nil]
      omega
    | cons c m =>
      have : m = [] := List.length_eq_zero_iff.mp (by simpa using hm)
      subst this
      rw [List.append_assoc]
      have h3 := mb_ins (l.take i) c (l.drop j)
      show DataM.mb (l.take i ++ c :: l.drop j) ≤ 8
      omega
  · exact ((((h.runs.take i).app (Runs.of_len hm)).app (h.runs.drop j))).mono (by omega)
  · rcases List.mem_append.mp hc with hc | hc
    · rcases List.mem_append.mp hc with hc | hc
      · exact h.no c (List.mem_of_mem_take hc)
      · exact hm2 c hc
    · exact h.no c (List.mem_of_mem_drop hc)
theorem near_read {l : Tx} {d : PyData} (h : Near l) (hr : readT l = some d) : DataM.wr d = some l ∧ okI d ∧ dep d ≤ 8 ∧ okP d ∧ d.showable = true ∧ d.hasDict = false ∧ d.depth ≤ 8 ∧ d.shown.length ≤ 240000 := by
  have hw := read_wr hr
  have hi := wr_ints d l hw h.runs
  have hp := wr_okP d l hw
  have hm := mb_wr d l hw
  have hb := h.mb
  have hs := okP_show (M := 90) (by decide) d hp hi
  have hdp := (okP_lay d hp).2
  have hl := shown_len d l hw
  have hlen := h.len
  exact ⟨hw, ints_ok (by decide) d hi, by omega, hp, hs.1, hs.2, by omega, by omega⟩
def nest : Nat → PyData
  | 0 => .tuple []
  | n + 1 => .tuple [nest n]
theorem brk_succ (k : Nat) : 91 :: ((List.replicate (k + 1) 91 ++ List.replicate (k + 1) 93) ++ [93]) = List.replicate (k + 1 + 1) 91 ++ List.replicate (k + 1 + 1) 93 := by
  rw [List.replicate_succ (n := k + 1) (a := 91), List.replicate_succ' (n := k + 1) (a := 93), List.cons_append, List.append_assoc]
theorem nest_wrd : ∀ (k n : Nat), wrd (nest k) n = if n + k ≤ 1000 then some (List.replicate (k + 1) 91 ++ List.replicate (k + 1) 93) else none
  | 0, n => by
    simp only [nest, wrd, wrdj]
    by_cases h : n ≤ 1000
    · rw [if_pos h, if_pos (by omega)]
      rfl
    · rw [if_neg h, if_neg (by omega)]
  | k + 1, n => by
    simp only [nest, wrd, wrdj, nest_wrd k (n + 1)]
    by_cases h : n + (k + 1) ≤ 1000
    · rw [if_pos (by omega), if_pos (by omega), if_pos h, ← brk_succ k]
      rfl
    · by_cases h2 : n ≤ 1000
      · rw [if_pos h2, if_neg (by omega), if_neg h]
        rfl
      · rw [if_neg h2, if_neg h]
theorem nest_wr : ∀ k : Nat, DataM.wr (nest k) = some (List.replicate (k + 1) 91 ++ List.replicate (k + 1) 93) ∧ okI (nest k) ∧ dep (nest k) = k + 1 ∧ siz (nest k) = 2 + 3 * k ∧ fitS (nest k)
  | 0 => ⟨rfl, trivial, rfl, rfl, trivial⟩
  | k + 1 => by
    have ih := nest_wr k
    refine ⟨?_, ?_, ?_, ?_, ?_⟩
    · simp only [nest, DataM.wr, wrj, ih.1]
      rw [← brk_succ k]
      rfl
    · simp only [nest, okI, okIs]
      exact ⟨ih.2.1, trivial⟩
    · simp only [nest, dep, depAll, ih.2.2.1]
      omega
    · simp only [nest, siz, sizs, ih.2.2.2.1]
      omega
    · simp only [nest, fitS, fitSs]
      exact ⟨ih.2.2.2.2, trivial⟩
theorem nine_val : ∀ n : Nat, digitsVal (List.replicate n 57) + 1 = 10 ^ n
  | 0 => rfl
  | n + 1 => by
    have ih := nine_val n
    rw [List.replicate_succ', digitsVal_snoc, Nat.pow_succ]
    omega
theorem nine_all (n : Nat) : AllDigits (List.replicate n 57) := fun c hc => by
  rw [List.eq_of_mem_replicate hc]
  decide
theorem nine_ne : List.replicate 4000 57 ≠ ([] : Tx) := by
  intro h
  have := congrArg List.length h
  simp at this
theorem nine_digs : digs ((digitsVal (List.replicate 4000 57) : Nat) : Int) = List.replicate 4000 57 := by
  rw [digs_nat]
  refine nats_of (nine_all 4000) nine_ne fun h => ?_
  rw [List.replicate_succ] at h
  simp at h
theorem pcs_one {p : Tx} (h : ∀ c ∈ p, sep c = false) (hne : p ≠ []) : pcs [] p = [p] := by
  have := pcs_atom (t := []) h hne (.inl rfl)
  rw [List.append_nil] at this
  rw [this, pcs_nil]
  rfl
theorem read_atom1 {p : Tx} (h : ∀ c ∈ p, sep c = false) (hne : p ≠ []) : readT p = atomT p := by
  unfold readT
  rw [pcs_one h hne]
  show (([p] : List Tx).foldlM R.take R.zero).bind R.fin = _
  have e : ([p] : List Tx).foldlM R.take R.zero = (atomT p).bind R.zero.item := by
    show (R.zero.take p).bind (fun s' => some s') = _
    rw [take_tok h]
    cases (atomT p).bind R.zero.item <;> rfl
  rw [e]
  cases atomT p <;> rfl
theorem dig_sep {p : Tx} (h : ∀ c ∈ p, c = 45 ∨ (48 ≤ c ∧ c ≤ 57)) : ∀ c ∈ p, sep c = false := fun c hc => by
  have := h c hc
  unfold sep
  simp only [Bool.or_eq_false_iff, beq_eq_false_iff_ne]
  omega
theorem atom_long {p : Tx} (h : 13 ≤ p.length) : atomT p = if numOk p then some (.int (numV p)) else none := by
  unfold atomT
  have ne : ∀ c, ¬ p = [c] := fun c e => by
    rw [e] at h
    simp at h
  have hw : isWordT p = false := by
    unfold isWordT
    rw [decide_eq_false (show ¬ p.length ≤ 12 by omega)]
    simp
  rw [if_neg (ne 43), if_neg (ne 45), if_neg (ne 46), hw]
  rfl
theorem nine_neg : ∃ d, readT (45 :: List.replicate 4000 57) = some d := by
  have hs : ∀ c ∈ 45 :: List.replicate 4000 57, c = 45 ∨ (48 ≤ c ∧ c ≤ 57) := fun c hc => by
    rcases List.mem_cons.mp hc with rfl | hc
    · exact .inl rfl
    · exact .inr (nine_all 4000 c hc)
  rw [read_atom1 (dig_sep hs) (by simp), atom_long (by rw [List.length_cons, List.length_replicate]; decide)]
  have : numOk (45 :: List.replicate 4000 57) = true := by
    unfold numOk
    rw [body_neg, List.length_replicate, allDig_to (nine_all 4000)]
    have e : (List.replicate 4000 57).headD 0 = 57 := by rw [List.replicate_succ]; rfl
    rw [e]
    rfl
  rw [this]
  exact ⟨_, rfl⟩
theorem nine_long : readT (List.replicate 4000 57 ++ [48]) = none := by
  have hs : ∀ c ∈ List.replicate 4000 57 ++ [48], c = 45 ∨ (48 ≤ c ∧ c ≤ 57) := fun c hc => by
    rcases List.mem_append.mp hc with hc | hc
    · exact .inr (nine_all 4000 c hc)
    · rw [List.mem_singleton.mp hc]
      decide
  rw [read_atom1 (dig_sep hs) (by simp), atom_long (by rw [List.length_append, List.length_replicate]; decide)]
  have : numOk (List.replicate 4000 57 ++ [48]) = false := by
    unfold numOk
    have hb : bodyT (List.replicate 4000 57 ++ [48]) = List.replicate 4000 57 ++ [48] := by
      refine body_pos ?_
      rw [List.replicate_succ]
      simp
    rw [hb, List.length_append, List.length_replicate]
    rfl
  rw [this]
  rfl
theorem opens : ∀ (k : Nat) (r : R), r.rd = true → (List.replicate k ([91] : Tx)).foldlM R.take r = if k = 0 ∨ r.st.length + k ≤ 1000 then some ⟨List.replicate k [] ++ r.st, true, r.td⟩ else none
  | 0, r, h => by
    rw [if_pos (.inl rfl)]
    obtain ⟨st, rd, td⟩ := r
    cases h
    rfl
  | k + 1, r, h => by
    rw [List.replicate_succ, List.foldlM_cons]
    have e : r.take [91] = r.opn := rfl
    rw [e]
    unfold R.opn
    by_cases hl : r.st.length < 1000
    · rw [if_pos ⟨h, hl⟩]
      show (List.replicate k ([91] : Tx)).foldlM R.take ⟨[] :: r.st, r.rd, r.td⟩ = _
      rw [opens k ⟨[] :: r.st, r.rd, r.td⟩ h]
      by_cases hk : r.st.length + (k + 1) ≤ 1000
      · rw [if_pos (.inr (by simp; omega)), if_pos (.inr hk), List.replicate_succ' (n := k)]
        simp
      · rw [if_neg (by simp; omega), if_neg (by simp; omega)]
    · rw [if_neg (fun z => hl z.2), if_neg (by simp; omega)]
      rfl
theorem pcs_opens : ∀ (k : Nat) (t : Tx), pcs [] (List.replicate k 91 ++ t) = List.replicate k [91] ++ pcs [] t
  | 0, t => rfl
  | k + 1, t => by
    rw [List.replicate_succ, List.cons_append, pcs_sep rfl, pcs_opens k t, List.replicate_succ, List.cons_append]
theorem deep_none (t : Tx) : readT (List.replicate 1001 91 ++ t) = none := by
  unfold readT
  rw [pcs_opens, List.foldlM_append, opens 1001 R.zero rfl, if_neg (by simp [R.zero])]
  rfl
theorem deep_some : ∃ d, readT (List.replicate 1000 91 ++ List.replicate 1000 93) = some d :=
  ⟨nest 999, wr_read (nest_wr 999).1 (nest_wr 999).2.1 (by rw [(nest_wr 999).2.2.1]; decide)⟩
def bads : List PyData := [.none, .str "A", .str "+", .str "a b", .str "9a", .str "abcdefghijklm", .list [.int 1], .tuple [.int 1, .none], .tuple [.tuple [.none]], .list [.str "a"], .tuple [.str "a", .list []], .str "]", .tuple [.str "]"]]
theorem bads_no : ∀ d ∈ bads, wrd d 1 = none := by
  intro d hd
  unfold bads at hd
  simp only [List.mem_cons, List.not_mem_nil, or_false] at hd
  rcases hd with rfl | rfl | rfl | rfl | rfl | rfl | rfl | rfl | rfl | rfl | rfl | rfl | rfl <;> rfl
theorem bads_fit : ∀ d ∈ bads, fitS d ∧ siz d ≤ 1000000 := by
  intro d hd
  unfold bads at hd
  simp only [List.mem_cons, List.not_mem_nil, or_false] at hd
  rcases hd with rfl | rfl | rfl | rfl | rfl | rfl | rfl | rfl | rfl | rfl | rfl | rfl | rfl <;> simp [fitS, fitSs, siz, sizs] <;> decide
def odds : List PyData := [.none, .int 5, .tuple [.int 1], .str "", .str "[a][b]", .str "a,b", .str "[a"]
theorem odds_no : ∀ d ∈ odds, readD d = none ∧ shortR d := by
  intro d hd
  unfold odds at hd
  simp only [List.mem_cons, List.not_mem_nil, or_false] at hd
  rcases hd with rfl | rfl | rfl | rfl | rfl | rfl | rfl
  · exact ⟨rfl, trivial⟩
  · exact ⟨rfl, trivial⟩
  · exact ⟨rfl, trivial⟩
  · exact ⟨by decide, by show (_ : Nat) ≤ 400000; decide⟩
  · exact ⟨by decide, by show (_ : Nat) ≤ 400000; decide⟩
  · exact ⟨by decide, by show (_ : Nat) ≤ 400000; decide⟩
  · exact ⟨by decide, by show (_ : Nat) ≤ 400000; decide⟩
theorem mul_l (c : Nat) (s : Str) (hs : s.cps.toList = [c]) (n : Nat) (hn : 2 ≤ n) : (Txt.mul s (n : Int)).cps.toList = List.replicate n c := by
  unfold Txt.mul
  have hl : s.length = 1 := by rw [← len_l, hs]; rfl
  rw [if_neg (by omega), if_neg (by rw [hl]; simp; omega)]
  show (List.foldl (· ++ ·) #[] (List.replicate (n : Int).toNat s.cps)).toList = _
  rw [Int.toNat_natCast]
  have key : ∀ (k : Nat) (a : Array Nat), (List.foldl (· ++ ·) a (List.replicate k s.cps)).toList = a.toList ++ List.replicate k c := by
    intro k
    induction k with
    | zero => intro a; simp
    | succ k ih =>
      intro a
      rw [List.replicate_succ, List.foldl_cons, ih, Array.toList_append, hs, List.replicate_succ]
      simp
  rw [key]
  rfl
theorem mulOk_one (s : Str) (c : Nat) (hs : s.cps.toList = [c]) (n : Nat) (h1 : 1 ≤ n) (h2 : n ≤ 100000) : MulOk s (n : Int) := by
  have hl : s.length = 1 := by rw [← len_l, hs]; rfl
  refine ⟨?_, fun _ _ => ?_, fun _ _ => ?_⟩
  · rw [decide_eq_false (by omega), decide_eq_false (by omega)]
    rfl
  · rw [hl]
    have : (1 : Int) ≤ (2 ^ 63 - 1) / (n : Int) := by
      refine (Int.le_ediv_iff_mul_le (by omega)).mpr ?_
      omega
    omega
  · rw [hl, Int.toNat_natCast, Nat.one_mul]
    have : (100000 : Nat) < sizeLine := by decide
    exact decide_eq_false (by omega)
end K53

set_option exponentiation.threshold 256
set_option Elab.async false
set_option linter.all false
set_option maxRecDepth 100000
set_option maxHeartbeats 4000000
set_option exponentiation.threshold 10
namespace K53
open PySem PySem.Spec PyProof.Rows L2 Lay DataM PySem.NumText
local macro_rules | `(tactic| walk_at "1") => `(tactic| first
  | with_reducible refine w_seq ?_
  | ((with_reducible refine w_var (v := ?vv) ?hv ?_); (case hv => rfl))
  | with_reducible refine w_c ?_
  | with_reducible refine w_m1 ?_
  | with_reducible refine w_isstr ?_
  | with_reducible refine w_bm0 ?_
  | with_reducible refine w_bm ?_
  | with_reducible refine w_gcons ?_
  | with_reducible refine w_gnil ?_
  | ((with_reducible refine w_ty (xs := ?vv) ?hv ?_); (case hv => walk_at "hx"))
  | ((with_reducible refine w_gtup (xs := ?vv) ?hv ?hl ?_); (case hv => walk_at "hx"); (case hl => rfl))
  | with_reducible refine w_for1 ?_
  | with_reducible refine w_for2 ?_
  | with_reducible refine w_for3 ?_
  | with_reducible refine w_forA ?_
  | with_reducible refine w_forE ?_
  | ((with_reducible refine w_aug (x := ?vv) ?hv ?_); (case hv => rfl))
  | with_reducible refine w_op ?_
  | with_reducible refine w_cb ?_
  | with_reducible refine w_acons ?_
  | with_reducible refine w_anil ?_
  | with_reducible refine w_set ?_
  | with_reducible refine w_if ?_
  | with_reducible refine w_test ?_
  | with_reducible refine w_tB ?_
  | with_reducible refine w_bl ?_
  | with_reducible refine w_and ?_
  | with_reducible refine w_or ?_
  | with_reducible refine w_not ?_
  | with_reducible refine w_iteT ?_
  | with_reducible refine w_iteF ?_
  | with_reducible refine w_ret ?_
  | with_reducible refine w_next ?_
  | with_reducible refine w_drop ?_
  | with_reducible refine w_call ?_
  | with_reducible refine w_ifx ?_
  | with_reducible refine w_andV ?_
  | with_reducible refine w_orV ?_
  | with_reducible refine w_notV ?_
  | with_reducible refine w_sl ?_
  | with_reducible refine w_nopart ?_
  | with_reducible refine w_part ?_
  | with_reducible refine w_exint ?_
  | with_reducible refine w_chain ?_
  | with_reducible refine w_par ?_
  | with_reducible refine w_two ?_
  | with_reducible refine w_par3 ?_
  | with_reducible refine w_three ?_
  | with_reducible refine w_asg ?_
  | with_reducible refine w_gset ?_
  | with_reducible refine w_retN ?_
  | with_reducible refine w_brk ?_
  | with_reducible refine w_cont ?_
  | with_reducible refine w_un ?_
  | with_reducible refine w_neg ?_
  | with_reducible refine w_callS ?_
  | with_reducible refine w_tup0 ?_
  | with_reducible refine w_lst0 ?_
  | with_reducible refine w_fld0 ?_
  | with_reducible refine w_sfld ?_
  | with_reducible refine w_gsub ?_
  | with_reducible refine w_iAny ?_
  | with_reducible refine w_iR1 ?_
  | with_reducible refine w_make ?_
  | with_reducible refine w_meth ?_)
local macro_rules | `(tactic| walk_at "2") => `(tactic| first
  | with_reducible refine w_add_int ?_
  | with_reducible refine w_sub ?_
  | ((with_reducible refine w_add_str ?hl ?_); (case hl => walk_at "len"))
  | ((with_reducible refine w_mod ?hl ?_); (case hl => first | decide | omega))
  | ((with_reducible refine w_fdiv ?h1 ?h2 ?_); (case h1 => first | decide | omega); (case h2 => first | decide | omega))
  | ((with_reducible refine w_mulR ?h1 ?h2 ?_); (case h1 => first | decide | omega); (case h2 => first | decide | omega))
  | ((with_reducible refine w_mulL ?h1 ?h2 ?_); (case h1 => first | decide | omega); (case h2 => first | decide | omega))
  | with_reducible refine w_iadd_int ?_
  | ((with_reducible refine w_iadd_str ?hl ?_); (case hl => walk_at "len"))
  | ((with_reducible refine w_mk ?hl ?_); (case hl => walk_at "len"))
  | with_reducible refine w_lt_int ?_
  | with_reducible refine w_lt_str ?_
  | with_reducible refine w_le_int ?_
  | with_reducible refine w_le_str ?_
  | with_reducible refine w_gt ?_
  | with_reducible refine w_ge ?_
  | with_reducible refine w_eq_int ?_
  | with_reducible refine w_eq_str ?_
  | with_reducible refine w_ne_int ?_
  | with_reducible refine w_ne_str ?_
  | ((with_reducible refine w_isInt (d := ?vd) ?hd ?_); (case hd => walk_at "dp"))
  | ((with_reducible refine w_isBool (d := ?vd) ?hd ?_); (case hd => walk_at "dp"))
  | ((with_reducible refine w_isStr (d := ?vd) ?hd ?_); (case hd => walk_at "dp"))
  | ((with_reducible refine w_isTup (d := ?vd) ?hd ?_); (case hd => walk_at "dp"))
  | ((with_reducible refine w_isLst (d := ?vd) ?hd ?_); (case hd => walk_at "dp"))
  | refine w_in_str ?_
  | refine w_nin_str ?_
  | ((with_reducible refine w_ixL (xs := ?vv) (y := ?vr) ?h ?ha ?_); (case h => walk_at "hx"); (case ha => rfl))
  | with_reducible refine w_is ?_
  | with_reducible refine w_isnot ?_
  | ((with_reducible refine w_len_str ?hl ?_); (case hl => walk_at "len"))
  | ((with_reducible refine w_len (xs := ?vv) ?hl ?_); (case hl => walk_at "hx"))
  | with_reducible refine w_int_int ?_
  | with_reducible refine w_str_str ?_
  | with_reducible refine w_abs ?_
  | ((with_reducible refine w_sl_str ?hl ?_); (case hl => walk_at "len"))
  | ((with_reducible refine w_fldAt (C := ?vC) (dx := ?vdx) (fs := ?vfs) (v := ?vv) ?h1 ?h2 ?h3 ?h4 ?_); (case h1 => walk_at "hx"); (case h2 => assumption); (case h3 => assumption); (case h4 => rfl))
  | ((with_reducible refine w_methAt (dx := ?vdx) (fs := ?vfs) ?h1 ?h2 ?_); (case h1 => walk_at "hx"); (case h2 => rfl))
  | ((with_reducible refine w_iteP ?h1 ?_); (case h1 => walk_at "yes"))
  | ((with_reducible refine w_iteN ?h1 ?_); (case h1 => walk_at "no")))
local macro_rules | `(tactic| walk_at "yes") => `(tactic| first | assumption | ((with_reducible refine bnotT ?_); walk_at "no") | (refine decide_eq_true ?_; first | assumption | omega) | exact rfl)
local macro_rules | `(tactic| walk_at "no") => `(tactic| first | assumption | ((with_reducible refine bnotF ?_); walk_at "yes") | (refine decide_eq_false ?_; first | assumption | omega) | exact rfl)
local macro_rules | `(tactic| walk_at "len") => `(tactic| first | assumption | exact Nat.le_of_ble_eq_true rfl | omega | decide | (simp only [List.length_append, List.length_cons, List.length_nil, List.length_map]; omega))
local macro_rules | `(tactic| walk_at "ne") => `(tactic| first | assumption | (refine Ne.symm ?_; assumption))
local macro_rules | `(tactic| walk_at "hx") => `(tactic| first
  | assumption
  | exact upd_same
  | ((with_reducible refine sqa_l ?_); walk_at "hx")
  | ((with_reducible refine sqa_t ?_); walk_at "hx")
  | ((with_reducible refine SqL.of ?_); walk_at "hx")
  | ((with_reducible refine SqT.of ?_); walk_at "hx")
  | ((with_reducible refine at_same (by assumption) ?_); walk_at "hx")
  | ((with_reducible refine at_but (by assumption) ?hne ?_); (case hne => walk_at "ne"); walk_at "hx")
  | ((with_reducible refine Txt.tup (by assumption) _ _ ?_); walk_at "hx")
  | ((with_reducible refine Same.seq (by assumption) ?_); walk_at "hx")
  | ((with_reducible refine Same.seqT (by assumption) ?_); walk_at "hx")
  | ((with_reducible refine Dp.same (by assumption) _ _ ?_); walk_at "hx")
  | ((with_reducible refine DpAll.same (by assumption) _ _ ?_); walk_at "hx"))
local macro_rules | `(tactic| walk_at "go") => `(tactic| repeat (first | walk_at "1" | walk_at "2"))
local macro_rules | `(tactic| walk_at "dp") => `(tactic| first | exact .int _ | exact .str _ | exact .bl _ | exact .non | walk_at "hx")

section
variable {P : Program} {w : World} {K : PySem.W.Frag} {mg : Str → Option Value} {base : Heap} {CM CR : Addr}
def S14 (σ : L2.St) : Prop := ∃ a0 a1 a2 a3 a4 a5 a6 a7 a8 a9 a10 a11 a12 a13, σ = [a0, a1, a2, a3, a4, a5, a6, a7, a8, a9, a10, a11, a12, a13]
theorem small_all {l : Tx} (h : ∀ c ∈ l, c < 1114112) : (PyData.str ⟨l.toArray⟩).canLay0 = true := by
  show PyData.strOk ⟨l.toArray⟩ = true
  unfold PyData.strOk
  rw [← Array.all_toList, List.all_eq_true]
  exact fun c hc => decide_eq_true (h c hc)
theorem ne_one {H : Hp} {p p2 : Addr} {x : Str} {Q : VK} (h1 : H p = some (.lst [.str x])) (h2 : H p2 = some (.lst [.str x])) (hx : ∀ c ∈ x.cps.toList, c < 1114112) (q : Q (.bl false) H) : rNeD K (.ref p) (.ref p2) H Q := by
  have hc : (PyData.str x).canLay0 = true := by
    have := small_all hx
    rwa [str_back] at this
  have hs : SeqAt.shaped (.list [.str x]) = true := shaped_of (by simp only [PyData.canLay0, PyData.canLayAll0]; exact (by rw [show PyData.strOk x = true from hc]; rfl)) (by simp [PyData.depth, PyData.depthAll])
  refine ⟨.list [.str x], .list [.str x], .lst (SqL.of h1) (.cons (.str _) .nil), .lst (SqL.of h2) (.cons (.str _) .nil), hs, hs, ?_⟩
  have e : PyData.eqv (.list [.str x]) (.list [.str x]) = true := by
    simp [PyData.eqv, PyData.eqvAll]
  rw [e]
  exact q
theorem repr_one {H : Hp} {p : Addr} {v : V} {d : PyData} {Q : VK} (h : H p = some (.lst [v])) (hd : Dp K H v d) (h1 : d.showable = true) (h2 : d.hasDict = false) (h3 : d.depth ≤ 8) (h4 : d.shown.length ≤ 240000) (q : Q (.str (PyData.shown (.list [d]))) H) : rReprA K [.ref p] H Q := by
  refine ⟨.ref p, .list [d], rfl, .lst (SqL.of h) (.cons hd .nil), ?_, ?_, ?_, ?_, q⟩
  · simp only [PyData.showable, PyData.showableAll, h1]
    rfl
  · simp only [PyData.hasDict, PyData.hasDictAll, h2]
    rfl
  · simp only [PyData.depth, PyData.depthAll]
    omega
  · have := PySem.listText_len_le (PyData.shownAll [d])
    simp only [PyData.shownAll, List.map_cons, List.map_nil, List.sum_cons, List.sum_nil, List.length_cons, List.length_nil] at this
    show (PySem.listText (PyData.shownAll [d])).length ≤ _
    have big : (300000 : Nat) ≤ sizeLine := by decide
    simp only [PyData.shownAll]
    omega
theorem repr_non {H : Hp} {Q : VK} (q : Q (.str (PyData.shown .none)) H) : rReprA K [.non] H Q := ⟨.non, .none, rfl, .non, rfl, rfl, by decide, by decide, q⟩
theorem told0_yes {H : Hp} {v : V} {d : PyData} {l : Tx} {Q : VK} {E : XK} (hd : Dp K H v d) (hf : fitS d) (hz : siz d ≤ 1000000) (hw : wrd d 1 = some l) (hl : l.length ≤ 10000000) (q : ∀ p H', Same H H' → H' p = some (.lst [.str ⟨l.toArray⟩]) → Q (.ref p) H') : spTold K [.int 0, v] H Q E :=
  ⟨0, v, d, rfl, hd, .inl ⟨rfl, hf, hz, fun l' h => (by rw [hw] at h; cases h; exact hl), fun l' h p H' e h' => (by rw [hw] at h; cases h; exact q p H' e h'), fun h => (by rw [hw] at h; cases h)⟩⟩
theorem told0_no {H : Hp} {v : V} {d : PyData} {Q : VK} {E : XK} (hd : Dp K H v d) (hf : fitS d) (hz : siz d ≤ 1000000) (hw : wrd d 1 = none) (q : ∀ H', Same H H' → Q .non H') : spTold K [.int 0, v] H Q E :=
  ⟨0, v, d, rfl, hd, .inl ⟨rfl, hf, hz, fun l' h => (by rw [hw] at h; cases h), fun l' h => (by rw [hw] at h; cases h), fun _ => q⟩⟩
theorem told1_yes {H : Hp} {z : Str} {Q : VK} {E : XK} (hz : z.length ≤ 400000) (h : ∃ d, readT z.cps.toList = some d) (q : ∀ p H', Same H H' → Q (.ref p) H') : spTold K [.int 1, .str z] H Q E := by
  obtain ⟨d, h⟩ := h
  exact ⟨1, .str z, .str z, rfl, .str _, .inr ⟨rfl, hz, fun d' _ p v' H' e _ _ _ => q p H' e, fun hn => (by rw [show readD (.str z) = readT z.cps.toList from rfl, h] at hn; cases hn)⟩⟩
theorem told1_no {H : Hp} {v : V} {d : PyData} {Q : VK} {E : XK} (hd : Dp K H v d) (hz : shortR d) (h : readD d = none) (q : ∀ H', Same H H' → Q .non H') : spTold K [.int 1, v] H Q E :=
  ⟨1, v, d, rfl, hd, .inr ⟨rfl, hz, fun d' hn => (by rw [h] at hn; cases hn), fun _ => q⟩⟩
def spLaw (K : PySem.W.Frag) : Sp := fun vs H Q _ => ∃ a, ∃ ns : List Int, vs = [.ref a] ∧ SqL K H a (ns.map V.int) ∧ ns.length ≤ 1000 ∧ ∀ H', Q (.bl true) H'
theorem ok_law {f : Addr} {fd : FuncData} (T : Facts w K mg CM) (F : Fun K "law" "law" s_law f fd) (c__law_draw : Fn0 P w K mg base 1 "_law_draw" (spDraw K)) (c__law_take : Fn0 P w K mg base 1 "_law_take" (spTakeN K))
    (c__law_data : Fn0 P w K mg base 7 "_law_data" (spData K 5)) (c__law_written : Fn0 P w K mg base 10 "_law_written" (spWr K 8)) (c__law_read : Fn0 P w K mg base 2 "_law_read" (spLR K)) (c__law_told : Fn0 P w K mg base 5 "_law_told" (spTold K)) :
    FnG P w K mg base CX0 11 f fd ["script"] (spLaw K) := by
  refine fng0 F sc_law (fun vs H Q E h => ?_) (fun cdv A outer s H vs Q E hG hr h => ?_)
  · obtain ⟨a, ns, rfl, _⟩ := h
    rfl
  · obtain ⟨a, ns, rfl, hs, hn, q⟩ := h
    refine ⟨_, (pss_cons (ps_set (i := 1) sc_law.nd rfl (by first | exact Or.inl rfl | exact Or.inr rfl) (pe_f0 c__law_draw hr (by first | decide | omega) (pa_cons (pv 0) pa_nil)))
    (pss_mid (ps_for PassesOwn.never rfl (pi_range1 (by rfl) T.b_range (pa_cons pe_int pa_nil)) (pg_name (i := 2) sc_law.nd rfl (by first | exact Or.inl rfl | exact Or.inr rfl)) (pss_cons (ps_set (i := 3) sc_law.nd rfl (by first | exact Or.inl rfl | exact Or.inr rfl) (pe_f0 c__law_data hr (by first | decide | omega) (pa_cons (pv 1) (pa_cons pe_int pa_nil))))
    (pss_cons (ps_set (i := 4) sc_law.nd rfl (by first | exact Or.inl rfl | exact Or.inr rfl) (pe_f0 c__law_written hr (by first | decide | omega) (pa_cons (pv 3) pa_nil)))
    (pss_cons (ps_if (PW.pt (pw_or (pt_cmpR (op_neA (K := K) hr.units) (pe_f0 c__law_told hr (by first | decide | omega) (pa_cons pe_int (pa_cons (pv 3) pa_nil))) (pe_lstG (pa_cons (pv 4) pa_nil)) (nomark _)) (pw_or1 (pt_cmpR (op_neA (K := K) hr.units) (pe_callB (call_reprA (K := K) hG hr.units) (by rfl) T.b_repr (by decide +kernel) (pa_cons (pe_f0 c__law_told hr (by first | decide | omega) (pa_cons pe_int (pa_cons (pv 4) pa_nil))) pa_nil)) (pe_callB (call_reprA (K := K) hG hr.units) (by rfl) T.b_repr (by decide +kernel) (pa_cons (pe_lstG (pa_cons (pv 3) pa_nil)) pa_nil)) (nomark _))))) (pss_one (ps_ret pe_bl)) pss_nil)
    (pss_one (ps_for PassesOwn.never rfl (pi_range1 (by rfl) T.b_range (pa_cons pe_int pa_nil)) (pg_name (i := 5) sc_law.nd rfl (by first | exact Or.inl rfl | exact Or.inr rfl)) (pss_cons (ps_par (i := 6) (j := 7) rfl sc_law.nd rfl rfl (by decide) rfl rfl (pa_cons (pe_f0 c__law_take hr (by first | decide | omega) (pa_cons (pv 1) (pa_cons (pe_op op_addA (pe_callB (call_lenA (K := K)) (by rfl) T.b_len (by decide +kernel) (pa_cons (pv 4) pa_nil)) pe_int) pa_nil))) (pa_cons (pe_ix (ix_A (K := K)) pe_str (pe_f0 c__law_take hr (by first | decide | omega) (pa_cons (pv 1) (pa_cons pe_int pa_nil))) (fun _ _ => rfl)) pa_nil)) (by rfl))
    (pss_one (ps_for PassesOwn.never rfl (pi_A (K := K) (pe_lstG (pa_cons (pe_op op_addA (pe_op op_addA (pe_slice (sl_A (K := K)) (pv 4) po_none (po_some (pv 6))) (pv 7)) (pe_slice (sl_A (K := K)) (pv 4) (po_some (pv 6)) po_none)) (pa_cons (pe_op op_addA (pe_slice (sl_A (K := K)) (pv 4) po_none (po_some (pv 6))) (pe_slice (sl_A (K := K)) (pv 4) (po_some (pe_op op_addA (pv 6) pe_int)) po_none)) (pa_cons (pe_op op_addA (pe_op op_addA (pe_slice (sl_A (K := K)) (pv 4) po_none (po_some (pv 6))) (pv 7)) (pe_slice (sl_A (K := K)) (pv 4) (po_some (pe_op op_addA (pv 6) pe_int)) po_none)) pa_nil))))) (pg_name (i := 8) sc_law.nd rfl (by first | exact Or.inl rfl | exact Or.inr rfl)) (pss_cons (ps_set (i := 9) sc_law.nd rfl (by first | exact Or.inl rfl | exact Or.inr rfl) (pe_f0 c__law_read hr (by first | decide | omega) (pa_cons (pv 8) pa_nil)))
    (pss_one (ps_if (pt_cmpR (op_neA (K := K) hr.units) (pe_callB (call_reprA (K := K) hG hr.units) (by rfl) T.b_repr (by decide +kernel) (pa_cons (pe_f0 c__law_told hr (by first | decide | omega) (pa_cons pe_int (pa_cons (pv 8) pa_nil))) pa_nil)) (pe_callB (call_reprA (K := K) hG hr.units) (by rfl) T.b_repr (by decide +kernel) (pa_cons (pe_ifExp (PW.pt (pw_and (pt_cmpR op_isNotA (pv 9) pe_non (nomark _)) (pw_and1 (pt_cmpR (op_eqA (K := K) hr.units) (pe_f0 c__law_written hr (by first | decide | omega) (pa_cons (pe_ix (ix_A (K := K)) (pv 9) pe_int (fun _ _ => rfl)) pa_nil)) (pv 8) (nomark _))))) (pv 9) pe_non) pa_nil)) (nomark _)) (pss_one (ps_ret pe_bl)) pss_nil))))))))))))
    (pss_mid (ps_for PassesOwn.never rfl (pi_A (K := K) (pe_lstG (pa_cons pe_non (pa_cons pe_str (pa_cons pe_str (pa_cons pe_str (pa_cons pe_str (pa_cons pe_str (pa_cons (pe_lstG (pa_cons pe_int pa_nil)) (pa_cons (pe_tupG (pa_cons pe_int (pa_cons pe_non pa_nil))) (pa_cons (pe_tupG (pa_cons (pe_tupG (pa_cons pe_non pa_nil)) pa_nil)) (pa_cons (pe_lstG (pa_cons pe_str pa_nil)) (pa_cons (pe_tupG (pa_cons pe_str (pa_cons (pe_lstG pa_nil) pa_nil))) (pa_cons pe_str (pa_cons (pe_tupG (pa_cons pe_str pa_nil)) pa_nil))))))))))))))) (pg_name (i := 10) sc_law.nd rfl (by first | exact Or.inl rfl | exact Or.inr rfl)) (pss_one (ps_if (pt_cmpR op_isNotA (pe_f0 c__law_told hr (by first | decide | omega) (pa_cons pe_int (pa_cons (pv 10) pa_nil))) pe_non (nomark _)) (pss_one (ps_ret pe_bl)) pss_nil)))
    (pss_mid (ps_set (i := 11) sc_law.nd rfl (by first | exact Or.inl rfl | exact Or.inr rfl) (pe_op op_mulA pe_str pe_int))
    (pss_mid (ps_if (PW.pt (pw_or (pt_cmpR (op_neA (K := K) hr.units) (pe_f0 c__law_told hr (by first | decide | omega) (pa_cons pe_int (pa_cons (pe_callTy (call_intG T.digits) (by rfl) T.b_int (by decide +kernel) (pa_cons (pv 11) pa_nil)) pa_nil))) (pe_lstG (pa_cons (pv 11) pa_nil)) (nomark _)) (pw_or (pt_cmpR op_isA (pe_f0 c__law_told hr (by first | decide | omega) (pa_cons pe_int (pa_cons (pe_op op_addA pe_str (pv 11)) pa_nil))) pe_non (nomark _)) (pw_or (pt_cmpR op_isNotA (pe_f0 c__law_told hr (by first | decide | omega) (pa_cons pe_int (pa_cons (pe_op op_addA (pv 11) pe_str) pa_nil))) pe_non (nomark _)) (pw_or1 (pt_cmpR op_isNotA (pe_f0 c__law_told hr (by first | decide | omega) (pa_cons pe_int (pa_cons (pe_op op_addA (pe_callTy (call_intG T.digits) (by rfl) T.b_int (by decide +kernel) (pa_cons (pv 11) pa_nil)) pe_int) pa_nil))) pe_non (nomark _))))))) (pss_one (ps_ret pe_bl)) pss_nil)
    (pss_mid (ps_set (i := 12) sc_law.nd rfl (by first | exact Or.inl rfl | exact Or.inr rfl) (pe_tupG pa_nil))
    (pss_mid (ps_for PassesOwn.never rfl (pi_range1 (by rfl) T.b_range (pa_cons pe_int pa_nil)) (pg_name (i := 2) sc_law.nd rfl (by first | exact Or.inl rfl | exact Or.inr rfl)) (pss_one (ps_set (i := 12) sc_law.nd rfl (by first | exact Or.inl rfl | exact Or.inr rfl) (pe_tupG (pa_cons (pv 12) pa_nil)))))
    (pss_mid (ps_if (PW.pt (pw_or (pt_cmpR (op_neA (K := K) hr.units) (pe_f0 c__law_told hr (by first | decide | omega) (pa_cons pe_int (pa_cons (pv 12) pa_nil))) (pe_lstG (pa_cons (pe_op op_addA (pe_op op_mulA pe_str pe_int) (pe_op op_mulA pe_str pe_int)) pa_nil)) (nomark _)) (pw_or (pt_cmpR op_isNotA (pe_f0 c__law_told hr (by first | decide | omega) (pa_cons pe_int (pa_cons (pe_tupG (pa_cons (pv 12) pa_nil)) pa_nil))) pe_non (nomark _)) (pw_or1 (pt_cmpR op_isNotA (pe_f0 c__law_told hr (by first | decide | omega) (pa_cons pe_int (pa_cons (pe_op op_addA (pe_op op_mulA pe_str pe_int) (pe_op op_mulA pe_str pe_int)) pa_nil))) pe_non (nomark _)))))) (pss_one (ps_ret pe_bl)) pss_nil)
    (pss_one (ps_ret (pe_and (pe_cmpR op_isNotA (pe_f0 c__law_told hr (by first | decide | omega) (pa_cons pe_int (pa_cons (pe_op op_addA (pe_op op_mulA pe_str pe_int) (pe_op op_mulA pe_str pe_int)) pa_nil))) pe_non (nomark _)) (pe_one (pe_cmpR (op_eqA (K := K) hr.units) (pe_lc (own := [("value", 13)]) (g := gName 13) (tt := tYes) rfl sc_law.nd (pi_A (K := K) (pe_lstG (pa_cons pe_non (pa_cons pe_int (pa_cons (pe_tupG (pa_cons pe_int pa_nil)) (pa_cons pe_str (pa_cons pe_str (pa_cons pe_str (pa_cons pe_str pa_nil))))))))) (blkOk_by (N := N_law) (sc := defScope s_law) (by decide +kernel)) (fun _ _ _ _ _ => pg_name (i := 13) sc_law.nd rfl (Or.inl rfl)) (fun _ _ _ _ _ => pts_nil) (fun _ _ _ _ _ => (pe_f0 c__law_told hr (by first | decide | omega) (pa_cons pe_int (pa_cons (pv 13) pa_nil))))) (pe_op op_mulA (pe_lstG (pa_cons pe_non pa_nil)) pe_int) (nomark _)))))))))))))), ?_⟩
    try dsimp only [cxOf]
    refine w_start (show _ = [some _, none, none, none, none, none, none, none, none, none, none, none, none, none] from rfl) ?_
    walk_at "go"
    refine ⟨a, ns, rfl, hs, hn, fun pd pc H1 npd npc e1 D1 => ?_⟩
    walk_at "go"
    refine w_mid (fun σ' _ => S14 σ') ?_ ?_
    · walk_at "go"
      refine r1_of (n := 4) rfl (by decide) ?_
      refine lp_range (fun t σ' H' => (∃ a2 a3 a4 a5 a6 a7 a8 a9 a10 a11 a12 a13, σ' = [some (.ref a), some (.ref pd), a2, a3, a4, a5, a6, a7, a8, a9, a10, a11, a12, a13]) ∧ Dr H' pd pc (t * 1500)) ⟨⟨none, none, none, none, none, none, none, none, none, none, none, none, rfl⟩, D1⟩ (fun t σ' H2 ht p => ?_) (fun σ' H2 p => ?_)
      · obtain ⟨⟨a2, a3, a4, a5, a6, a7, a8, a9, a10, a11, a12, a13, rfl⟩, D2⟩ := p
        have hcost : costB 5 = 1092 := rfl
        walk_at "go"
        refine ⟨pd, pc, t * 1500, rfl, D2, by omega, fun v d l H3 hf hv hfz b3 t3 D3 => ?_⟩
        have hnear := near_fine hf
        have hread := wr_read hf.wr hf.ok (by have := hf.dep; omega)
        obtain ⟨hw, hok, hdep, hokp, hsh, hnd, hdp, hsl⟩ := near_read hnear hread
        have hfit := wr_fit d l hw
        have hll := hnear.len
        have hLl : (⟨l.toArray⟩ : Str).length ≤ 20000 := by
          show l.toArray.size ≤ _
          rw [List.size_toArray]
          exact hll
        walk_at "go"
        refine ⟨v, d, l, rfl, hv, hw, hok, by omega, by omega, fun H4 e4 => ?_⟩
        walk_at "go"
        have hwrd : wrd d 1 = some l := wr_wrd d l 1 hw hok (by omega)
        have hv4 := Dp.same e4 d v hv
        refine ⟨0, v, d, rfl, hv4, .inl ⟨rfl, hfit.1, by omega, fun l' hl' => (by rw [hwrd] at hl'; cases hl'; omega), fun l' hl' p H5 e5 h5 => ?_, fun hn => (by rw [hwrd] at hn; cases hn)⟩⟩
        obtain rfl : l = l' := by
          rw [hwrd] at hl'
          exact Option.some.inj hl'
        walk_at "go"
        intro p2 H6 n6 e6 h6
        walk_at "go"
        refine Or.inr (ne_one (e6 _ _ h5) h6 hfit.2.2 ?_)
        walk_at "go"
        refine ⟨1, .str ⟨l.toArray⟩, .str ⟨l.toArray⟩, rfl, .str _, .inr ⟨rfl, by show _ ≤ 400000; omega, fun d' hr' p3 v3 H7 e7 h7 hd7 hf7 => ?_, fun hn => (by rw [show readD (.str ⟨l.toArray⟩) = readT l from rfl, hread] at hn; cases hn)⟩⟩
        obtain rfl : d = d' := by
          rw [show readD (.str ⟨l.toArray⟩) = readT l from rfl, hread] at hr'
          exact Option.some.inj hr'
        walk_at "go"
        refine repr_one h7 hd7 hsh hnd hdp hsl ?_
        have hv7 := Dp.same ((e5.trans e6).trans e7) d v hv4
        walk_at "go"
        intro p4 H8 n8 e8 h8
        walk_at "go"
        refine repr_one h8 (Dp.same e8 d v hv7) hsh hnd hdp hsl ?_
        walk_at "go"
        refine w_iteN (bnotF (decide_eq_true rfl)) ?_
        walk_at "go"
        have D8 : Dr H8 pd pc (t * 1500 + 1092) := D3.same ((((e4.trans e5).trans e6).trans e7).trans e8)
        refine r1_of (n := 8) rfl (by decide) ?_
        refine lp_range (fun k σ' H' => (∃ a2 a3 a5 a6 a7 a8 a9 a10 a11 a12 a13, σ' = [some (.ref a), some (.ref pd), a2, a3, some (.str ⟨l.toArray⟩), a5, a6, a7, a8, a9, a10, a11, a12, a13]) ∧ Dr H' pd pc (t * 1500 + 1092 + 2 * k)) ⟨⟨_, _, _, _, _, _, _, _, _, _, _, rfl⟩, D8⟩ (fun k σ' H9 hk p => ?_) (fun σ' H9 p => ?_)
        · obtain ⟨⟨a2, a3, a5, a6, a7, a8, a9, a10, a11, a12, a13, rfl⟩, D9⟩ := p
          walk_at "go"
          refine ⟨pd, pc, _, _, rfl, by omega, by omega, D9, by omega, fun i HA hi bA tA DA => ?_⟩
          walk_at "go"
          refine ⟨pd, pc, _, 11, rfl, by decide, by decide, DA, by omega, fun j HB hj bB tB DB => ?_⟩
          have hsg : (Str.ofString "[],a0-1 A+.").cps.toList.length = 11 := by decide
          have hj2 : j < (Str.ofString "[],a0-1 A+.").cps.toList.length := by omega
          have hsgn : ∀ c ∈ (Str.ofString "[],a0-1 A+.").cps.toList, c ≠ 59 := by decide
          have hjc := List.getElem?_eq_getElem hj2
          generalize (Str.ofString "[],a0-1 A+.").cps.toList[j] = c at hjc
          have hc59 : c ≠ 59 := hsgn c (List.mem_of_getElem? hjc)
          refine w_ix_str (c := c) (by decide) (atI_nat hjc) ?_
          walk_at "go"
          have hC : ∀ lo hi, (cutS ⟨l.toArray⟩ lo hi).length ≤ 20000 := fun lo hi => Nat.le_trans (cutS_length _ lo hi) hLl
          have h1c : (⟨#[c]⟩ : Str).length = 1 := rfl
          refine w_add_str (by have := hC none (some (i : Int)); omega) ?_
          walk_at "go"
          refine w_add_str (by rw [app_len]; have := hC none (some (i : Int)); have := hC (some (i : Int)) none; omega) ?_
          walk_at "go"
          refine w_add_str (by have := hC none (some (i : Int)); have := hC (some ((i : Int) + 1)) none; omega) ?_
          walk_at "go"
          refine w_add_str (by have := hC none (some (i : Int)); omega) ?_
          walk_at "go"
          refine w_add_str (by rw [app_len]; have := hC none (some (i : Int)); have := hC (some ((i : Int) + 1)) none; omega) ?_
          walk_at "go"
          intro p5 HC nC eC hC5
          have hL0 : (⟨l.toArray⟩ : Str).cps.toList = l := rfl
          have hnears : ∀ (m : Nat) (y : V), [V.str (cutS ⟨l.toArray⟩ none (some (i : Int)) ++ ⟨#[c]⟩ ++ cutS ⟨l.toArray⟩ (some (i : Int)) none), V.str (cutS ⟨l.toArray⟩ none (some (i : Int)) ++ cutS ⟨l.toArray⟩ (some ((i : Int) + 1)) none), V.str (cutS ⟨l.toArray⟩ none (some (i : Int)) ++ ⟨#[c]⟩ ++ cutS ⟨l.toArray⟩ (some ((i : Int) + 1)) none)][m]? = some y → ∃ z : Str, y = V.str z ∧ Near z.cps.toList := fun m y hy => by
            have hcast : ((i : Int) + 1) = ((i + 1 : Nat) : Int) := by omega
            have hone : (⟨#[c]⟩ : Str).cps.toList = [c] := rfl
            have hm2 : ∀ x ∈ [c], x ≠ 59 := fun x hx => by rw [List.mem_singleton.mp hx]; exact hc59
            match m, hy with
            | 0, hy =>
              refine ⟨_, (Option.some.inj hy).symm, ?_⟩
              rw [app_l, app_l, cut_hi, cut_lo, hone]
              exact near_edit hf (by simp) hm2 (.inl rfl)
            | 1, hy =>
              refine ⟨_, (Option.some.inj hy).symm, ?_⟩
              rw [app_l, cut_hi, hcast, cut_lo]
              have := near_edit (mid := []) hf (i := i) (j := i + 1) (by simp) (fun x hx => by cases hx) (.inr rfl)
              rw [List.append_nil] at this
              exact this
            | 2, hy =>
              refine ⟨_, (Option.some.inj hy).symm, ?_⟩
              rw [app_l, app_l, cut_hi, hcast, cut_lo, hone]
              exact near_edit hf (by simp) hm2 (.inr rfl)
            | m + 3, hy => simp at hy
          have DC : Dr HC pd pc (t * 1500 + 1092 + 2 * (k + 1)) := (DB.same eC).mono (by omega)
          refine lp_list (SqL.of hC5) (fun m σ' H' => (∃ a2 a3 a5 a6 a7 a8 a9 a10 a11 a12 a13, σ' = [some (.ref a), some (.ref pd), a2, a3, some (.str ⟨l.toArray⟩), a5, a6, a7, a8, a9, a10, a11, a12, a13]) ∧ Same HC H') ⟨⟨_, _, _, _, _, _, _, _, _, _, _, rfl⟩, Same.refl HC⟩ (fun m σ' H' hm p => SqL.of (p.2 _ _ hC5)) (fun m y σ' HD hy p => ?_) (fun σ' HD p => ?_)
          · obtain ⟨⟨a2, a3, a5, a6, a7, a8, a9, a10, a11, a12, a13, rfl⟩, eD⟩ := p
            obtain ⟨z, rfl, hz⟩ := hnears m y hy
            have hzl := len_l z
            have hz1 := hz.len
            have hz2 := hz.mb
            have hlr : readT z.cps.toList = lr z.cps.toList := lr_eq hz.no (by omega)
            walk_at "go"
            refine ⟨z, rfl, by omega, hz.no, by rw [mb_semi]; omega, (hz.runs.app (Runs.of_len (M := 1) (by simp))).mono (by omega), fun hn HE eE => ?_, fun d1 hd1 pE vE HE eE hE hdE hfE => ?_⟩
            · walk_at "go"
              have hrd : readD (.str z) = none := hlr.trans hn
              refine ⟨1, .str z, .str z, rfl, .str _, .inr ⟨rfl, by show z.length ≤ 400000; omega, fun d' hr' => (by rw [hrd] at hr'; cases hr'), fun _ HF eF => ?_⟩⟩
              walk_at "go"
              refine repr_non ?_
              walk_at "go"
              refine repr_non ?_
              walk_at "go"
              exact ⟨⟨_, _, _, _, _, _, _, _, _, _, _, rfl⟩, (eD.trans eE).trans eF⟩
            · walk_at "go"
              have hrd : readT z.cps.toList = some d1 := hlr.trans hd1
              obtain ⟨gw, gok, gdep, gokp, gsh, gnd, gdp, gsl⟩ := near_read hz hrd
              refine ⟨1, .str z, .str z, rfl, .str _, .inr ⟨rfl, by show z.length ≤ 400000; omega, fun d' hr' pF vF HF eF hF hdF hfF => ?_, fun hn => (by rw [show readD (.str z) = readT z.cps.toList from rfl, hrd] at hn; cases hn)⟩⟩
              obtain rfl : d1 = d' := by
                rw [show readD (.str z) = readT z.cps.toList from rfl, hrd] at hr'
                exact Option.some.inj hr'
              walk_at "go"
              refine repr_one hF hdF gsh gnd gdp gsl ?_
              have hE2 := eF _ _ hE
              have hdE2 := Dp.same eF d1 vE hdE
              walk_at "go"
              refine ⟨vE, d1, z.cps.toList, rfl, hdE2, gw, gok, gdep, by omega, fun HG eG => ?_⟩
              walk_at "go"
              refine w_iteP (decide_eq_true (str_back z)) ?_
              walk_at "go"
              refine repr_one (eG _ _ hE2) (Dp.same eG d1 vE hdE2) gsh gnd gdp gsl ?_
              walk_at "go"
              refine w_iteN (bnotF (decide_eq_true rfl)) ?_
              walk_at "go"
              exact ⟨⟨_, _, _, _, _, _, _, _, _, _, _, rfl⟩, ((eD.trans eE).trans eF).trans eG⟩
          · obtain ⟨p1, eD⟩ := p
            exact ⟨p1, DC.same eD⟩
        · obtain ⟨⟨a2, a3, a5, a6, a7, a8, a9, a10, a11, a12, a13, rfl⟩, D9⟩ := p
          exact ⟨⟨_, _, _, _, _, _, _, _, _, _, _, _, rfl⟩, D9.mono (by omega)⟩
      · obtain ⟨⟨a2, a3, a4, a5, a6, a7, a8, a9, a10, a11, a12, a13, rfl⟩, D2⟩ := p
        exact ⟨_, _, _, _, _, _, _, _, _, _, _, _, _, _, rfl⟩
    · rintro σ' H2 ⟨a0, a1, a2, a3, a4, a5, a6, a7, a8, a9, a10, a11, a12, a13, rfl⟩
      refine w_mid (fun σ' _ => S14 σ') ?_ ?_
      · walk_at "go"
        intro p1 G1 n1 f1 g1
        walk_at "go"
        intro p2 G2 n2 f2 g2
        walk_at "go"
        intro p3 G3 n3 f3 g3
        walk_at "go"
        intro p4 G4 n4 f4 g4
        walk_at "go"
        intro p5 G5 n5 f5 g5
        walk_at "go"
        intro p6 G6 n6 f6 g6
        walk_at "go"
        intro p7 G7 n7 f7 g7
        walk_at "go"
        intro p8 G8 n8 f8 g8
        walk_at "go"
        intro pL GL nL fL gL
        have t8 : Same G8 GL := fL
        have t7 := f8.trans t8
        have t6 := f7.trans t7
        have t5 := f6.trans t6
        have t4 := f5.trans t5
        have t3 := f4.trans t4
        have t2 := f3.trans t3
        have t1 := f2.trans t2
        have hall : DpAll K GL [.non, .str "A", .str "+", .str "a b", .str "9a", .str "abcdefghijklm", .ref p1, .ref p2, .ref p4, .ref p5, .ref p7, .str "]", .ref p8] bads :=
          .cons .non (.cons (.str _) (.cons (.str _) (.cons (.str _) (.cons (.str _) (.cons (.str _) (.cons (.lst (SqL.of (t1 _ _ g1)) (.cons (.int _) .nil)) (.cons (.tup (SqT.of (t2 _ _ g2)) (.cons (.int _) (.cons .non .nil)))
            (.cons (.tup (SqT.of (t4 _ _ g4)) (.cons (.tup (SqT.of (t3 _ _ g3)) (.cons .non .nil)) .nil)) (.cons (.lst (SqL.of (t5 _ _ g5)) (.cons (.str _) .nil)) (.cons (.tup (SqT.of (t7 _ _ g7)) (.cons (.str _) (.cons (.lst (SqL.of (t6 _ _ g6)) .nil) .nil)))
              (.cons (.str _) (.cons (.tup (SqT.of (t8 _ _ g8)) (.cons (.str _) .nil)) .nil))))))))))))
        refine lp_list (SqL.of gL) (fun m σ' H' => S14 σ' ∧ Same GL H') ⟨⟨_, _, _, _, _, _, _, _, _, _, _, _, _, _, rfl⟩, Same.refl GL⟩ (fun m σ' H' hm p => SqL.of (p.2 _ _ gL)) (fun m y σ' HD hy p => ?_) (fun σ' HD p => p.1)
        obtain ⟨⟨a0, a1, a2, a3, a4, a5, a6, a7, a8, a9, a10, a11, a12, a13, rfl⟩, eD⟩ := p
        obtain ⟨d, hd, hdp⟩ := DpAll.get hall hy
        have hmem := List.mem_of_getElem? hd
        have hft := bads_fit d hmem
        walk_at "go"
        refine told0_no (Dp.same eD d y hdp) hft.1 hft.2 (bads_no d hmem) fun HE eE => ?_
        walk_at "go"
        exact ⟨⟨_, _, _, _, _, _, _, _, _, _, _, _, _, _, rfl⟩, eD.trans eE⟩
      · rintro σ' H3 ⟨a0, a1, a2, a3, a4, a5, a6, a7, a8, a9, a10, a11, a12, a13, rfl⟩
        have e57 : (Txt.mul (Str.ofString "9") 4000).cps.toList = List.replicate 4000 57 := mul_l 57 "9" rfl 4000 (by decide)
        generalize hlong : Txt.mul (Str.ofString "9") 4000 = long at e57
        have hll : long.length = 4000 := by rw [← len_l, e57, List.length_replicate]
        refine w_mid (fun σ' _ => ∃ a0 a1 a2 a3 a4 a5 a6 a7 a8 a9 a10 a12 a13, σ' = [a0, a1, a2, a3, a4, a5, a6, a7, a8, a9, a10, some (.str long), a12, a13]) ?_ ?_
        · walk_at "go"
          refine w_mulStr (mulOk_one "9" 57 rfl 4000 (by decide) (by decide)) ?_
          rw [hlong]
          exact ⟨_, _, _, _, _, _, _, _, _, _, _, _, _, rfl⟩
        · rintro σ' H4 ⟨a0, a1, a2, a3, a4, a5, a6, a7, a8, a9, a10, a12, a13, rfl⟩
          refine w_mid (fun σ' _ => S14 σ') ?_ ?_
          · walk_at "go"
            have hnum : NumT long ((digitsVal (List.replicate 4000 57) : Nat) : Int) := by
              have := numT_digits (x := long) (by rw [e57]; exact nine_all 4000) (by rw [e57]; exact nine_ne) (by omega)
              rwa [e57] at this
            have hval := nine_val 4000
            generalize hX : (10 : Nat) ^ 4000 = X at hval
            generalize hV : digitsVal (List.replicate 4000 57) = B at hnum hval
            have hdg : digs (B : Int) = List.replicate 4000 57 := by
              rw [← hV]
              exact nine_digs
            have hw1 : wrd (.int (B : Int)) 1 = some (List.replicate 4000 57) := by
              rw [wrd_atom rfl]
              unfold atomP
              show Option.map _ (if (B : Int).natAbs < 10 ^ 4000 then _ else none) = _
              rw [if_pos (by rw [hX]; show B < X; omega)]
              show some (digs (B : Int)) = _
              rw [hdg]
            have hw2 : wrd (.int ((B : Int) + 1)) 1 = none := by
              rw [wrd_atom rfl]
              unfold atomP
              show Option.map _ (if ((B : Int) + 1).natAbs < 10 ^ 4000 then _ else none) = _
              rw [if_neg (by rw [hX]; omega)]
              rfl
            refine ⟨_, hnum, ?_⟩
            walk_at "go"
            refine told0_yes (.int _) trivial (by simp [siz]) hw1 (by rw [List.length_replicate]; decide) fun p9 HA eA hA => ?_
            walk_at "go"
            intro q9 HB nB eB hB
            walk_at "go"
            have elong : (⟨(List.replicate 4000 57).toArray⟩ : Str) = long := str_ext e57.symm
            rw [elong] at hA
            refine Or.inr (ne_one (eB _ _ hA) hB (by rw [e57]; intro c hc; rw [List.eq_of_mem_replicate hc]; decide) ?_)
            walk_at "go"
            refine w_add_str (by rw [hll]; decide) ?_
            walk_at "go"
            refine told1_yes (by rw [app_len, hll]; decide) (by rw [app_l, e57]; exact nine_neg) fun pC HC eC => ?_
            walk_at "go"
            refine w_add_str (by rw [hll]; decide) ?_
            walk_at "go"
            refine told1_no (d := .str _) (.str _) (by show _ ≤ 400000; rw [app_len, hll]; decide) (by show readT _ = none; rw [app_l, e57]; exact nine_long) fun HD eD => ?_
            walk_at "go"
            refine ⟨_, hnum, ?_⟩
            walk_at "go"
            refine told0_no (.int _) trivial (by simp [siz]) hw2 fun HE eE => ?_
            walk_at "go"
            exact ⟨_, _, _, _, _, _, _, _, _, _, _, _, _, _, rfl⟩
          · rintro σ' H5 ⟨a0, a1, a2, a3, a4, a5, a6, a7, a8, a9, a10, a11, a12, a13, rfl⟩
            refine w_mid (fun σ' H' => ∃ a0 a1 a2 a3 a4 a5 a6 a7 a8 a9 a10 a11 a13 p, σ' = [a0, a1, a2, a3, a4, a5, a6, a7, a8, a9, a10, a11, some (.ref p), a13] ∧ H' p = some (.tup [])) ?_ ?_
            · walk_at "go"
              intro p H6 n6 e6 h6
              walk_at "go"
              exact ⟨_, _, _, _, _, _, _, _, _, _, _, _, _, p, rfl, h6⟩
            · rintro σ' H6 ⟨a0, a1, a2, a3, a4, a5, a6, a7, a8, a9, a10, a11, a13, p, rfl, h6⟩
              refine w_mid (fun σ' H' => ∃ a0 a1 a2 a3 a4 a5 a6 a7 a8 a9 a10 a11 a13 p, σ' = [a0, a1, a2, a3, a4, a5, a6, a7, a8, a9, a10, a11, some (.ref p), a13] ∧ Dp K H' (.ref p) (nest 999)) ?_ ?_
              · walk_at "go"
                refine r1_of (n := 999) rfl (by decide) ?_
                refine lp_range (fun k σ' H' => ∃ a0 a1 a2 a3 a4 a5 a6 a7 a8 a9 a10 a11 a13 p, σ' = [a0, a1, a2, a3, a4, a5, a6, a7, a8, a9, a10, a11, some (.ref p), a13] ∧ Dp K H' (.ref p) (nest k)) ⟨_, _, _, _, _, _, _, _, _, _, _, _, _, p, rfl, .tup (SqT.of h6) .nil⟩ (fun k σ' H7 hk q7 => ?_) (fun σ' H7 q7 => q7)
                obtain ⟨a0, a1, a2, a3, a4, a5, a6, a7, a8, a9, a10, a11, a13, p, rfl, hp⟩ := q7
                walk_at "go"
                intro p2 H8 n8 e8 h8
                walk_at "go"
                exact ⟨_, _, _, _, _, _, _, _, _, _, _, _, _, p2, rfl, .tup (SqT.of h8) (.cons (Dp.same e8 _ _ hp) .nil)⟩
              · rintro σ' H7 ⟨a0, a1, a2, a3, a4, a5, a6, a7, a8, a9, a10, a11, a13, p, rfl, hp⟩
                refine w_mid (fun σ' _ => S14 σ') ?_ ?_
                · walk_at "go"
                  have hn := nest_wr 999
                  have hn1 := nest_wr 1000
                  have hw1 : wrd (nest 999) 1 = some (List.replicate 1000 91 ++ List.replicate 1000 93) := by
                    rw [nest_wrd, if_pos (by decide)]
                  have hw2 : wrd (nest 1000) 1 = none := by
                    rw [nest_wrd, if_neg (by decide)]
                  have eo : (Txt.mul (Str.ofString "[") 1000).cps.toList = List.replicate 1000 91 := mul_l 91 "[" rfl 1000 (by decide)
                  have ec : (Txt.mul (Str.ofString "]") 1000).cps.toList = List.replicate 1000 93 := mul_l 93 "]" rfl 1000 (by decide)
                  have eo1 : (Txt.mul (Str.ofString "[") 1001).cps.toList = List.replicate 1001 91 := mul_l 91 "[" rfl 1001 (by decide)
                  have ec1 : (Txt.mul (Str.ofString "]") 1001).cps.toList = List.replicate 1001 93 := mul_l 93 "]" rfl 1001 (by decide)
                  refine told0_yes hp hn.2.2.2.2 (by rw [hn.2.2.2.1]; decide) hw1 (by rw [List.length_append, List.length_replicate, List.length_replicate]; decide) fun p9 HA eA hA => ?_
                  walk_at "go"
                  refine w_mulStr (mulOk_one "[" 91 rfl 1000 (by decide) (by decide)) ?_
                  walk_at "go"
                  refine w_mulStr (mulOk_one "]" 93 rfl 1000 (by decide) (by decide)) ?_
                  have lo : (Txt.mul (Str.ofString "[") 1000).length = 1000 := by rw [← len_l, eo, List.length_replicate]
                  have lc : (Txt.mul (Str.ofString "]") 1000).length = 1000 := by rw [← len_l, ec, List.length_replicate]
                  have lo1 : (Txt.mul (Str.ofString "[") 1001).length = 1001 := by rw [← len_l, eo1, List.length_replicate]
                  have lc1 : (Txt.mul (Str.ofString "]") 1001).length = 1001 := by rw [← len_l, ec1, List.length_replicate]
                  refine w_add_str (by rw [lo, lc]; decide) ?_
                  walk_at "go"
                  intro q9 HB nB eB hB
                  walk_at "go"
                  have elong : (⟨(List.replicate 1000 91 ++ List.replicate 1000 93).toArray⟩ : Str) = Txt.mul (Str.ofString "[") 1000 ++ Txt.mul (Str.ofString "]") 1000 := str_ext (by rw [app_l, eo, ec])
                  rw [elong] at hA
                  refine Or.inr (ne_one (eB _ _ hA) hB (by rw [app_l, eo, ec]; intro c hc; rcases List.mem_append.mp hc with hc | hc <;> (rw [List.eq_of_mem_replicate hc]; decide)) ?_)
                  have hpB := Dp.same (eA.trans eB) _ _ hp
                  walk_at "go"
                  intro pt HC nC eC hC
                  walk_at "go"
                  refine told0_no (d := nest 1000) (.tup (SqT.of hC) (.cons (Dp.same eC _ _ hpB) .nil)) hn1.2.2.2.2 (by rw [hn1.2.2.2.1]; decide) hw2 fun HD eD => ?_
                  walk_at "go"
                  refine w_mulStr (mulOk_one "[" 91 rfl 1001 (by decide) (by decide)) ?_
                  walk_at "go"
                  refine w_mulStr (mulOk_one "]" 93 rfl 1001 (by decide) (by decide)) ?_
                  refine w_add_str (by rw [lo1, lc1]; decide) ?_
                  walk_at "go"
                  refine told1_no (d := .str _) (.str _) (by show _ ≤ 400000; rw [app_len, lo1, lc1]; decide) (by show readT _ = none; rw [app_l, eo1]; exact deep_none _) fun HE eE => ?_
                  walk_at "go"
                  exact ⟨_, _, _, _, _, _, _, _, _, _, _, _, _, _, rfl⟩
                · rintro σ' H8 ⟨a0, a1, a2, a3, a4, a5, a6, a7, a8, a9, a10, a11, a12, a13, rfl⟩
                  walk_at "go"
                  have eo : (Txt.mul (Str.ofString "[") 1000).cps.toList = List.replicate 1000 91 := mul_l 91 "[" rfl 1000 (by decide)
                  have ec : (Txt.mul (Str.ofString "]") 1000).cps.toList = List.replicate 1000 93 := mul_l 93 "]" rfl 1000 (by decide)
                  have lo : (Txt.mul (Str.ofString "[") 1000).length = 1000 := by rw [← len_l, eo, List.length_replicate]
                  have lc : (Txt.mul (Str.ofString "]") 1000).length = 1000 := by rw [← len_l, ec, List.length_replicate]
                  refine w_mulStr (mulOk_one "[" 91 rfl 1000 (by decide) (by decide)) ?_
                  walk_at "go"
                  refine w_mulStr (mulOk_one "]" 93 rfl 1000 (by decide) (by decide)) ?_
                  refine w_add_str (by rw [lo, lc]; decide) ?_
                  walk_at "go"
                  refine told1_yes (by rw [app_len, lo, lc]; decide) (by rw [app_l, eo, ec]; exact deep_some) fun pA HA eA => ?_
                  walk_at "go"
                  refine w_lcI ?_
                  walk_at "go"
                  intro p1 G1 n1 f1 g1
                  walk_at "go"
                  intro pL GL nL fL gL
                  have hall : DpAll K GL [.non, .int 5, .ref p1, .str "", .str "[a][b]", .str "a,b", .str "[a"] odds :=
                    .cons .non (.cons (.int _) (.cons (.tup (SqT.of (fL _ _ g1)) (.cons (.int _) .nil)) (.cons (.str _) (.cons (.str _) (.cons (.str _) (.cons (.str _) .nil))))))
                  refine lcL (fun v => rfl) (SqL.of gL) (LcS.mapI (zs := List.replicate 7 V.non) rfl (Nat.le_of_ble_eq_true rfl) (fun H' e => SqL.of (e _ _ gL)) (fun i y z HB hy hz eB R hR => ?_) (fun D HB nB eB hB => ?_))
                  · show tCall _ _ _ _ [a0, a1, a2, a3, a4, a5, a6, a7, a8, a9, a10, a11, a12, some y] HB R
                    obtain ⟨d, hd, hdp⟩ := DpAll.get hall hy
                    have ho := odds_no d (List.mem_of_getElem? hd)
                    obtain rfl : z = V.non := by
                      exact List.eq_of_mem_replicate (List.mem_of_getElem? hz)
                    walk_at "go"
                    exact told1_no (Dp.same eB d y hdp) ho.2 ho.1 fun HC eC => hR HC eC
                  · walk_at "go"
                    intro pn HC nC eC hC
                    walk_at "go"
                    refine ⟨pn, 7, [.non], rfl, rfl, hC, by decide, by decide, by decide, fun pr nr => ?_⟩
                    have er : Same HC (upd HC pr (.lst (List.replicate (7 : Int).toNat [V.non]).flatten)) := same_upd nr
                    have hsh : SeqAt.shaped (.list [.none, .none, .none, .none, .none, .none, .none]) = true := by decide
                    refine Or.inr ⟨.list [.none, .none, .none, .none, .none, .none, .none], .list [.none, .none, .none, .none, .none, .none, .none], .lst (SqL.of (er _ _ (eC _ _ hB))) ?_, .lst (SqL.of upd_same) ?_, hsh, hsh, ?_⟩
                    · exact .cons .non (.cons .non (.cons .non (.cons .non (.cons .non (.cons .non (.cons .non .nil))))))
                    · exact .cons .non (.cons .non (.cons .non (.cons .non (.cons .non (.cons .non (.cons .non .nil))))))
                    · have e : PyData.eqv (.list [.none, .none, .none, .none, .none, .none, .none]) (.list [.none, .none, .none, .none, .none, .none, .none]) = true := by
                        simp [PyData.eqv, PyData.eqvAll]
                      rw [e]
                      exact q _
end
end K53

set_option exponentiation.threshold 256
set_option Elab.async false
set_option linter.all false
set_option maxRecDepth 100000
set_option maxHeartbeats 4000000
namespace K53
open PySem PySem.Spec PyProof.Rows L2 Lay
theorem exm_self {K : PySem.W.Frag} {S : Addr} (h1 : PySem.W.subIn K (.ref S) (.type "BaseException") = some true) (h2 : PySem.W.isClsIn K S = true) (h3 : PySem.W.typeIn K (.ref S) = some (.type "type")) (h4 : PySem.W.subIn K (.ref S) (.ref S) = some true) :
    PySem.W.exmOne K (.ref S) (.ref S) = some true := by
  have e1 : (PySem.W.subIn K (.ref S) (.type "BaseException") == some true) = true := by rw [h1] <;> rfl
  have e2 : ((PySem.W.clsIn K S).isSome && PySem.W.typeIn K (.ref S) == some (.type "type")) = true := by
    have h2' : (PySem.W.clsIn K S).isSome = true := h2
    rw [h2', h3] <;> rfl
  show (if (PySem.W.subIn K (.ref S) (.type "BaseException") == some true) = true then (if ((PySem.W.clsIn K S).isSome && PySem.W.typeIn K (.ref S) == some (.type "type")) = true then PySem.W.subIn K (.ref S) (.ref S) else none) else none) = some true
  rw [if_pos e1, if_pos e2]
  exact h4
theorem signs_get {K : PySem.W.Frag} {CS : Addr} {oc : Value} {od : Option Addr} {es : Array DictEntry} {n : Nat} {sl : Array (Option Value)} {e1 e2 e3 : DictEntry} {t1 t2 t3 t4 : Tok} (l : K.lookup CS = some ⟨oc, od, .dict es n, sl⟩) (he : es.toList = [e1, e2, e3])
    (h1 : e1.key = .str "+" t1 ∧ e1.val = .bool true) (h2 : e2.key = .str "-" t2 ∧ e2.val = .bool false) (h3 : e3.key = .str "." t3 ∧ e3.val = .str "" t4) (z : Str) :
    ∃ r, PySem.W.nsIn K CS z = some r ∧ (match signV z with | some v => ∃ u, r = some u ∧ RelV v u | none => r = none) := by
  have hk : ∀ (c : Nat) (s : String) (t : Tok), (Str.ofString s).cps.toList = [c] → (Value.str (Str.ofString s) t).isStr z = decide (z.cps.toList = [c]) := fun c s t hs => by
    rw [PySem.W.isStr_of]
    show (Str.ofString s == z) = _
    have : (Str.ofString s == z) = decide (Str.ofString s = z) := by
      by_cases h : Str.ofString s = z
      · rw [h, decide_eq_true rfl]
        exact beq_self_eq_true z
      · rw [decide_eq_false h]
        exact beq_eq_false_iff_ne.mpr h
    rw [this, decide_eq_decide]
    exact ⟨fun h => by rw [← h, hs], fun h => str_ext (by rw [hs, h])⟩
  have k1 := hk 43 "+" t1 rfl
  have k2 := hk 45 "-" t2 rfl
  have k3 := hk 46 "." t3 rfl
  have r1 : e1.refKey = false := by
    unfold DictEntry.refKey
    rw [h1.1]
  have r2 : e2.refKey = false := by
    unfold DictEntry.refKey
    rw [h2.1]
  have r3 : e3.refKey = false := by
    unfold DictEntry.refKey
    rw [h3.1]
  unfold PySem.W.nsIn
  rw [l]
  simp only [he]
  unfold signV
  cases c1 : decide (z.cps.toList = [43]) with
  | true =>
    refine ⟨some e1.val, ?_, ?_⟩
    · simp only [List.find?, h1.1, k1, c1]
    · rw [if_pos (of_decide_eq_true c1)]
      exact ⟨_, rfl, by rw [h1.2]; rfl⟩
  | false =>
    rw [if_neg (of_decide_eq_false c1)]
    cases c2 : decide (z.cps.toList = [45]) with
    | true =>
      refine ⟨some e2.val, ?_, ?_⟩
      · simp only [List.find?, h1.1, h2.1, k1, k2, c1, c2]
      · rw [if_pos (of_decide_eq_true c2)]
        exact ⟨_, rfl, by rw [h2.2]; rfl⟩
    | false =>
      rw [if_neg (of_decide_eq_false c2)]
      cases c3 : decide (z.cps.toList = [46]) with
      | true =>
        refine ⟨some e3.val, ?_, ?_⟩
        · simp only [List.find?, h1.1, h2.1, h3.1, k1, k2, k3, c1, c2, c3]
        · rw [if_pos (of_decide_eq_true c3)]
          exact ⟨_, rfl, by rw [h3.2]; exact ⟨_, rfl⟩⟩
      | false =>
        rw [if_neg (of_decide_eq_false c3)]
        refine ⟨none, ?_, rfl⟩
        simp only [List.find?, h1.1, h2.1, h3.1, k1, k2, k3, c1, c2, c3, List.any, r1, r2, r3]
        rfl
theorem fn_false {P : Program} {w : World} {K : PySem.W.Frag} {mg : Str → Option Value} {base : Heap} {CX : CXT} {x qual : Str} {st : Stmt} {f : Addr} {fd : FuncData} {ps : List Str} (k : Nat) (F : Fun K x qual st f fd) : FnOk P w K mg base CX k f fd ps (fun _ _ _ _ => False) :=
  ⟨fun _ _ _ _ h => h.elim, fun _ _ _ _ _ _ _ _ _ _ _ _ _ h => h.elim⟩
theorem all_mk {P : Program} {w : World} {K : PySem.W.Frag} {h : Heap} {mg : Str → Option Value} {fa CR CM CS : Addr} (X : K.In h) (G : h.Ns mainGlobals mg) (hfa : mg "law" = some (.ref fa))
    {od0 an0 : Option Addr} {sl0 : Array (Option Value)} {oc0 kV0 dc0 pm0 cd0 ct0 : Value} {f0 : Addr}
    {od1 an1 : Option Addr} {sl1 : Array (Option Value)} {oc1 kV1 dc1 pm1 cd1 ct1 : Value} {f1 : Addr}
    {od2 an2 : Option Addr} {sl2 : Array (Option Value)} {oc2 kV2 dc2 pm2 cd2 ct2 : Value} {f2 : Addr}
    {od3 an3 : Option Addr} {sl3 : Array (Option Value)} {oc3 kV3 dc3 pm3 cd3 ct3 : Value} {f3 : Addr}
    {od4 an4 : Option Addr} {sl4 : Array (Option Value)} {oc4 kV4 dc4 pm4 cd4 ct4 : Value} {f4 : Addr}
    {od5 an5 : Option Addr} {sl5 : Array (Option Value)} {oc5 kV5 dc5 pm5 cd5 ct5 : Value} {f5 : Addr}
    {od6 an6 : Option Addr} {sl6 : Array (Option Value)} {oc6 kV6 dc6 pm6 cd6 ct6 : Value} {f6 : Addr}
    {od7 an7 : Option Addr} {sl7 : Array (Option Value)} {oc7 kV7 dc7 pm7 cd7 ct7 : Value} {f7 : Addr}
    {od8 an8 : Option Addr} {sl8 : Array (Option Value)} {oc8 kV8 dc8 pm8 cd8 ct8 : Value} {f8 : Addr}
    {od9 an9 : Option Addr} {sl9 : Array (Option Value)} {oc9 kV9 dc9 pm9 cd9 ct9 : Value} {f9 : Addr}
    {od10 an10 : Option Addr} {sl10 : Array (Option Value)} {oc10 kV10 dc10 pm10 cd10 ct10 : Value} {f10 : Addr}
    {od11 an11 : Option Addr} {sl11 : Array (Option Value)} {oc11 kV11 dc11 pm11 cd11 ct11 : Value} {f11 : Addr}
    {od12 an12 : Option Addr} {sl12 : Array (Option Value)} {oc12 kV12 dc12 pm12 cd12 ct12 : Value} {f12 : Addr}
    {od13 an13 : Option Addr} {sl13 : Array (Option Value)} {oc13 kV13 dc13 pm13 cd13 ct13 : Value} {f13 : Addr}
    {od14 an14 : Option Addr} {sl14 : Array (Option Value)} {oc14 kV14 dc14 pm14 cd14 ct14 : Value} {f14 : Addr}
    {od15 an15 : Option Addr} {sl15 : Array (Option Value)} {oc15 kV15 dc15 pm15 cd15 ct15 : Value} {f15 : Addr}
    {od16 an16 : Option Addr} {sl16 : Array (Option Value)} {oc16 kV16 dc16 pm16 cd16 ct16 : Value} {f16 : Addr}
    {od17 an17 : Option Addr} {sl17 : Array (Option Value)} {oc17 kV17 dc17 pm17 cd17 ct17 : Value} {f17 : Addr}
    {od18 an18 : Option Addr} {sl18 : Array (Option Value)} {oc18 kV18 dc18 pm18 cd18 ct18 : Value} {f18 : Addr}
    {od19 an19 : Option Addr} {sl19 : Array (Option Value)} {oc19 kV19 dc19 pm19 cd19 ct19 : Value} {f19 : Addr}
    {od20 an20 : Option Addr} {sl20 : Array (Option Value)} {oc20 kV20 dc20 pm20 cd20 ct20 : Value} {f20 : Addr}
    {od21 an21 : Option Addr} {sl21 : Array (Option Value)} {oc21 kV21 dc21 pm21 cd21 ct21 : Value} {f21 : Addr}
    {od22 an22 : Option Addr} {sl22 : Array (Option Value)} {oc22 kV22 dc22 pm22 cd22 ct22 : Value} {f22 : Addr}
    {od23 an23 : Option Addr} {sl23 : Array (Option Value)} {oc23 kV23 dc23 pm23 cd23 ct23 : Value} {f23 : Addr}
    {u_LETTERS : Value}
    {u_DIGITS : Value}
    {u_MOST_WORD : Value}
    {u_MOST_DEPTH : Value}
    {u_MOST_DIGITS : Value}
    {es : Array DictEntry} {nS : Nat} {e1 e2 e3 : DictEntry} {t1 t2 t3 t4 : Tok}
    (a0 : PySem.W.nsIn K mainGlobals "is_whole" = some (some (.ref f0)))
    (l0 : K.lookup f0 = some ⟨oc0, od0, .func (PySem.W.fnOf "is_whole" "is_whole" (defArgs s_is_whole) (defBody s_is_whole) (defScope s_is_whole) .none kV0 dc0 pm0 an0 cd0 ct0), sl0⟩)
    (c0 : PySem.W.codeIn K cd0 "is_whole" = true)
    (k0 : PySem.W.keepIn K (.ref f0) = true)
    (a1 : PySem.W.nsIn K mainGlobals "is_word" = some (some (.ref f1)))
    (l1 : K.lookup f1 = some ⟨oc1, od1, .func (PySem.W.fnOf "is_word" "is_word" (defArgs s_is_word) (defBody s_is_word) (defScope s_is_word) .none kV1 dc1 pm1 an1 cd1 ct1), sl1⟩)
    (c1 : PySem.W.codeIn K cd1 "is_word" = true)
    (k1 : PySem.W.keepIn K (.ref f1) = true)
    (a2 : PySem.W.nsIn K mainGlobals "is_short" = some (some (.ref f2)))
    (l2 : K.lookup f2 = some ⟨oc2, od2, .func (PySem.W.fnOf "is_short" "is_short" (defArgs s_is_short) (defBody s_is_short) (defScope s_is_short) .none kV2 dc2 pm2 an2 cd2 ct2), sl2⟩)
    (c2 : PySem.W.codeIn K cd2 "is_short" = true)
    (k2 : PySem.W.keepIn K (.ref f2) = true)
    (a3 : PySem.W.nsIn K mainGlobals "atom_text" = some (some (.ref f3)))
    (l3 : K.lookup f3 = some ⟨oc3, od3, .func (PySem.W.fnOf "atom_text" "atom_text" (defArgs s_atom_text) (defBody s_atom_text) (defScope s_atom_text) .none kV3 dc3 pm3 an3 cd3 ct3), sl3⟩)
    (c3 : PySem.W.codeIn K cd3 "atom_text" = true)
    (k3 : PySem.W.keepIn K (.ref f3) = true)
    (a4 : PySem.W.nsIn K mainGlobals "write_data" = some (some (.ref f4)))
    (l4 : K.lookup f4 = some ⟨oc4, od4, .func (PySem.W.fnOf "write_data" "write_data" (defArgs s_write_data) (defBody s_write_data) (defScope s_write_data) .none kV4 dc4 pm4 an4 cd4 ct4), sl4⟩)
    (c4 : PySem.W.codeIn K cd4 "write_data" = true)
    (k4 : PySem.W.keepIn K (.ref f4) = true)
    (a5 : PySem.W.nsIn K mainGlobals "read_whole" = some (some (.ref f5)))
    (l5 : K.lookup f5 = some ⟨oc5, od5, .func (PySem.W.fnOf "read_whole" "read_whole" (defArgs s_read_whole) (defBody s_read_whole) (defScope s_read_whole) .none kV5 dc5 pm5 an5 cd5 ct5), sl5⟩)
    (c5 : PySem.W.codeIn K cd5 "read_whole" = true)
    (k5 : PySem.W.keepIn K (.ref f5) = true)
    (a6 : PySem.W.nsIn K mainGlobals "read_atom" = some (some (.ref f6)))
    (l6 : K.lookup f6 = some ⟨oc6, od6, .func (PySem.W.fnOf "read_atom" "read_atom" (defArgs s_read_atom) (defBody s_read_atom) (defScope s_read_atom) .none kV6 dc6 pm6 an6 cd6 ct6), sl6⟩)
    (c6 : PySem.W.codeIn K cd6 "read_atom" = true)
    (k6 : PySem.W.keepIn K (.ref f6) = true)
    (a7 : PySem.W.nsIn K mainGlobals "pieces_of" = some (some (.ref f7)))
    (l7 : K.lookup f7 = some ⟨oc7, od7, .func (PySem.W.fnOf "pieces_of" "pieces_of" (defArgs s_pieces_of) (defBody s_pieces_of) (defScope s_pieces_of) .none kV7 dc7 pm7 an7 cd7 ct7), sl7⟩)
    (c7 : PySem.W.codeIn K cd7 "pieces_of" = true)
    (k7 : PySem.W.keepIn K (.ref f7) = true)
    (a8 : PySem.W.nsIn K mainGlobals "read_data" = some (some (.ref f8)))
    (l8 : K.lookup f8 = some ⟨oc8, od8, .func (PySem.W.fnOf "read_data" "read_data" (defArgs s_read_data) (defBody s_read_data) (defScope s_read_data) .none kV8 dc8 pm8 an8 cd8 ct8), sl8⟩)
    (c8 : PySem.W.codeIn K cd8 "read_data" = true)
    (k8 : PySem.W.keepIn K (.ref f8) = true)
    (a9 : PySem.W.nsIn K mainGlobals "_law_draw" = some (some (.ref f9)))
    (l9 : K.lookup f9 = some ⟨oc9, od9, .func (PySem.W.fnOf "_law_draw" "_law_draw" (defArgs s__law_draw) (defBody s__law_draw) (defScope s__law_draw) .none kV9 dc9 pm9 an9 cd9 ct9), sl9⟩)
    (c9 : PySem.W.codeIn K cd9 "_law_draw" = true)
    (k9 : PySem.W.keepIn K (.ref f9) = true)
    (a10 : PySem.W.nsIn K mainGlobals "_law_take" = some (some (.ref f10)))
    (l10 : K.lookup f10 = some ⟨oc10, od10, .func (PySem.W.fnOf "_law_take" "_law_take" (defArgs s__law_take) (defBody s__law_take) (defScope s__law_take) .none kV10 dc10 pm10 an10 cd10 ct10), sl10⟩)
    (c10 : PySem.W.codeIn K cd10 "_law_take" = true)
    (k10 : PySem.W.keepIn K (.ref f10) = true)
    (a11 : PySem.W.nsIn K mainGlobals "_law_data" = some (some (.ref f11)))
    (l11 : K.lookup f11 = some ⟨oc11, od11, .func (PySem.W.fnOf "_law_data" "_law_data" (defArgs s__law_data) (defBody s__law_data) (defScope s__law_data) .none kV11 dc11 pm11 an11 cd11 ct11), sl11⟩)
    (c11 : PySem.W.codeIn K cd11 "_law_data" = true)
    (k11 : PySem.W.keepIn K (.ref f11) = true)
    (a12 : PySem.W.nsIn K mainGlobals "_law_word" = some (some (.ref f12)))
    (l12 : K.lookup f12 = some ⟨oc12, od12, .func (PySem.W.fnOf "_law_word" "_law_word" (defArgs s__law_word) (defBody s__law_word) (defScope s__law_word) .none kV12 dc12 pm12 an12 cd12 ct12), sl12⟩)
    (c12 : PySem.W.codeIn K cd12 "_law_word" = true)
    (k12 : PySem.W.keepIn K (.ref f12) = true)
    (a13 : PySem.W.nsIn K mainGlobals "_law_written" = some (some (.ref f13)))
    (l13 : K.lookup f13 = some ⟨oc13, od13, .func (PySem.W.fnOf "_law_written" "_law_written" (defArgs s__law_written) (defBody s__law_written) (defScope s__law_written) .none kV13 dc13 pm13 an13 cd13 ct13), sl13⟩)
    (c13 : PySem.W.codeIn K cd13 "_law_written" = true)
    (k13 : PySem.W.keepIn K (.ref f13) = true)
    (a14 : PySem.W.nsIn K mainGlobals "_law_number" = some (some (.ref f14)))
    (l14 : K.lookup f14 = some ⟨oc14, od14, .func (PySem.W.fnOf "_law_number" "_law_number" (defArgs s__law_number) (defBody s__law_number) (defScope s__law_number) .none kV14 dc14 pm14 an14 cd14 ct14), sl14⟩)
    (c14 : PySem.W.codeIn K cd14 "_law_number" = true)
    (k14 : PySem.W.keepIn K (.ref f14) = true)
    (a15 : PySem.W.nsIn K mainGlobals "_law_read" = some (some (.ref f15)))
    (l15 : K.lookup f15 = some ⟨oc15, od15, .func (PySem.W.fnOf "_law_read" "_law_read" (defArgs s__law_read) (defBody s__law_read) (defScope s__law_read) .none kV15 dc15 pm15 an15 cd15 ct15), sl15⟩)
    (c15 : PySem.W.codeIn K cd15 "_law_read" = true)
    (k15 : PySem.W.keepIn K (.ref f15) = true)
    (a16 : PySem.W.nsIn K mainGlobals "_law_told" = some (some (.ref f16)))
    (l16 : K.lookup f16 = some ⟨oc16, od16, .func (PySem.W.fnOf "_law_told" "_law_told" (defArgs s__law_told) (defBody s__law_told) (defScope s__law_told) .none kV16 dc16 pm16 an16 cd16 ct16), sl16⟩)
    (c16 : PySem.W.codeIn K cd16 "_law_told" = true)
    (k16 : PySem.W.keepIn K (.ref f16) = true)
    (a17 : PySem.W.nsIn K mainGlobals "law" = some (some (.ref f17)))
    (l17 : K.lookup f17 = some ⟨oc17, od17, .func (PySem.W.fnOf "law" "law" (defArgs s_law) (defBody s_law) (defScope s_law) .none kV17 dc17 pm17 an17 cd17 ct17), sl17⟩)
    (c17 : PySem.W.codeIn K cd17 "law" = true)
    (k17 : PySem.W.keepIn K (.ref f17) = true)
    (a18 : PySem.W.findIn K (.ref CR) "__init__" = some (some (.ref f18)))
    (i18 : PySem.W.isFn K (.ref f18) = true)
    (l18 : K.lookup f18 = some ⟨oc18, od18, .func (PySem.W.fnOf "__init__" "DataReader.__init__" (defArgs s_DataReader___init__) (defBody s_DataReader___init__) (defScope s_DataReader___init__) .none kV18 dc18 pm18 an18 cd18 ct18), sl18⟩)
    (c18 : PySem.W.codeIn K cd18 "DataReader.__init__" = true)
    (k18 : PySem.W.keepIn K (.ref f18) = true)
    (a19 : PySem.W.findIn K (.ref CR) "item" = some (some (.ref f19)))
    (i19 : PySem.W.isFn K (.ref f19) = true)
    (l19 : K.lookup f19 = some ⟨oc19, od19, .func (PySem.W.fnOf "item" "DataReader.item" (defArgs s_DataReader_item) (defBody s_DataReader_item) (defScope s_DataReader_item) .none kV19 dc19 pm19 an19 cd19 ct19), sl19⟩)
    (c19 : PySem.W.codeIn K cd19 "DataReader.item" = true)
    (k19 : PySem.W.keepIn K (.ref f19) = true)
    (a20 : PySem.W.findIn K (.ref CR) "open_one" = some (some (.ref f20)))
    (i20 : PySem.W.isFn K (.ref f20) = true)
    (l20 : K.lookup f20 = some ⟨oc20, od20, .func (PySem.W.fnOf "open_one" "DataReader.open_one" (defArgs s_DataReader_open_one) (defBody s_DataReader_open_one) (defScope s_DataReader_open_one) .none kV20 dc20 pm20 an20 cd20 ct20), sl20⟩)
    (c20 : PySem.W.codeIn K cd20 "DataReader.open_one" = true)
    (k20 : PySem.W.keepIn K (.ref f20) = true)
    (a21 : PySem.W.findIn K (.ref CR) "close_one" = some (some (.ref f21)))
    (i21 : PySem.W.isFn K (.ref f21) = true)
    (l21 : K.lookup f21 = some ⟨oc21, od21, .func (PySem.W.fnOf "close_one" "DataReader.close_one" (defArgs s_DataReader_close_one) (defBody s_DataReader_close_one) (defScope s_DataReader_close_one) .none kV21 dc21 pm21 an21 cd21 ct21), sl21⟩)
    (c21 : PySem.W.codeIn K cd21 "DataReader.close_one" = true)
    (k21 : PySem.W.keepIn K (.ref f21) = true)
    (a22 : PySem.W.findIn K (.ref CR) "comma" = some (some (.ref f22)))
    (i22 : PySem.W.isFn K (.ref f22) = true)
    (l22 : K.lookup f22 = some ⟨oc22, od22, .func (PySem.W.fnOf "comma" "DataReader.comma" (defArgs s_DataReader_comma) (defBody s_DataReader_comma) (defScope s_DataReader_comma) .none kV22 dc22 pm22 an22 cd22 ct22), sl22⟩)
    (c22 : PySem.W.codeIn K cd22 "DataReader.comma" = true)
    (k22 : PySem.W.keepIn K (.ref f22) = true)
    (a23 : PySem.W.findIn K (.ref CR) "take" = some (some (.ref f23)))
    (i23 : PySem.W.isFn K (.ref f23) = true)
    (l23 : K.lookup f23 = some ⟨oc23, od23, .func (PySem.W.fnOf "take" "DataReader.take" (defArgs s_DataReader_take) (defBody s_DataReader_take) (defScope s_DataReader_take) .none kV23 dc23 pm23 an23 cd23 ct23), sl23⟩)
    (c23 : PySem.W.codeIn K cd23 "DataReader.take" = true)
    (k23 : PySem.W.keepIn K (.ref f23) = true)
    (aC : PySem.W.nsIn K mainGlobals "DataReader" = some (some (.ref CR)))
    (pg : PySem.W.plainGet K CR Str.empty = true)
    (hd : PySem.W.hasDictIn K CR = true)
    (po : PySem.W.plainOver K CR = true)
    (sa : PySem.W.findIn K (.ref CR) "__setattr__" = some (some (.builtin "object.__setattr__")))
    (mk : PySem.W.makesIn K CR = true)
    (kc : PySem.W.keepIn K (.ref CR) = true)
    (n_tuples : PySem.W.findIn K (.ref CR) "tuples" = some none)
    (n_ready : PySem.W.findIn K (.ref CR) "ready" = some none)
    (n_told : PySem.W.findIn K (.ref CR) "told" = some none)
    (aM : PySem.W.nsIn K mainGlobals "Malformed" = some (some (.ref CM)))
    (xM : PySem.W.excIn K CM [.type "ValueError", .type "Exception", .type "BaseException", .type "object"] "ValueError.__new__" = true)
    (kM : PySem.W.keepIn K (.ref CM) = true)
    (bM : PySem.W.subIn K (.ref CM) (.type "BaseException") = some true)
    (tM : PySem.W.typeIn K (.ref CM) = some (.type "type"))
    (iM : PySem.W.isClsIn K CM = true)
    (sM : PySem.W.subIn K (.ref CM) (.ref CM) = some true)
    (b_isinstance : PySem.W.nsIn K mainGlobals "isinstance" = some none)
    (b_int : PySem.W.nsIn K mainGlobals "int" = some none)
    (b_bool : PySem.W.nsIn K mainGlobals "bool" = some none)
    (b_str : PySem.W.nsIn K mainGlobals "str" = some none)
    (b_tuple : PySem.W.nsIn K mainGlobals "tuple" = some none)
    (b_len : PySem.W.nsIn K mainGlobals "len" = some none)
    (b_all : PySem.W.nsIn K mainGlobals "all" = some none)
    (b_any : PySem.W.nsIn K mainGlobals "any" = some none)
    (b_range : PySem.W.nsIn K mainGlobals "range" = some none)
    (b_enumerate : PySem.W.nsIn K mainGlobals "enumerate" = some none)
    (b_abs : PySem.W.nsIn K mainGlobals "abs" = some none)
    (b_repr : PySem.W.nsIn K mainGlobals "repr" = some none)
    (v_LETTERS : PySem.W.nsIn K mainGlobals "LETTERS" = some (some u_LETTERS))
    (r_LETTERS : RelV (.str sLET) u_LETTERS)
    (v_DIGITS : PySem.W.nsIn K mainGlobals "DIGITS" = some (some u_DIGITS))
    (r_DIGITS : RelV (.str sDIG) u_DIGITS)
    (v_MOST_WORD : PySem.W.nsIn K mainGlobals "MOST_WORD" = some (some u_MOST_WORD))
    (r_MOST_WORD : RelV (.int 12) u_MOST_WORD)
    (v_MOST_DEPTH : PySem.W.nsIn K mainGlobals "MOST_DEPTH" = some (some u_MOST_DEPTH))
    (r_MOST_DEPTH : RelV (.int 1000) u_MOST_DEPTH)
    (v_MOST_DIGITS : PySem.W.nsIn K mainGlobals "MOST_DIGITS" = some (some u_MOST_DIGITS))
    (r_MOST_DIGITS : RelV (.int 4000) u_MOST_DIGITS)
    (zd : PySem.W.nsIn K cStatics "sys.int_max_str_digits" = some none)
    (aS : PySem.W.nsIn K mainGlobals "SIGNS" = some (some (.ref CS)))
    (lS : K.lookup CS = some ⟨.type "dict", none, .dict es nS, #[]⟩)
    (eS : es.toList = [e1, e2, e3])
    (litS : PySem.W.KeysLit w.params [e1, e2, e3])
    (lowS : (CS == sysModules) = false)
    (h1 : e1.key = .str "+" t1 ∧ e1.val = .bool true)
    (h2 : e2.key = .str "-" t2 ∧ e2.val = .bool false)
    (h3 : e3.key = .str "." t3 ∧ e3.val = .str "" t4)
    : ∃ fd : FuncData, (∀ (s : Shared) (u : Value), BindsTo s fd ⟨[u], []⟩ [("script", u)]) ∧ ∀ base : Heap, K.In base → base.Ns mainGlobals mg → FnG P w K mg base CX0 11 fa fd ["script"] (spLaw K) := by
  have e := hfa.symm.trans (PySem.W.mg_of X G a17)
  cases e
  have T : Facts w K mg CM := { b_isinstance := ns_none X G b_isinstance, b_int := ns_none X G b_int, b_bool := ns_none X G b_bool, b_str := ns_none X G b_str, b_tuple := ns_none X G b_tuple, b_len := ns_none X G b_len, b_all := ns_none X G b_all, b_any := ns_none X G b_any, b_range := ns_none X G b_range, b_enumerate := ns_none X G b_enumerate, b_abs := ns_none X G b_abs, b_repr := ns_none X G b_repr, c_LETTERS := ⟨_, PySem.W.mg_of X G v_LETTERS, r_LETTERS⟩, c_DIGITS := ⟨_, PySem.W.mg_of X G v_DIGITS, r_DIGITS⟩, c_MOST_WORD := ⟨_, PySem.W.mg_of X G v_MOST_WORD, r_MOST_WORD⟩, c_MOST_DEPTH := ⟨_, PySem.W.mg_of X G v_MOST_DEPTH, r_MOST_DEPTH⟩, c_MOST_DIGITS := ⟨_, PySem.W.mg_of X G v_MOST_DIGITS, r_MOST_DIGITS⟩, x_Malformed := xM, g_Malformed := PySem.W.mg_of X G aM, k_Malformed := kM, s_Malformed := bM, t_Malformed := tM, e_Malformed := exm_self bM iM tM sM, digits := zd }
  have RF : RdF K CR := ⟨⟨pg, hd, po, sa⟩, n_tuples, n_ready, n_told⟩
  have SG : Signs w K mg CS es nS := ⟨⟨lS, by rw [eS]; exact litS, lowS⟩, ⟨_, PySem.W.mg_of X G aS, rfl⟩, signs_get lS eS h1 h2 h3⟩
  have F0 := fun_mk (st := s_is_whole) l0 c0 k0
  have B0 := F0.binds (ps := ["value"]) fun _ _ _ _ _ _ us hl => match us, hl with | [_], _ => rfl
  have F1 := fun_mk (st := s_is_word) l1 c1 k1
  have B1 := F1.binds (ps := ["value"]) fun _ _ _ _ _ _ us hl => match us, hl with | [_], _ => rfl
  have F2 := fun_mk (st := s_is_short) l2 c2 k2
  have B2 := F2.binds (ps := ["value"]) fun _ _ _ _ _ _ us hl => match us, hl with | [_], _ => rfl
  have F3 := fun_mk (st := s_atom_text) l3 c3 k3
  have B3 := F3.binds (ps := ["value"]) fun _ _ _ _ _ _ us hl => match us, hl with | [_], _ => rfl
  have F4 := fun_mk (st := s_write_data) l4 c4 k4
  have B4 := F4.binds (ps := ["data"]) fun _ _ _ _ _ _ us hl => match us, hl with | [_], _ => rfl
  have F5 := fun_mk (st := s_read_whole) l5 c5 k5
  have B5 := F5.binds (ps := ["text"]) fun _ _ _ _ _ _ us hl => match us, hl with | [_], _ => rfl
  have F6 := fun_mk (st := s_read_atom) l6 c6 k6
  have B6 := F6.binds (ps := ["piece"]) fun _ _ _ _ _ _ us hl => match us, hl with | [_], _ => rfl
  have F7 := fun_mk (st := s_pieces_of) l7 c7 k7
  have B7 := F7.binds (ps := ["text"]) fun _ _ _ _ _ _ us hl => match us, hl with | [_], _ => rfl
  have F8 := fun_mk (st := s_read_data) l8 c8 k8
  have B8 := F8.binds (ps := ["text"]) fun _ _ _ _ _ _ us hl => match us, hl with | [_], _ => rfl
  have F9 := fun_mk (st := s__law_draw) l9 c9 k9
  have B9 := F9.binds (ps := ["script"]) fun _ _ _ _ _ _ us hl => match us, hl with | [_], _ => rfl
  have F10 := fun_mk (st := s__law_take) l10 c10 k10
  have B10 := F10.binds (ps := ["draw", "many"]) fun _ _ _ _ _ _ us hl => match us, hl with | [_, _], _ => rfl
  have F11 := fun_mk (st := s__law_data) l11 c11 k11
  have B11 := F11.binds (ps := ["draw", "deep"]) fun _ _ _ _ _ _ us hl => match us, hl with | [_, _], _ => rfl
  have F12 := fun_mk (st := s__law_word) l12 c12 k12
  have B12 := F12.binds (ps := ["value"]) fun _ _ _ _ _ _ us hl => match us, hl with | [_], _ => rfl
  have F13 := fun_mk (st := s__law_written) l13 c13 k13
  have B13 := F13.binds (ps := ["data"]) fun _ _ _ _ _ _ us hl => match us, hl with | [_], _ => rfl
  have F14 := fun_mk (st := s__law_number) l14 c14 k14
  have B14 := F14.binds (ps := ["text"]) fun _ _ _ _ _ _ us hl => match us, hl with | [_], _ => rfl
  have F15 := fun_mk (st := s__law_read) l15 c15 k15
  have B15 := F15.binds (ps := ["text"]) fun _ _ _ _ _ _ us hl => match us, hl with | [_], _ => rfl
  have F16 := fun_mk (st := s__law_told) l16 c16 k16
  have B16 := F16.binds (ps := ["which", "value"]) fun _ _ _ _ _ _ us hl => match us, hl with | [_, _], _ => rfl
  have F17 := fun_mk (st := s_law) l17 c17 k17
  have B17 := F17.binds (ps := ["script"]) fun _ _ _ _ _ _ us hl => match us, hl with | [_], _ => rfl
  have F18 := fun_mk (st := s_DataReader___init__) l18 c18 k18
  have B18 := F18.binds (ps := ["self"]) fun _ _ _ _ _ _ us hl => match us, hl with | [_], _ => rfl
  have F19 := fun_mk (st := s_DataReader_item) l19 c19 k19
  have B19 := F19.binds (ps := ["self", "value"]) fun _ _ _ _ _ _ us hl => match us, hl with | [_, _], _ => rfl
  have F20 := fun_mk (st := s_DataReader_open_one) l20 c20 k20
  have B20 := F20.binds (ps := ["self"]) fun _ _ _ _ _ _ us hl => match us, hl with | [_], _ => rfl
  have F21 := fun_mk (st := s_DataReader_close_one) l21 c21 k21
  have B21 := F21.binds (ps := ["self"]) fun _ _ _ _ _ _ us hl => match us, hl with | [_], _ => rfl
  have F22 := fun_mk (st := s_DataReader_comma) l22 c22 k22
  have B22 := F22.binds (ps := ["self"]) fun _ _ _ _ _ _ us hl => match us, hl with | [_], _ => rfl
  have F23 := fun_mk (st := s_DataReader_take) l23 c23 k23
  have B23 := F23.binds (ps := ["self", "piece"]) fun _ _ _ _ _ _ us hl => match us, hl with | [_, _], _ => rfl
  refine ⟨PySem.W.fnOf "law" "law" (defArgs s_law) (defBody s_law) (defScope s_law) .none kV17 dc17 pm17 an17 cd17 ct17, fun s u => .of_eq rfl, fun base _ _ => ?_⟩
  have g0 : Fn0 P w K mg base 1 "is_whole" (spWhole K) := ⟨_, _, _, ok_is_whole T F0, PySem.W.mg_of X G a0, k0, B0⟩
  have g1 : Fn0 P w K mg base 1 "is_word" (spWord K) := ⟨_, _, _, ok_is_word T F1, PySem.W.mg_of X G a1, k1, B1⟩
  have g2 : Fn0 P w K mg base 2 "is_short" (spShort K) := ⟨_, _, _, ok_is_short T F2 g0, PySem.W.mg_of X G a2, k2, B2⟩
  have g3 : FnX P w K mg base 3 "atom_text" (spAtom K CM) := ⟨_, _, _, ok_atom_text T F3 g1 g2, PySem.W.mg_of X G a3, k3, B3⟩
  have g4 : FnX P w K mg base 4 "write_data" (spWrite K CM) := ⟨_, _, _, ok_write_data T F4 g3, PySem.W.mg_of X G a4, k4, B4⟩
  have g5 : FnX P w K mg base 1 "read_whole" (spReadW K CM) := ⟨_, _, _, ok_read_whole T F5, PySem.W.mg_of X G a5, k5, B5⟩
  have g6 : FnX P w K mg base 2 "read_atom" (spReadA K CM) := ⟨_, _, _, ok_read_atom T SG F6 g1 g5, PySem.W.mg_of X G a6, k6, B6⟩
  have g7 : Fn0 P w K mg base 1 "pieces_of" (spPieces K) := ⟨_, _, _, ok_pieces_of T F7, PySem.W.mg_of X G a7, k7, B7⟩
  have g19 : MeC (L2.CX P w) P w K mg base 1 CR "item" (spItem K CM CR) := ⟨_, _, _, ok_item T RF F19, RF.cls, ⟨a19, i19, k19⟩, B19⟩
  have g20 : MeC (L2.CX P w) P w K mg base 1 CR "open_one" (spStep K CM CR DataM.R.opn) := ⟨_, _, _, ok_open T RF F20, RF.cls, ⟨a20, i20, k20⟩, B20⟩
  have g22 : MeC (L2.CX P w) P w K mg base 1 CR "comma" (spStep K CM CR DataM.R.com) := ⟨_, _, _, ok_comma T RF F22, RF.cls, ⟨a22, i22, k22⟩, B22⟩
  have g21 : MeC (L2.CX P w) P w K mg base 2 CR "close_one" (spStep K CM CR DataM.R.cls) := ⟨_, _, _, ok_close T RF F21 g19, RF.cls, ⟨a21, i21, k21⟩, B21⟩
  have g23 : MeC (L2.CX P w) P w K mg base 3 CR "take" (spTake K CM CR) := ⟨_, _, _, ok_take T RF F23 g6 g19 g20 g22 g21, RF.cls, ⟨a23, i23, k23⟩, B23⟩
  have g18 : MkC P w K mg base 1 "DataReader" CR (spInit K CR) := ⟨_, _, _, ok_init T RF F18, ⟨mk, a18, i18, kc⟩, PySem.W.mg_of X G aC, B18⟩
  have g8 : FnX P w K mg base 4 "read_data" (spRead K CM) := ⟨_, _, _, ok_read_data T RF F8 g7 g18 g23, PySem.W.mg_of X G a8, k8, B8⟩
  have g9 : Fn0 P w K mg base 1 "_law_draw" (spDraw K) := ⟨_, _, _, ok_law_draw T F9, PySem.W.mg_of X G a9, k9, B9⟩
  have g10 : Fn0 P w K mg base 1 "_law_take" (spTakeN K) := ⟨_, _, _, ok_law_take T F10, PySem.W.mg_of X G a10, k10, B10⟩
  have g12 : Fn0 P w K mg base 1 "_law_word" (spWord K) := ⟨_, _, _, ok_law_word T F12, PySem.W.mg_of X G a12, k12, B12⟩
  have g14 : Fn0 P w K mg base 1 "_law_number" (spNumL K) := ⟨_, _, _, ok_law_number T F14, PySem.W.mg_of X G a14, k14, B14⟩
  have g15 : Fn0 P w K mg base 2 "_law_read" (spLR K) := ⟨_, _, _, ok_law_read T F15 g12 g14, PySem.W.mg_of X G a15, k15, B15⟩
  have g16 : Fn0 P w K mg base 5 "_law_told" (spTold K) := ⟨_, _, _, ok_law_told T F16 g4 g8, PySem.W.mg_of X G a16, k16, B16⟩
  have rd : ∀ n, Fn0 P w K mg base (n + 2) "_law_data" (spData K n) := fun n => by
    induction n with
    | zero => exact ⟨_, _, _, ok_law_data_step (sp := fun _ _ _ _ => False) T F11 g10 ⟨_, _, _, fn_false _ F11, PySem.W.mg_of X G a11, k11, B11⟩ (fun m hm => by cases hm), PySem.W.mg_of X G a11, k11, B11⟩
    | succ n ih => exact ⟨_, _, _, ok_law_data_step T F11 g10 ih (fun m hm => by cases hm; rfl), PySem.W.mg_of X G a11, k11, B11⟩
  have rw_ : ∀ n, Fn0 P w K mg base (n + 2) "_law_written" (spWr K n) := fun n => by
    induction n with
    | zero => exact ⟨_, _, _, ok_law_written_step (sp := fun _ _ _ _ => False) T F13 g12 ⟨_, _, _, fn_false _ F13, PySem.W.mg_of X G a13, k13, B13⟩ (fun m hm => by cases hm), PySem.W.mg_of X G a13, k13, B13⟩
    | succ n ih => exact ⟨_, _, _, ok_law_written_step T F13 g12 ih (fun m hm => by cases hm; rfl), PySem.W.mg_of X G a13, k13, B13⟩
  exact ok_law T F17 g9 g10 (rd 5) (rw_ 8) g15 g16
end K53

set_option exponentiation.threshold 256
set_option Elab.async false
set_option linter.all false
set_option maxRecDepth 100000
open PySem PySem.W PyProof.Rows
set_option maxHeartbeats 0 in
theorem PySem.Challenge.cw_tablesswitched_k53_whole_plain_data_holds : PySem.Challenge.rw_tablesswitched_k53_whole_plain_data.Holds := by
  w_on; o_law; k_head; (case hw => w_witness2)
  k_fill
  refine Lay.walk_g (l := PySem.Challenge.rw_tablesswitched_k53_whole_plain_data) (n := 63) (k := 11) (x := "script") (CX := fun _ => L2.CX0) (sp := fun w => K53.spLaw _) rfl (by decide) rfl ⟨rfl, by decide, by decide⟩ (fun w h Y => PySem.W.kIn_of Y) ?F (fun _ _ a ns hl hS => ⟨a, ns, rfl, hS, Nat.le_trans hl (by decide), fun _ => rfl⟩) (fun _ _ _ _ _ z => z)
  case F =>
    intro w mg fa h KX G hmg
    refine' K53.all_mk KX G hmg ?a0 ?l0 ?c0 ?k0 ?a1 ?l1 ?c1 ?k1 ?a2 ?l2 ?c2 ?k2 ?a3 ?l3 ?c3 ?k3 ?a4 ?l4 ?c4 ?k4 ?a5 ?l5 ?c5 ?k5 ?a6 ?l6 ?c6 ?k6 ?a7 ?l7 ?c7 ?k7 ?a8 ?l8 ?c8 ?k8 ?a9 ?l9 ?c9 ?k9 ?a10 ?l10 ?c10 ?k10 ?a11 ?l11 ?c11 ?k11 ?a12 ?l12 ?c12 ?k12 ?a13 ?l13 ?c13 ?k13 ?a14 ?l14 ?c14 ?k14 ?a15 ?l15 ?c15 ?k15 ?a16 ?l16 ?c16 ?k16 ?a17 ?l17 ?c17 ?k17 ?a18 ?i18 ?l18 ?c18 ?k18 ?a19 ?i19 ?l19 ?c19 ?k19 ?a20 ?i20 ?l20 ?c20 ?k20 ?a21 ?i21 ?l21 ?c21 ?k21 ?a22 ?i22 ?l22 ?c22 ?k22 ?a23 ?i23 ?l23 ?c23 ?k23 ?aC ?pg ?hd ?po ?sa ?mk ?kc ?n_tuples ?n_ready ?n_told ?aM ?xM ?kM ?bM ?tM ?iM ?sM ?b_isinstance ?b_int ?b_bool ?b_str ?b_tuple ?b_len ?b_all ?b_any ?b_range ?b_enumerate ?b_abs ?b_repr ?v_LETTERS ?r_LETTERS ?v_DIGITS ?r_DIGITS ?v_MOST_WORD ?r_MOST_WORD ?v_MOST_DEPTH ?r_MOST_DEPTH ?v_MOST_DIGITS ?r_MOST_DIGITS ?zd ?aS ?lS ?eS ?litS ?lowS ?h1 ?h2 ?h3
    (case aC => k_is)
    (case a0 => k_is)
    (case l0 => k_is)
    (case c0 => k_is)
    (case k0 => k_is)
    (case a1 => k_is)
    (case l1 => k_is)
    (case c1 => k_is)
    (case k1 => k_is)
    (case a2 => k_is)
    (case l2 => k_is)
    (case c2 => k_is)
    (case k2 => k_is)
    (case a3 => k_is)
    (case l3 => k_is)
    (case c3 => k_is)
    (case k3 => k_is)
    (case a4 => k_is)
    (case l4 => k_is)
    (case c4 => k_is)
    (case k4 => k_is)
    (case a5 => k_is)
    (case l5 => k_is)
    (case c5 => k_is)
    (case k5 => k_is)
    (case a6 => k_is)
    (case l6 => k_is)
    (case c6 => k_is)
    (case k6 => k_is)
    (case a7 => k_is)
    (case l7 => k_is)
    (case c7 => k_is)
    (case k7 => k_is)
    (case a8 => k_is)
    (case l8 => k_is)
    (case c8 => k_is)
    (case k8 => k_is)
    (case a9 => k_is)
    (case l9 => k_is)
    (case c9 => k_is)
    (case k9 => k_is)
    (case a10 => k_is)
    (case l10 => k_is)
    (case c10 => k_is)
    (case k10 => k_is)
    (case a11 => k_is)
    (case l11 => k_is)
    (case c11 => k_is)
    (case k11 => k_is)
    (case a12 => k_is)
    (case l12 => k_is)
    (case c12 => k_is)
    (case k12 => k_is)
    (case a13 => k_is)
    (case l13 => k_is)
    (case c13 => k_is)
    (case k13 => k_is)
    (case a14 => k_is)
    (case l14 => k_is)
    (case c14 => k_is)
    (case k14 => k_is)
    (case a15 => k_is)
    (case l15 => k_is)
    (case c15 => k_is)
    (case k15 => k_is)
    (case a16 => k_is)
    (case l16 => k_is)
    (case c16 => k_is)
    (case k16 => k_is)
    (case a17 => k_is)
    (case l17 => k_is)
    (case c17 => k_is)
    (case k17 => k_is)
    (case a18 => k_is)
    (case i18 => k_is)
    (case l18 => k_is)
    (case c18 => k_is)
    (case k18 => k_is)
    (case a19 => k_is)
    (case i19 => k_is)
    (case l19 => k_is)
    (case c19 => k_is)
    (case k19 => k_is)
    (case a20 => k_is)
    (case i20 => k_is)
    (case l20 => k_is)
    (case c20 => k_is)
    (case k20 => k_is)
    (case a21 => k_is)
    (case i21 => k_is)
    (case l21 => k_is)
    (case c21 => k_is)
    (case k21 => k_is)
    (case a22 => k_is)
    (case i22 => k_is)
    (case l22 => k_is)
    (case c22 => k_is)
    (case k22 => k_is)
    (case a23 => k_is)
    (case i23 => k_is)
    (case l23 => k_is)
    (case c23 => k_is)
    (case k23 => k_is)
    (case pg => k_is)
    (case hd => k_is)
    (case po => k_is)
    (case sa => k_is)
    (case mk => k_is)
    (case kc => k_is)
    (case n_tuples => k_is)
    (case n_ready => k_is)
    (case n_told => k_is)
    (case aM => k_is)
    (case xM => k_exc)
    (case kM => k_is)
    (case bM => k_is)
    (case tM => k_is)
    (case iM => k_is)
    (case sM => first | rfl | k_is)
    (case b_isinstance => k_is)
    (case b_int => k_is)
    (case b_bool => k_is)
    (case b_str => k_is)
    (case b_tuple => k_is)
    (case b_len => k_is)
    (case b_all => k_is)
    (case b_any => k_is)
    (case b_range => k_is)
    (case b_enumerate => k_is)
    (case b_abs => k_is)
    (case b_repr => k_is)
    (case v_LETTERS => k_is)
    (case r_LETTERS => exact ⟨_, rfl⟩)
    (case v_DIGITS => k_is)
    (case r_DIGITS => exact ⟨_, rfl⟩)
    (case v_MOST_WORD => k_is)
    (case r_MOST_WORD => exact ⟨_, rfl⟩)
    (case v_MOST_DEPTH => k_is)
    (case r_MOST_DEPTH => exact ⟨_, rfl⟩)
    (case v_MOST_DIGITS => k_is)
    (case r_MOST_DIGITS => exact ⟨_, rfl⟩)
    (case zd => k_is)
    (case aS => k_is)
    (case lS => k_is)
    (case eS => rfl)
    (case litS => exact ⟨⟨_, _, rfl, rfl⟩, ⟨_, _, rfl, rfl⟩, ⟨_, _, rfl, rfl⟩, trivial⟩)
    (case lowS => rfl)
    (case h1 => exact ⟨rfl, rfl⟩)
    (case h2 => exact ⟨rfl, rfl⟩)
    (case h3 => exact ⟨rfl, rfl⟩)

set_option exponentiation.threshold 256

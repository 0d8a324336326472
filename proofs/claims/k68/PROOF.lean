import PyProof.Rows.All
import Wide.All
import OpenK.AllK
import Wide.FinOn
import HandS.ForMost
import HandS.IsInst
import HandS.Property
import HandS.OwnEq
import HandS.SortInts
import HandS.Defaults
import HandS.Walk
import HandS.SetKeys
import HandS.DictComp
import HandS.HeadHook1
import HandS.HeadHook2
import HandS.Strs
import HandS.Style
import HandS.SetBool
import HandS.Dict
import HandS.Small
import HandS.SetFor
import HandS.More
import PyProof.Rows.SortWalkRead
import KE.KStateDown
import Lean
import HandS.Ends
import HandS.Words
import HandS.WordsExc
import HandS.Head0
import HandS.Head1
import HandS.Head2
import HandS.HeadEnd
import PySem.Challenge.RW_rankpicks_k68_kth_worths
set_option Elab.async false
set_option linter.all false
set_option maxRecDepth 100000
set_option maxHeartbeats 0
namespace GG
open PySem PySem.Spec L2

/-! ### readings may be strengthened -/
section
variable {X : Cx}
theorem PEi {e : Expr} {t t' : TE} (h : PE X e t) (i : ∀ σ H Q, t' σ H Q → t σ H Q) : PE X e t' := ⟨fun pins s σ H Q I q => h.run pins s σ H Q I (i σ H Q q)⟩
theorem PTi {e : Expr} {t t' : TT} (h : PT X e t) (i : ∀ σ H Q, t' σ H Q → t σ H Q) : PT X e t' := ⟨fun pins s σ H Q I q => h.run pins s σ H Q I (i σ H Q q)⟩
theorem PWi {e : Expr} {t t' : TT} (h : PW X e t) (i : ∀ σ H Q, t' σ H Q → t σ H Q) : PW X e t' := ⟨fun wh pins s σ H Q I q => h.run wh pins s σ H Q I (i σ H Q q)⟩
theorem PSi {e : Stmt} {t t' : TS} (h : PS X e t) (i : ∀ D σ H, t' D σ H → t D σ H) : PS X e t' := ⟨fun pins s σ H D I q => h.run pins s σ H D I (i D σ H q)⟩
theorem PEor {e : Expr} {t t' : TE} (h : PE X e t) (h' : PE X e t') : PE X e (fun σ H Q => t σ H Q ∨ t' σ H Q) :=
  ⟨fun pins s σ H Q I q => q.elim (h.run pins s σ H Q I) (h'.run pins s σ H Q I)⟩
theorem OpRi {f : Value → Value → Sem Value} {r r' : R2} (h : OpR X f r) (i : ∀ x y H Q, r' x y H Q → r x y H Q) : OpR X f r' :=
  fun pins s σ H x y u v Q I rx ry q => h pins s σ H x y u v Q I rx ry (i x y H Q q)
theorem CallRi {f : Value} {r r' : List V → Hp → VK → Prop} (h : CallR X f r) (i : ∀ xs H Q, r' xs H Q → r xs H Q) : CallR X f r' :=
  fun pins s σ H xs us Q I r0 q => h pins s σ H xs us Q I r0 (i xs H Q q)
end

/-! ### heaps -/
theorem Sm.new {H : Hp} {p : Addr} {o : HO} (h : H p = none) : Same H (upd H p o) := fun b u q => by rw [upd_ne (ne_of_none q h)]; exact q
/-- all but what stands at p -/
def SameX (p : Addr) (H H' : Hp) : Prop := ∀ b o, b ≠ p → H b = some o → H' b = some o
theorem SameX.of {p : Addr} {H H' : Hp} (h : Same H H') : SameX p H H' := fun b o _ e => h b o e
theorem SameX.refl {p : Addr} {H : Hp} : SameX p H H := fun _ _ _ e => e
theorem SameX.trans {p : Addr} {H H1 H2 : Hp} (a : SameX p H H1) (b : SameX p H1 H2) : SameX p H H2 := fun c o n e => b c o n (a c o n e)
theorem SameX.upd {p : Addr} {H : Hp} {o : HO} : SameX p H (upd H p o) := fun b u n e => by rw [upd_ne n]; exact e
theorem SameX.un {p : Addr} {H H1 H2 : Hp} (a : Same H H1) (n : H p = none) (b : SameX p H1 H2) : Same H H2 := fun c o e => b c o (ne_of_none e n) (a c o e)
/-- the heap without what stands at D -/
def off (D : Addr) (H : Hp) : Hp := fun b => if b = D then none else H b
theorem off_at {D b : Addr} {H : Hp} (n : b ≠ D) : off D H b = H b := by unfold off; rw [if_neg n]
theorem off_self {D : Addr} {H : Hp} : off D H D = none := by unfold off; rw [if_pos rfl]
theorem off_some {D b : Addr} {H : Hp} {o : HO} (h : off D H b = some o) : b ≠ D ∧ H b = some o := by
  by_cases e : b = D
  · subst e; rw [off_self] at h; cases h
  · rw [off_at e] at h; exact ⟨e, h⟩
theorem off_same {D : Addr} {H : Hp} : Same (off D H) H := fun b o h => (off_some h).2
theorem off_upd {D : Addr} {H : Hp} {o : HO} : off D (upd H D o) = off D H := by
  funext b
  by_cases e : b = D
  · subst e; rw [off_self, off_self]
  · rw [off_at e, off_at e, upd_ne e]
theorem off_mono {D : Addr} {H H' : Hp} (h : Same H H') : Same (off D H) (off D H') := fun b o e => by
  obtain ⟨n, e⟩ := off_some e
  rw [off_at n]; exact h b o e
theorem off_monoX {D : Addr} {H H' : Hp} (h : SameX D H H') : Same (off D H) (off D H') := fun b o e => by
  obtain ⟨n, e⟩ := off_some e
  rw [off_at n]; exact h b o n e
theorem off_free {D : Addr} {H : Hp} (h : H D = none) : off D H = H := by
  funext b
  by_cases e : b = D
  · subst e; rw [off_self, h]
  · rw [off_at e]
theorem off_from {D : Addr} {H H' : Hp} (h : Same H H') (n : H D = none) : Same H (off D H') := fun b o e => by
  rw [off_at (ne_of_none e n)]; exact h b o e
theorem off_fromX {p D : Addr} {H H' : Hp} (h : SameX p H H') (n : H D = none) : SameX p H (off D H') := fun b o k e => by
  rw [off_at (ne_of_none e n)]; exact h b o k e
/-- what is new in H' -/
def fresh (H H' : Hp) : Hp := fun b => match H b with | none => H' b | some _ => none
theorem fresh_some {H H' : Hp} {b : Addr} {o : HO} (h : fresh H H' b = some o) : H b = none ∧ H' b = some o := by
  unfold fresh at h
  cases e : H b with
  | none => rw [e] at h; exact ⟨rfl, h⟩
  | some u => rw [e] at h; cases h
theorem fresh_at {H H' : Hp} {b : Addr} {o : HO} (n : H b = none) (h : H' b = some o) : fresh H H' b = some o := by unfold fresh; rw [n]; exact h
theorem fresh_same {H H' : Hp} : Same (fresh H H') H' := fun b o h => (fresh_some h).2
theorem fresh_off {D : Addr} {H H' : Hp} {o : HO} (h : H D = some o) : Same (fresh H H') (off D H') := fun b u e => by
  obtain ⟨n, e⟩ := fresh_some e
  rw [off_at (ne_of_none h n).symm]; exact e

/-! ### a test's two ways, as one word that stands until it is decided -/
@[irreducible] def way (b : Bool) (A B : Prop) : Prop := if b = true then A else B
theorem way_t {A B : Prop} (h : A) : way true A B := by unfold way; rw [if_pos rfl]; exact h
theorem way_f {A B : Prop} (h : B) : way false A B := by unfold way; rw [if_neg (by decide)]; exact h
theorem way_eq {b : Bool} {A B : Prop} : way b A B = if b = true then A else B := by unfold way; rfl
theorem way_c {b : Bool} {A B : Prop} (h1 : b = true → A) (h2 : b = false → B) : way b A B := by
  cases b
  · exact way_f (h2 rfl)
  · exact way_t (h1 rfl)
theorem way_d {p : Prop} [Decidable p] {A B : Prop} (h1 : p → A) (h2 : ¬ p → B) : way (decide p) A B :=
  way_c (fun h => h1 (of_decide_eq_true h)) fun h => h2 (of_decide_eq_false h)
theorem way_n {b : Bool} {A B : Prop} (h1 : b = false → A) (h2 : b = true → B) : way (!b) A B := by
  cases b
  · exact way_t (h1 rfl)
  · exact way_f (h2 rfl)
theorem way_nd {p : Prop} [Decidable p] {A B : Prop} (h1 : ¬ p → A) (h2 : p → B) : way (!decide p) A B :=
  way_n (fun h => h1 (of_decide_eq_false h)) fun h => h2 (of_decide_eq_true h)
theorem way_is {b c : Bool} {A B : Prop} (e : b = c) (h : way c A B) : way b A B := by rw [e]; exact h

section
variable {X : Cx}
/-! ### names -/
def gVar (i : Nat) : TE := fun σ H Q => match σ[i]? with
  | some (some v) => Q v H
  | _ => False
theorem gv (i : Nat) {x : Str} {pos : Pos} (hN : X.N[i]? = some x := by rfl) (hv : Vis X.env.scope x := by first | exact Or.inl rfl | exact Or.inr (Or.inl rfl) | exact Or.inr (Or.inr rfl)) (hd : (x == ("__debug__" : Str)) = false := by decide)
    (hcd : (x == ("__classdict__" : Str)) = false := by decide) : PE X (.Name x pos) (gVar i) := PEi (pe_var hN hv hd hcd) fun σ H Q h => by
  unfold gVar at h
  split at h
  · rename_i v e
    exact ⟨v, e, h⟩
  · exact h.elim

/-! ### arithmetic -/
def rAddG : R2 := fun x y H Q => match x, y with
  | .int i, .int j => Q (.int (i + j)) H
  | .str a, .str b => a.length + b.length ≤ sizeLine ∧ Q (.str (a ++ b)) H
  | .ref a, .ref b => ∃ xs zs, H a = some (.lst xs) ∧ H b = some (.lst zs) ∧ xs.length + zs.length ≤ sizeLine ∧ ∀ p H', H p = none → Same H H' → H' p = some (.lst (xs ++ zs)) → Q (.ref p) H'
  | _, _ => False
theorem op_addG : OpR X (binaryOp .Add) rAddG := fun pins s σ H x y u v Q I rx ry h => by
  unfold rAddG at h
  split at h
  · exact op_add pins s σ H _ _ u v Q I rx ry ⟨_, _, rfl, rfl, h⟩
  · exact op_add_str pins s σ H _ _ u v Q I rx ry ⟨_, _, rfl, rfl, h.1, h.2⟩
  · obtain ⟨xs, zs, h1, h2, h3, h4⟩ := h
    exact op_cat pins s σ H _ _ u v Q I rx ry ⟨_, _, _, _, rfl, rfl, h1, h2, h3, fun p hp => h4 p _ hp (Sm.new hp) upd_same⟩
  · exact h.elim
def rI1 (C : Int → Int → Prop) (g : Int → Int → V) : R2 := fun x y H Q => match x, y with
  | .int i, .int j => C i j ∧ Q (g i j) H
  | _, _ => False
theorem op_i1 {f : Value → Value → Sem Value} {C : Int → Int → Prop} {g : Int → Int → V} (h : OpR X f (rI C g)) : OpR X f (rI1 C g) := fun pins s σ H x y u v Q I rx ry q => by
  unfold rI1 at q
  split at q
  · exact h pins s σ H _ _ u v Q I rx ry ⟨_, _, rfl, rfl, q.1, q.2⟩
  · exact q.elim
def rI2 (g : Int → Int → V) : R2 := fun x y H Q => match x, y with
  | .int i, .int j => Q (g i j) H
  | _, _ => False
theorem op_i2 {f : Value → Value → Sem Value} {g : Int → Int → V} (h : OpR X f (rI0 g)) : OpR X f (rI2 g) := fun pins s σ H x y u v Q I rx ry q => by
  unfold rI2 at q
  split at q
  · exact h pins s σ H _ _ u v Q I rx ry ⟨_, _, rfl, rfl, q⟩
  · exact q.elim
theorem op_subG : OpR X (binaryOp .Sub) (rI2 fun i j => .int (i - j)) := op_i2 op_sub
theorem op_fdivG : OpR X (binaryOp .FloorDiv) (rI1 CDiv fun i j => .int (i / j)) := op_i1 op_fdiv
theorem op_modG : OpR X (binaryOp .Mod) (rI1 (fun _ j => 0 < j) fun i j => .int (i % j)) := op_i1 op_mod
theorem op_powG : OpR X (binaryOp .Pow) (rI1 CPow fun i j => .int (i ^ j.toNat)) := op_i1 op_pow

/-! ### comparisons of scalars -/
def rLtG (fi : Int → Int → Bool) (fs : Str → Str → Bool) : R2 := fun x y H Q => match x, y with
  | .int i, .int j => Q (.bl (fi i j)) H
  | .str i, .str j => Q (.bl (fs i j)) H
  | _, _ => False
theorem op_ltG : OpR X (compareOp .Lt) (rLtG (fun i j => decide (i < j)) fun i j => decide (i.cps.toList < j.cps.toList)) := fun pins s σ H x y u v Q I rx ry q => by
  unfold rLtG at q
  split at q
  · exact op_lt pins s σ H _ _ u v Q I rx ry ⟨_, _, rfl, rfl, q⟩
  · exact op_lt_str pins s σ H _ _ u v Q I rx ry ⟨_, _, rfl, rfl, q⟩
  · exact q.elim
theorem op_leG : OpR X (compareOp .LtE) (rI2 fun i j => .bl (decide (i ≤ j))) := op_i2 op_le
theorem op_gtG : OpR X (compareOp .Gt) (rI2 fun i j => .bl (decide (j < i))) := op_i2 op_gt
theorem op_geG : OpR X (compareOp .GtE) (rI2 fun i j => .bl (decide (j ≤ i))) := op_i2 op_ge
end
end GG
namespace GG
open PySem PySem.Spec L2
section
variable {X : Cx}
/-! ### xs == [], xs != [] whatever stands in xs -/
theorem rc_nil {A : Around} {pins : List (Addr × Obj)} {σ : L2.St} {H : Hp} {s : Shared} {a b : Addr} {xs : List V} {E : Value → Shared → Prop} {Q : Value → Shared → Prop} (I : Inv X pins σ H s) (ha : SqL X.K H a xs) (hb : H b = some (.lst [])) (hu : A.units < cLine)
    (h : Q (.bool xs.isEmpty) s) : wpAny (model X.prog X.w) A (richCompare .Eq (.ref a) (.ref b)) Q E s := by
  obtain ⟨its, r, ⟨o1, n1, e1, c1, d1, q1⟩, z⟩ := I.list ha
  obtain ⟨its2, n2, r2, e2, z2⟩ := I.lst hb
  cases r2
  have L1 : s.heap.IsList a its.toArray := ⟨o1, e1, c1, n1, q1⟩
  have L2' : s.heap.IsList b #[] := ⟨_, e2, rfl, n2, rfl⟩
  cases r with
  | nil => exact SeqAt.RcAt.lists (e := fun _ => true) L1 L2' rfl hu (fun j h1 => by simp at h1) X.prog X.w E Q h
  | cons r0 rs => exact SeqAt.RcAt.lists_lengths L1 L2' (by simp) hu X.prog X.w E Q h
theorem rcne_nil {A : Around} {pins : List (Addr × Obj)} {σ : L2.St} {H : Hp} {s : Shared} {a b : Addr} {xs : List V} {E : Value → Shared → Prop} {Q : Value → Shared → Prop} (I : Inv X pins σ H s) (ha : SqL X.K H a xs) (hb : H b = some (.lst [])) (hu : A.units < cLine)
    (h : Q (.bool !xs.isEmpty) s) : wpAny (model X.prog X.w) A (richCompare .NotEq (.ref a) (.ref b)) Q E s := by
  obtain ⟨its, r, ⟨o1, n1, e1, c1, d1, q1⟩, z⟩ := I.list ha
  obtain ⟨its2, n2, r2, e2, z2⟩ := I.lst hb
  cases r2
  have L1 : s.heap.IsList a its.toArray := ⟨o1, e1, c1, n1, q1⟩
  have L2' : s.heap.IsList b #[] := ⟨_, e2, rfl, n2, rfl⟩
  cases r with
  | nil => exact SeqAt.RcNeAt.lists (e := fun _ => true) L1 L2' rfl hu (fun j h1 => by simp at h1) X.prog X.w E Q h
  | cons r0 rs => exact SeqAt.RcNeAt.lists_lengths L1 L2' (by simp) hu X.prog X.w E Q h
def rEqNil (K : PySem.W.Frag) : R2 := fun x y H Q => ∃ a b xs, x = .ref a ∧ y = .ref b ∧ SqL K H a xs ∧ H b = some (.lst []) ∧ Q (.bl xs.isEmpty) H
def rNeNil (K : PySem.W.Frag) : R2 := fun x y H Q => ∃ a b xs, x = .ref a ∧ y = .ref b ∧ SqL K H a xs ∧ H b = some (.lst []) ∧ Q (.bl (!xs.isEmpty)) H
theorem op_eqNil (hu : X.A.units < cLine) : OpR X (compareOp .Eq) (rEqNil X.K) := by
  intro pins s σ H x y v u Q I rx ry h
  obtain ⟨a, b, xs, rfl, rfl, h1, h2, q⟩ := h
  cases rx; cases ry
  show wpAny _ _ (richCompare .Eq (.ref a) (.ref b)) _ _ _
  exact rc_nil I h1 h2 hu ⟨.bl _, H, I, rfl, q⟩
theorem op_neNil (hu : X.A.units < cLine) : OpR X (compareOp .NotEq) (rNeNil X.K) := by
  intro pins s σ H x y v u Q I rx ry h
  obtain ⟨a, b, xs, rfl, rfl, h1, h2, q⟩ := h
  cases rx; cases ry
  show wpAny _ _ (richCompare .NotEq (.ref a) (.ref b)) _ _ _
  exact rcne_nil I h1 h2 hu ⟨.bl _, H, I, rfl, q⟩

/-! ### ==, != -/
/-- scalars by their constructors; objects: a list beside the empty one, or data -/
def rEqG (K : PySem.W.Frag) (f : Bool → Bool) : R2 := fun x y H Q => match x, y with
  | .ref a, .ref b => (∃ xs, SqL K H a xs ∧ H b = some (.lst []) ∧ Q (.bl (f xs.isEmpty)) H) ∨ (∃ d e, Dp K H (.ref a) d ∧ Dp K H (.ref b) e ∧ SeqAt.shaped d = true ∧ SeqAt.shaped e = true ∧ Q (.bl (f (PyData.eqv d e))) H)
  | .int i, .int j => Q (.bl (f (decide (i = j)))) H
  | .str i, .str j => Q (.bl (f (decide (i = j)))) H
  | .bl i, .bl j => Q (.bl (f (decide (i = j)))) H
  | .non, .non => Q (.bl (f true)) H
  | .non, .int _ => Q (.bl (f false)) H
  | .int _, .non => Q (.bl (f false)) H
  | .non, .str _ => Q (.bl (f false)) H
  | .str _, .non => Q (.bl (f false)) H
  | .int _, .str _ => Q (.bl (f false)) H
  | .str _, .int _ => Q (.bl (f false)) H
  | x, y => ∃ d e, Dp K H x d ∧ Dp K H y e ∧ SeqAt.shaped d = true ∧ SeqAt.shaped e = true ∧ Q (.bl (f (PyData.eqv d e))) H
theorem op_eqG (hu : X.A.units + 64 < cLine) : OpR X (compareOp .Eq) (rEqG X.K fun b => b) := fun pins s σ H x y u v Q I rx ry h => by
  have hu' : X.A.units < cLine := by omega
  unfold rEqG at h
  split at h
  · rcases h with h | h
    · obtain ⟨xs, h1, h2, q⟩ := h
      exact op_eqNil hu' pins s σ H _ _ u v Q I rx ry ⟨_, _, _, rfl, rfl, h1, h2, q⟩
    · exact op_eqD hu pins s σ H _ _ u v Q I rx ry h
  · exact op_eq pins s σ H _ _ u v Q I rx ry ⟨rfl, by rw [show decide (V.int _ = V.int _) = decide (_ = _) from decide_eq_decide.mpr ⟨V.int.inj, congrArg V.int⟩]; exact h⟩
  · exact op_eq pins s σ H _ _ u v Q I rx ry ⟨rfl, by rw [show decide (V.str _ = V.str _) = decide (_ = _) from decide_eq_decide.mpr ⟨V.str.inj, congrArg V.str⟩]; exact h⟩
  · exact op_eq pins s σ H _ _ u v Q I rx ry ⟨rfl, by rw [show decide (V.bl _ = V.bl _) = decide (_ = _) from decide_eq_decide.mpr ⟨V.bl.inj, congrArg V.bl⟩]; exact h⟩
  all_goals first
    | exact op_eq pins s σ H _ _ u v Q I rx ry ⟨rfl, h⟩
    | exact op_eqD hu pins s σ H _ _ u v Q I rx ry h
theorem op_neG (hu : X.A.units + 64 < cLine) : OpR X (compareOp .NotEq) (rEqG X.K fun b => !b) := fun pins s σ H x y u v Q I rx ry h => by
  have hu' : X.A.units < cLine := by omega
  unfold rEqG at h
  split at h
  · rcases h with h | h
    · obtain ⟨xs, h1, h2, q⟩ := h
      exact op_neNil hu' pins s σ H _ _ u v Q I rx ry ⟨_, _, _, rfl, rfl, h1, h2, q⟩
    · exact op_neD hu pins s σ H _ _ u v Q I rx ry h
  · exact op_ne pins s σ H _ _ u v Q I rx ry ⟨rfl, by rw [show decide (V.int _ = V.int _) = decide (_ = _) from decide_eq_decide.mpr ⟨V.int.inj, congrArg V.int⟩]; exact h⟩
  · exact op_ne pins s σ H _ _ u v Q I rx ry ⟨rfl, by rw [show decide (V.str _ = V.str _) = decide (_ = _) from decide_eq_decide.mpr ⟨V.str.inj, congrArg V.str⟩]; exact h⟩
  · exact op_ne pins s σ H _ _ u v Q I rx ry ⟨rfl, by rw [show decide (V.bl _ = V.bl _) = decide (_ = _) from decide_eq_decide.mpr ⟨V.bl.inj, congrArg V.bl⟩]; exact h⟩
  all_goals first
    | exact op_ne pins s σ H _ _ u v Q I rx ry ⟨rfl, h⟩
    | exact op_neD hu pins s σ H _ _ u v Q I rx ry h
end
end GG
namespace GG
open PySem PySem.Spec L2
section
variable {X : Cx}
/-! ### closing a reading under weaker continuations -/
def mcE (t : TE) : TE := fun σ H K => ∃ Q : VK, (∀ v H1, Q v H1 → K v H1) ∧ t σ H Q
def mcT (t : TT) : TT := fun σ H K => ∃ Q : Bool → Hp → Prop, (∀ v H1, Q v H1 → K v H1) ∧ t σ H Q
def mcA (t : TA) : TA := fun σ H K => ∃ Q : List V → Hp → Prop, (∀ v H1, Q v H1 → K v H1) ∧ t σ H Q
theorem PEm {e : Expr} {t : TE} (h : PE X e t) : PE X e (mcE t) := ⟨fun pins s σ H K I ⟨Q, i, q⟩ => thn (h.run pins s σ H Q I q) fun u s' ⟨v, H', I', r, q'⟩ => ⟨v, H', I', r, i v H' q'⟩⟩
theorem PTm {e : Expr} {t : TT} (h : PT X e t) : PT X e (mcT t) := ⟨fun pins s σ H K I ⟨Q, i, q⟩ => thn (h.run pins s σ H Q I q) fun b s' ⟨H', I', q'⟩ => ⟨H', I', i b H' q'⟩⟩
theorem PWm {e : Expr} {t : TT} (h : PW X e t) : PW X e (mcT t) := ⟨fun wh pins s σ H K I ⟨Q, i, q⟩ => thn (h.run wh pins s σ H Q I q) fun b s' ⟨H', I', q'⟩ => ⟨H', I', i b H' q'⟩⟩
theorem PAm {es : List Expr} {t : TA} (h : PA X es t) : PA X es (mcA t) := ⟨fun pos pins s σ H K I ⟨Q, i, q⟩ => thn (h.run pos pins s σ H Q I q) fun us s' ⟨v, H', I', r, q'⟩ => ⟨v, H', I', r, i v H' q'⟩⟩

/-! ### displays -/
def gLst (t : TA) : TE := fun σ H Q => t σ H fun xs H1 => xs.length ≤ sizeLine ∧ ∀ p H2, H1 p = none → Same H1 H2 → H2 p = some (.lst xs) → Q (.ref p) H2
theorem g_lst {es : List Expr} {t : TA} {pos : Pos} (h : PA X es t) : PE X (.List es pos) (gLst t) :=
  PEi (pe_lst (PAm h)) fun σ H Q q => ⟨_, fun xs H1 r => ⟨r.1, fun p hp => r.2 p _ hp (Sm.new hp) upd_same⟩, q⟩
def gTupD (t : TA) : TE := fun σ H Q => t σ H fun xs H1 => xs.length ≤ sizeLine ∧ ∀ p H2, H1 p = none → Same H1 H2 → H2 p = some (.tup xs) → Q (.ref p) H2
theorem g_tup {es : List Expr} {t : TA} {k : Nat} {pos : Pos} (h : PA X es t) : PE X (.Tuple es k pos) (gTupD t) :=
  PEi (pe_tup (PAm h)) fun σ H Q q => ⟨_, fun xs H1 r => ⟨r.1, fun p hp => r.2 p _ hp (Sm.new hp) upd_same⟩, q⟩

/-! ### tests -/
def gB (t : TE) : TT := fun σ H Q => t σ H fun x H1 => match x with
  | .bl k => Q k H1
  | _ => False
theorem g_val {e : Expr} {te : TE} (h : PE X e te) (he : ∀ whole, isTrue e X.env whole = (do let v ← whole; standAt e.pos; holding [v] (truthy v)) := by intro _; rfl) : PT X e (gB te) :=
  PTi (pt_val (PEm h) he) fun σ H Q q => ⟨_, fun x H1 r => by
    split at r
    · exact ⟨_, rfl, r⟩
    · exact r.elim, q⟩
theorem g_cmp {a b : Expr} {op : CmpOp} {r : R2} {ta tb : TE} {pos : Pos} (ho : OpR X (compareOp op) r) (ha : PE X a ta) (hb : PE X b tb) (hm : behindInMarks op b = false) : PT X (.Compare a [op] [b] pos) (gB (tOp r ta tb)) :=
  PTi (pt_cmpR (r := fun x y H Q => ∃ Q', (∀ v H1, Q' v H1 → Q v H1) ∧ r x y H Q') (fun pins s σ H x y u v K I rx ry ⟨Q, i, q⟩ => thn (ho pins s σ H x y u v Q I rx ry q) fun u s' ⟨v, H', I', r, q'⟩ => ⟨v, H', I', r, i v H' q'⟩) (PEm ha) (PEm hb) hm) fun σ H Q q =>
    ⟨_, fun x H1 r1 => ⟨_, fun y H2 r2 => ⟨_, fun z H3 r3 => by
      split at r3
      · exact ⟨_, rfl, r3⟩
      · exact r3.elim, r2⟩, r1⟩, q⟩
theorem g_cmpV {a b : Expr} {op : CmpOp} {r : R2} {ta tb : TE} {pos : Pos} (ho : OpR X (compareOp op) r) (ha : PE X a ta) (hb : PE X b tb) (hm : behindInMarks op b = false) : PE X (.Compare a [op] [b] pos) (tOp r ta tb) := pe_cmpR ho ha hb hm
def gAnd (t u : TT) : TT := fun σ H Q => t σ H fun c H1 => way c (u σ H1 Q) (Q false H1)
def gOr (t u : TT) : TT := fun σ H Q => t σ H fun c H1 => way c (Q true H1) (u σ H1 Q)
theorem g_and {a b : Expr} {rest : List Expr} {pos : Pos} {t u : TT} (ha : PT X a t) (hb : PW X (.BoolOp .And (b :: rest) pos) u) : PW X (.BoolOp .And (a :: b :: rest) pos) (gAnd t u) :=
  PWi (pw_and (PTm ha) hb) fun σ H Q q => ⟨_, fun c H1 r => by rw [way_eq] at r; exact r, q⟩
theorem g_or {a b : Expr} {rest : List Expr} {pos : Pos} {t u : TT} (ha : PT X a t) (hb : PW X (.BoolOp .Or (b :: rest) pos) u) : PW X (.BoolOp .Or (a :: b :: rest) pos) (gOr t u) :=
  PWi (pw_or (PTm ha) hb) fun σ H Q q => ⟨_, fun c H1 r => by rw [way_eq] at r; exact r, q⟩
/-! ### and, or, not as values -/
def gAndV (ta tb : TE) : TE := fun σ H Q => ta σ H fun x H1 => match x with
  | .bl c => way c (tb σ H1 Q) (Q (.bl false) H1)
  | _ => False
def gOrV (ta tb : TE) : TE := fun σ H Q => ta σ H fun x H1 => match x with
  | .bl c => way c (Q (.bl true) H1) (tb σ H1 Q)
  | _ => False
def gNotV (ta : TE) : TE := fun σ H Q => ta σ H fun x H1 => match x with
  | .bl c => Q (.bl (!c)) H1
  | _ => False
theorem g_andV {a b : Expr} {rest : List Expr} {pos : Pos} {ta tb : TE} (ha : PE X a ta) (hb : PE X (.BoolOp .And (b :: rest) pos) tb) : PE X (.BoolOp .And (a :: b :: rest) pos) (gAndV ta tb) :=
  PEi (pe_and (PEm ha) hb) fun σ H Q q => ⟨_, fun x H1 r => by
    split at r
    · rw [way_eq] at r; exact ⟨_, rfl, r⟩
    · exact r.elim, q⟩
theorem g_orV {a b : Expr} {rest : List Expr} {pos : Pos} {ta tb : TE} (ha : PE X a ta) (hb : PE X (.BoolOp .Or (b :: rest) pos) tb) : PE X (.BoolOp .Or (a :: b :: rest) pos) (gOrV ta tb) :=
  PEi (pe_or (PEm ha) hb) fun σ H Q q => ⟨_, fun x H1 r => by
    split at r
    · rw [way_eq] at r; exact ⟨_, rfl, r⟩
    · exact r.elim, q⟩
theorem g_notV {a : Expr} {pos : Pos} {ta : TE} (ha : PE X a ta) : PE X (.UnaryOp .Not a pos) (gNotV ta) :=
  PEi (pe_not (PEm ha)) fun σ H Q q => ⟨_, fun x H1 r => by
    split at r
    · exact ⟨_, rfl, r⟩
    · exact r.elim, q⟩
def gIfE (t : TT) (ta tb : TE) : TE := fun σ H Q => t σ H fun c H1 => way c (ta σ H1 Q) (tb σ H1 Q)
theorem g_ifE {c a b : Expr} {pos : Pos} {t : TT} {ta tb : TE} (hc : PT X c t) (ha : PE X a ta) (hb : PE X b tb) : PE X (.IfExp c a b pos) (gIfE t ta tb) :=
  PEi (pe_ifExp (PTm hc) ha hb) fun σ H Q q => ⟨_, fun c H1 r => by rw [way_eq] at r; exact r, q⟩
def gIf (t : TT) (u v : TS) : TS := fun D σ H => t σ H fun c H1 => way c (u D σ H1) (v D σ H1)
theorem g_if {c : Expr} {a b : List Stmt} {pos : Pos} {t : TT} {u v : TS} (hc : PT X c t) (ha : PSs X a u) (hb : PSs X b v) : PS X (.If c a b pos) (gIf t u v) :=
  PSi (ps_if (PTm hc) ha hb) fun D σ H q => ⟨_, fun c H1 r => by rw [way_eq] at r; exact r, q⟩
/-! ### a chain of two comparisons -/
def gChain (r r' : R2) (ta tb tc : TE) : TE := fun σ H Q => ta σ H fun x H1 => tb σ H1 fun y H2 => r x y H2 fun z H3 => match z with
  | .bl k => way k (tc σ H3 fun w' H4 => r' y w' H4 Q) (Q (.bl false) H3)
  | _ => False
theorem opm {f : Value → Value → Sem Value} {r : R2} (ho : OpR X f r) : OpR X f (fun x y H Q => ∃ Q', (∀ v H1, Q' v H1 → Q v H1) ∧ r x y H Q') := fun pins s σ H x y u v K I rx ry ⟨Q, i, q⟩ =>
  thn (ho pins s σ H x y u v Q I rx ry q) fun u s' ⟨v, H', I', r, q'⟩ => ⟨v, H', I', r, i v H' q'⟩
theorem g_chain {a b c : Expr} {op op' : CmpOp} {r r' : R2} {ta tb tc : TE} {pos : Pos} (ho : OpR X (compareOp op) r) (ho' : OpR X (compareOp op') r') (ha : PE X a ta) (hb : PE X b tb) (hc : PE X c tc)
    (hm : lastMarks [op, op'] [b, c] = false := by with_unfolding_all rfl) : PE X (.Compare a [op, op'] [b, c] pos) (gChain r r' ta tb tc) :=
  PEi (pe_chain (opm ho) ho' (PEm ha) (PEm hb) hc hm) fun σ H Q q => ⟨_, fun x H1 r1 => ⟨_, fun y H2 r2 => ⟨_, fun z H3 r3 => by
    split at r3
    · rw [way_eq] at r3; exact ⟨_, rfl, r3⟩
    · exact r3.elim, r2⟩, r1⟩, q⟩
theorem g_chainT {a b c : Expr} {op op' : CmpOp} {r r' : R2} {ta tb tc : TE} {pos : Pos} (ho : OpR X (compareOp op) r) (ho' : OpR X (compareOp op') r') (ha : PE X a ta) (hb : PE X b tb) (hc : PE X c tc)
    (hm : lastMarks [op, op'] [b, c] = false := by with_unfolding_all rfl) : PT X (.Compare a [op, op'] [b, c] pos) (gB (gChain r r' ta tb tc)) :=
  PTi (pt_chain (opm ho) (opm ho') (PEm ha) (PEm hb) (PEm hc) hm) fun σ H Q q => ⟨_, fun x H1 r1 => ⟨_, fun y H2 r2 => ⟨_, fun z H3 r3 => by
    split at r3
    · rw [way_eq] at r3
      refine ⟨_, rfl, ?_⟩
      split at r3
      · rename_i hk
        rw [if_pos hk]
        exact ⟨_, fun w' H4 r4 => ⟨_, fun z' H5 r5 => by
          split at r5
          · exact ⟨_, rfl, r5⟩
          · exact r5.elim, r4⟩, r3⟩
      · rename_i hk
        rw [if_neg hk]
        exact ⟨_, rfl, r3⟩
    · exact r3.elim, r2⟩, r1⟩, q⟩

/-! ### places -/
def rIxG (K : PySem.W.Frag) : R2 := fun x y H Q => match x, y with
  | .ref p, .int i => ∃ xs v, (SqL K H p xs ∨ SqT K H p xs) ∧ atI xs i = some v ∧ Q v H
  | .str z, .int i => ∃ c, z.length ≤ sizeLine ∧ atI z.cps.toList i = some c ∧ Q (.str ⟨#[c]⟩) H
  | _, _ => False
theorem ix_G : IxR X (rIxG X.K) := by
  intro value slice pins s σ H x y v u Q I rx ry h hs
  unfold rIxG at h
  split at h
  · obtain ⟨xs, v', h1, h2, h3⟩ := h
    refine ix_seq value slice pins s σ H _ _ v u Q I rx ry ?_ hs
    rcases h1 with h1 | h1
    · exact .inl ⟨_, _, _, _, rfl, rfl, h1, h2, h3⟩
    · exact .inr (.inl ⟨_, _, _, _, rfl, rfl, h1, h2, h3⟩)
  · obtain ⟨c, h1, h2, h3⟩ := h
    exact ix_seq value slice pins s σ H _ _ v u Q I rx ry (.inr (.inr ⟨_, _, _, rfl, rfl, h1, h2, h3⟩)) hs
  · exact h.elim
def rSlG (K : PySem.W.Frag) : V → Option Int → Option Int → Hp → VK → Prop := fun x lo hi H Q => match x with
  | .ref a => ∃ xs, SqL K H a xs ∧ ∀ p H', H p = none → Same H H' → H' p = some (.lst (cutV xs lo hi)) → Q (.ref p) H'
  | .str z => z.length ≤ sizeLine ∧ Q (.str (cutS z lo hi)) H
  | _ => False
theorem sl_G : SlR X (rSlG X.K) := by
  intro pins s σ H x v vl vu lo hi sl Q I rx hs pl pu h
  unfold rSlG at h
  split at h
  · obtain ⟨xs, h1, h2⟩ := h
    exact sl_list pins s σ H _ v vl vu lo hi sl Q I rx hs pl pu ⟨_, _, rfl, h1, fun p hp => h2 p _ hp (Sm.new hp) upd_same⟩
  · exact sl_str pins s σ H _ v vl vu lo hi sl Q I rx hs pl pu ⟨_, rfl, h.1, h.2⟩
  · exact h.elim

/-! ### attributes -/
def gFld (K : PySem.W.Frag) (ta : TE) (f : Str) : TE := fun σ H Q => ta σ H fun x H1 => match x with
  | .ref a => ∃ C dx fs v, H1 a = some (.ins C dx fs) ∧ Cls K C ∧ NoAttr K C f ∧ fs.lookup f = some v ∧ Q v H1
  | _ => False
theorem g_fld {e : Expr} {f : Str} {ta : TE} {pos : Pos} (he : PE X e ta) (hb : attributeBase e f X.env (eval e X.env) = eval e X.env) : PE X (.Attribute e f pos) (gFld X.K ta f) :=
  PEi (pe_fld (PEm he) hb) fun σ H Q q => ⟨_, fun x H1 r => by
    split at r
    · obtain ⟨C, dx, fs, v, r⟩ := r
      exact ⟨_, C, dx, fs, v, rfl, r⟩
    · exact r.elim, q⟩
end
end GG
namespace GG
open PySem PySem.Spec L2
section
variable {X : Cx}
/-! ### built-in functions -/
def rLenG (K : PySem.W.Frag) : List V → Hp → VK → Prop := fun vs H Q => match vs with
  | [.str z] => z.length ≤ sizeLine ∧ Q (.int z.length) H
  | [.ref p] => ∃ xs, (SqL K H p xs ∨ SqT K H p xs) ∧ Q (.int xs.length) H
  | _ => False
theorem c_len : CallR X (.builtin "len") (rLenG X.K) := fun pins s σ H xs us Q I r h => by
  unfold rLenG at h
  split at h
  · exact call_len pins s σ H _ us Q I r ⟨_, _, rfl, ⟨h.1, rfl⟩, h.2⟩
  · obtain ⟨ys, h1, h2⟩ := h
    refine call_len pins s σ H _ us Q I r ⟨_, _, rfl, ?_, h2⟩
    rcases h1 with h1 | h1
    · exact .inl ⟨_, h1, rfl⟩
    · exact .inr ⟨_, h1, rfl⟩
  · exact h.elim
def rSumG (K : PySem.W.Frag) : List V → Hp → VK → Prop := fun vs H Q => match vs with
  | [.ref p] => ∃ ns : List Int, SqL K H p (ns.map V.int) ∧ Q (.int ns.sum) H
  | _ => False
theorem c_sum (hc : X.calm = true) : CallR X (.builtin "sum") (rSumG X.K) := CallRi (cr_sum hc) fun xs H Q h => by
  unfold rSumG at h
  split at h
  · obtain ⟨ns, h1, h2⟩ := h
    exact ⟨_, ns, rfl, h1, h2⟩
  · exact h.elim
def rMinG (K : PySem.W.Frag) : List V → Hp → VK → Prop := fun vs H Q => match vs with
  | [.ref p] => ∃ ns : List Int, SqL K H p (ns.map V.int) ∧ 0 < ns.length ∧ ∀ m, m ∈ ns → (∀ y, y ∈ ns → m ≤ y) → Q (.int m) H
  | _ => False
theorem c_min (hc : X.calm = true) : CallR X (.builtin "min") (rMinG X.K) := CallRi (cr_min hc) fun xs H Q h => by
  unfold rMinG at h
  split at h
  · obtain ⟨ns, h1, h2⟩ := h
    exact ⟨_, ns, rfl, h1, h2⟩
  · exact h.elim
def rMaxG (K : PySem.W.Frag) : List V → Hp → VK → Prop := fun vs H Q => match vs with
  | [.ref p] => ∃ ns : List Int, SqL K H p (ns.map V.int) ∧ 0 < ns.length ∧ ∀ m, m ∈ ns → (∀ y, y ∈ ns → y ≤ m) → Q (.int m) H
  | _ => False
theorem c_max (hc : X.calm = true) : CallR X (.builtin "max") (rMaxG X.K) := CallRi (cr_max hc) fun xs H Q h => by
  unfold rMaxG at h
  split at h
  · obtain ⟨ns, h1, h2⟩ := h
    exact ⟨_, ns, rfl, h1, h2⟩
  · exact h.elim
def rSortG (K : PySem.W.Frag) : List V → Hp → VK → Prop := fun vs H Q => match vs with
  | [.ref a] => ∃ ns : List Int, SqL K H a (ns.map V.int) ∧ ∀ (ns' : List Int) (p : Addr) (H' : Hp), ns'.Perm ns → ns'.Pairwise (· ≤ ·) → H p = none → Same H H' → H' p = some (.lst (ns'.map V.int)) → Q (.ref p) H'
  | _ => False
theorem c_sorted : CallR X (.builtin "sorted") (rSortG X.K) := CallRi cr_sortedI fun xs H Q h => by
  unfold rSortG at h
  split at h
  · obtain ⟨ns, h1, h2⟩ := h
    exact ⟨_, ns, rfl, h1, fun ns' p a b c => h2 ns' p _ a b c (Sm.new c) upd_same⟩
  · exact h.elim
def rIntG : List V → Hp → VK → Prop := fun vs H Q => match vs with
  | [.int i] => Q (.int i) H
  | [.bl k] => Q (.int (if k = true then 1 else 0)) H
  | _ => False
theorem c_int : CallR X (.type "int") rIntG := CallRi call_int1 fun xs H Q h => by
  unfold rIntG at h
  split at h
  · exact .inl ⟨_, rfl, h⟩
  · exact .inr ⟨_, rfl, h⟩
  · exact h.elim
def rListG (K : PySem.W.Frag) : List V → Hp → VK → Prop := fun vs H Q => match vs with
  | [.ref a] => ∃ xs, (SqL K H a xs ∨ SqT K H a xs) ∧ ∀ (p : Addr) (H' : Hp), H p = none → Same H H' → H' p = some (.lst xs) → Q (.ref p) H'
  | _ => False
theorem c_list : CallR X (.type "list") (rListG X.K) := CallRi call_list_of fun xs H Q h => by
  unfold rListG at h
  split at h
  · obtain ⟨ys, h1, h2⟩ := h
    exact ⟨_, ys, rfl, h1, fun p c => h2 p _ c (Sm.new c) upd_same⟩
  · exact h.elim
def rTupleG (K : PySem.W.Frag) : List V → Hp → VK → Prop := fun vs H Q => match vs with
  | [.ref a] => ∃ xs, SqL K H a xs ∧ ∀ (p : Addr) (H' : Hp), H p = none → Same H H' → H' p = some (.tup xs) → Q (.ref p) H'
  | _ => False
theorem c_tuple : CallR X (.type "tuple") (rTupleG X.K) := CallRi call_tuple_of fun xs H Q h => by
  unfold rTupleG at h
  split at h
  · obtain ⟨ys, h1, h2⟩ := h
    exact ⟨_, ys, rfl, .inl ⟨h1, fun p c => h2 p _ c (Sm.new c) upd_same⟩⟩
  · exact h.elim
/-! ### isinstance -/
/-- isinstance(x, c) answers b -/
def IsT (K : PySem.W.Frag) (H : Hp) (x c : V) (b : Bool) : Prop := ∃ t u, ClsV c u ∧ TyX K H x t ∧ PySem.W.kitOne K t u = some b
def rIsG (K : PySem.W.Frag) : List V → Hp → VK → Prop := fun vs H Q => match vs with
  | [x, c] => ∃ b, IsT K H x c b ∧ Q (.bl b) H
  | _ => False
theorem c_isi : CallR X (.builtin "isinstance") (rIsG X.K) := CallRi call_isi fun xs H Q h => by
  unfold rIsG at h
  split at h
  · obtain ⟨b, ⟨t, u, h1, h2, h3⟩, q⟩ := h
    exact ⟨_, _, t, u, b, rfl, h1, h2, h3, q⟩
  · exact h.elim
section
variable {K : PySem.W.Frag} {H : Hp}
theorem is_ii {i : Int} : IsT K H (.int i) (.ty "int") true := ⟨_, _, .ty _, .base (.int i), kit_ty (by decide +kernel)⟩
theorem is_ib {i : Int} : IsT K H (.int i) (.ty "bool") false := ⟨_, _, .ty _, .base (.int i), kit_ty (by decide +kernel)⟩
theorem is_is {i : Int} : IsT K H (.int i) (.ty "str") false := ⟨_, _, .ty _, .base (.int i), kit_ty (by decide +kernel)⟩
theorem is_ss {z : Str} : IsT K H (.str z) (.ty "str") true := ⟨_, _, .ty _, .base (.str z), kit_ty (by decide +kernel)⟩
theorem is_ll {a : Addr} {xs : List V} (e : H a = some (.lst xs)) : IsT K H (.ref a) (.ty "list") true := ⟨_, _, .ty _, .base (.lst e), kit_ty (by decide +kernel)⟩
theorem is_tt {a : Addr} {xs : List V} (e : H a = some (.tup xs)) : IsT K H (.ref a) (.ty "tuple") true := ⟨_, _, .ty _, .base (.tup e), kit_ty (by decide +kernel)⟩
theorem is_ts {a : Addr} {xs : List V} (e : H a = some (.tup xs)) : IsT K H (.ref a) (.ty "str") false := ⟨_, _, .ty _, .base (.tup e), kit_ty (by decide +kernel)⟩
theorem is_ls {a : Addr} {xs : List V} (e : H a = some (.lst xs)) : IsT K H (.ref a) (.ty "str") false := ⟨_, _, .ty _, .base (.lst e), kit_ty (by decide +kernel)⟩
end
/-! ### methods of lists, stores -/
def rAppG : V → List V → Hp → VK → Prop := fun x vs H Q => match x, vs with
  | .ref l, [y] => ∃ xs, H l = some (.lst xs) ∧ xs.length < sizeLine ∧ ∀ H', SameX l H H' → H' l = some (.lst (xs ++ [y])) → Q .non H'
  | _, _ => False
theorem m_append : MtR X "list.append" rAppG := fun pins s σ H x xs v us Q I rx r h => by
  unfold rAppG at h
  split at h
  · obtain ⟨ys, h1, h2, h3⟩ := h
    exact mt_append pins s σ H _ _ v us Q I rx r ⟨_, _, _, rfl, rfl, h1, h2, h3 _ SameX.upd upd_same⟩
  · exact h.elim
def rSetG : V → V → V → Hp → (Hp → Prop) → Prop := fun o i v H Q => match o, i with
  | .ref p, .int k => ∃ xs j, H p = some (.lst xs) ∧ ixN xs.length k = some j ∧ ∀ H', SameX p H H' → H' p = some (.lst (xs.set j v)) → Q H'
  | _, _ => False
theorem s_set : PSet X rSetG := fun pins s σ H o i v ov iv u Q I ro ri rv h => by
  unfold rSetG at h
  split at h
  · obtain ⟨xs, j, h1, h2, h3⟩ := h
    exact set_list pins s σ H _ _ v ov iv u Q I ro ri rv ⟨_, xs, _, j, rfl, rfl, h1, h2, h3 _ SameX.upd upd_same⟩
  · exact h.elim
/-- self.f = e on an instance -/
def gFldS (K : PySem.W.Frag) (ta tv : TE) (f : Str) : TS := fun D σ H => tv σ H fun y H1 => ta σ H1 fun x H2 => match x with
  | .ref a => ∃ C dx fs, H2 a = some (.ins C dx fs) ∧ Cls K C ∧ NoAttr K C f ∧ fs.length < 1000 ∧ ∀ H', SameX a H2 H' → H' a = some (.ins C dx (putF f y fs)) → D.nx σ H'
  | _ => False
theorem g_fldS {o value : Expr} {f : Str} {ta tv : TE} {pos pos' : Pos} (ha : PE X o ta) (hv : PE X value tv) (hs : swapsWith value (some (.Attribute o f pos')) pos.line X.env = pure false) : PS X (.Assign [.Attribute o f pos'] value pos) (gFldS X.K ta tv f) :=
  PSi (ps_fld (PEm ha) (PEm hv) hs) fun D σ H q => ⟨_, fun y H1 r1 => ⟨_, fun x H2 r2 => by
    split at r2
    · obtain ⟨C, dx, fs, h1, h2, h3, h4, h5⟩ := r2
      exact ⟨_, C, dx, fs, rfl, h1, h2, h3, h4, h5 _ SameX.upd upd_same⟩
    · exact r2.elim, r1⟩, q⟩
end
end GG
namespace GG
open PySem PySem.Spec L2
/-! ### own defs by name, methods, classes -/
section
variable (P : Program) (w : World) (K : PySem.W.Frag) (mg : Str → Option Value) (base : Heap)
structure FnN (k : Nat) (x : Str) (dvs : List V) (sp : Sp) : Prop where
  ex : ∃ (f : Addr) (fd : FuncData) (ps : List Str) (ds : List Value), FnOk P w K mg base CX0 k f fd ps sp ∧ mg x = some (.ref f) ∧ PySem.W.keepIn K (.ref f) = true ∧ Binds K fd ps ds ∧ Vals dvs ds
structure MtN (k : Nat) (C : Addr) (m : Str) (dvs : List V) (sp : Sp) : Prop where
  ex : ∃ (f : Addr) (fd : FuncData) (ps : List Str) (ds : List Value), Cls K C ∧ Meth K C m f ∧ FnOk P w K mg base CX0 k f fd ps sp ∧ Binds K fd ps ds ∧ Vals dvs ds
structure MkN (k : Nat) (x : Str) (sp : Sp) : Prop where
  ex : ∃ (C f : Addr) (fd : FuncData) (ps : List Str) (ds : List Value) (dvs : List V) (sp0 : Sp), Mk K C f ∧ FnOk P w K mg base CX0 k f fd ps sp0 ∧ mg x = some (.ref C) ∧ Binds K fd ps ds ∧ Vals dvs ds ∧
    ∀ vs H Q, sp vs H Q E0 → ∀ y dy, H y = none → H dy = none → dy ≠ y → sp0 (.ref y :: (vs ++ dvs)) (upd (upd H dy (.own y)) y (.ins C dy [])) (fun v H2 => v = .non ∧ Q (.ref y) H2) E0
structure PrN (k : Nat) (C : Addr) (f : Str) (sp : Sp) : Prop where
  ex : ∃ (p g : Addr) (fd : FuncData) (ps : List Str), Cls K C ∧ PropOf K C f p g ∧ FnOk P w K mg base CX0 k g fd ps sp ∧ Binds K fd ps []
end
section
variable {X : Cx} {k j : Nat} {x m : Str} {p pos apos : Pos} {e o : Expr} {es : List Expr} {t : TA} {ta : TE} {sp sp2 : Sp} {dvs : List V} {C C2 : Addr}
theorem g_call (c : FnN X.prog X.w X.K X.mg X.base k x dvs sp) (hr : Room j X.A) (hg : Gl X x) (hk : k ≤ j) (ha : PA X (e :: es) t)
    (hdb : (x == ("__debug__" : Str)) = false := by decide) (he : starEach (e :: es) X.env = (false, eval e X.env) :: starEach es X.env := by rfl) (hpl : (backTo pos (starEach es X.env)).any (·.1) = false := by rfl) :
    PE X (.Call (.Name x p) (e :: es) [] pos) (tCall sp dvs E0 t) := by
  obtain ⟨f, fd, ps, ds, F, hm, kp, b, d⟩ := c.ex
  exact pe_call F (hr.mono hk) hg hm kp b d pass0 ha hdb he hpl
theorem g_make (c : MkN X.prog X.w X.K X.mg X.base k x sp) (hr : Room j X.A) (hg : Gl X x) (hk : k + 1 ≤ j) (ha : PA X (e :: es) t)
    (hdb : (x == ("__debug__" : Str)) = false := by decide) (he : starEach (e :: es) X.env = (false, eval e X.env) :: starEach es X.env := by rfl) (hpl : (backTo pos (starEach es X.env)).any (·.1) = false := by rfl) :
    PE X (.Call (.Name x p) (e :: es) [] pos) (fun σ H Q => t σ H fun vs H1 => sp vs H1 Q E0) := by
  obtain ⟨C, f, fd, ps, ds, dvs, sp0, M, F, hm, b, d, i⟩ := c.ex
  exact PEi (pe_make M F (hr.mono hk) hg hm b d pass0 (PAm ha) hdb he hpl) fun σ H Q q => ⟨_, fun vs H1 r => i vs H1 Q r, q⟩
def gMeth (C : Addr) (m : Str) (sp : Sp) (dvs : List V) (ta : TE) (t : TA) : TE := fun σ H Q => ta σ H fun x H1 => match x with
  | .ref a => ∃ dx fs, H1 a = some (.ins C dx fs) ∧ fs.lookup m = none ∧ t σ H1 fun vs H2 => sp (.ref a :: (vs ++ dvs)) H2 Q E0
  | _ => False
theorem g_meth {pl : Sem Bool} (c : MtN X.prog X.w X.K X.mg X.base k C m dvs sp) (hr : Room j X.A) (hk : k ≤ j) (he : PE X o ta) (ha : PA X (e :: es) t)
    (hst : starEach (e :: es) X.env = (false, eval e X.env) :: starEach es X.env := by rfl) (hpl : (backTo pos (starEach es X.env)).any (·.1) = false := by rfl)
    (ht : eval (.Call (.Attribute o m apos) (e :: es) [] pos) X.env = (do
      let ov ← eval o X.env
      standAt apos.atName
      let (f, first) ← holding [ov] (getMethod ov m pl)
      callWith pos f first (backTo pos (starEach (e :: es) X.env)) (backToKw pos (keywordEach [] X.env))) := by rfl) :
    PE X (.Call (.Attribute o m apos) (e :: es) [] pos) (gMeth C m sp dvs ta t) := by
  obtain ⟨f, fd, ps, ds, hc, hm, F, b, d⟩ := c.ex
  exact PEi (pe_meth (pl := pl) (PEm he) hc hm F (hr.mono hk) b d pass0 ha hst hpl ht) fun σ H Q q => ⟨_, fun x H1 r => by
    split at r
    · obtain ⟨dx, fs, r⟩ := r
      exact ⟨_, dx, fs, rfl, r⟩
    · exact r.elim, q⟩
theorem g_meth0 {pl : Sem Bool} (c : MtN X.prog X.w X.K X.mg X.base k C m dvs sp) (hr : Room j X.A) (hk : k ≤ j) (he : PE X o ta)
    (ht : eval (.Call (.Attribute o m apos) [] [] pos) X.env = (do
      let ov ← eval o X.env
      standAt apos.atName
      let (f, first) ← holding [ov] (getMethod ov m pl)
      callWith pos f first (backTo pos (starEach [] X.env)) (backToKw pos (keywordEach [] X.env))) := by rfl) :
    PE X (.Call (.Attribute o m apos) [] [] pos) (gMeth C m sp dvs ta tNil) := by
  obtain ⟨f, fd, ps, ds, hc, hm, F, b, d⟩ := c.ex
  exact PEi (pe_meth0 (pl := pl) (PEm he) hc hm F (hr.mono hk) b d pass0 ht) fun σ H Q q => ⟨_, fun x H1 r => by
    split at r
    · obtain ⟨dx, fs, r⟩ := r
      exact ⟨_, dx, fs, rfl, r⟩
    · exact r.elim, q⟩
def gProp (C : Addr) (sp : Sp) (ta : TE) : TE := fun σ H Q => ta σ H fun x H1 => match x with
  | .ref a => ∃ dx fs, H1 a = some (.ins C dx fs) ∧ sp [.ref a] H1 Q E0
  | _ => False
theorem g_prop {f : Str} (c : PrN X.prog X.w X.K X.mg X.base k C f sp) (hr : Room j X.A) (hk : k + 1 ≤ j) (he : PE X e ta)
    (hab : attributeBase e f X.env (eval e X.env) = eval e X.env) : PE X (.Attribute e f pos) (gProp C sp ta) := by
  obtain ⟨p, g, fd, ps, hc, hp, F, b⟩ := c.ex
  exact PEi (pe_prop (E := E0) (PEm he) hc hp F (hr.mono hk) b .nil pass0 hab) fun σ H Q q => ⟨_, fun x H1 r => by
    split at r
    · obtain ⟨dx, fs, r⟩ := r
      exact ⟨_, dx, fs, rfl, r⟩
    · exact r.elim, q⟩
end

/-! ### comprehensions: one clause, the target a name -/
section
/-- what is asked of a comprehension over the walk J from the heap H1 on -/
@[irreducible] def Comp (J : It) (j : Nat) (tt : TT) (te : TE) (vs : List Nat) (σ : L2.St) (Q : VK) (H1 : Hp) : Prop := ∀ D, H1 D = none → ∃ W : Nat → Nat → Hp → Prop, (∃ m, W 0 m (upd H1 D (.lst []))) ∧ ∀ i m H, W i m H →
  (J.stop i H ∧ Q (.ref D) H) ∨ (J.go i H ∧ ∃ Nx : Hp → Prop, (∀ H', Nx H' → ∃ m', m' < m ∧ W (i + 1) m' H') ∧ ∀ x H', J.yld i H x H' → wipe ((wipe σ vs).set j (some x)) vs = wipe σ vs ∧ tt ((wipe σ vs).set j (some x)) H' fun b H3 =>
    if b = true then te ((wipe σ vs).set j (some x)) H3 fun y H4 => ∃ acc, H4 D = some (.lst acc) ∧ acc.length < sizeLine ∧ Nx (upd H4 D (.lst (acc ++ [y]))) else Nx H3)
variable {J : It} {n : Nat} {Gd : Hp → Prop} {Y : Nat → V → Prop} {j : Nat} {tt : TT} {te : TE} {vs : List Nat} {σ : L2.St} {Q : VK} {H1 : Hp}
/-- F: what holds behind i items of the list acc that was made so far, of the heap without the list that is being made -/
theorem comp_by (w : Walk J n Gd (fun i H x H' => H' = H ∧ Y i x)) (F : Nat → List V → Hp → Prop) (hn : n < sizeLine) (h0 : F 0 [] H1) (hG : ∀ i acc H G, i ≤ n → F i acc G → Same G H → Gd H)
    (hs : ∀ D i x acc H', i < n → Y i x → H1 D = none → H' D = some (.lst acc) → acc.length ≤ i → F i acc (off D H') → wipe ((wipe σ vs).set j (some x)) vs = wipe σ vs ∧
      tt ((wipe σ vs).set j (some x)) H' fun b H3 => way b (te ((wipe σ vs).set j (some x)) H3 fun y H4 => H4 D = some (.lst acc) ∧ F (i + 1) (acc ++ [y]) (off D H4)) (H3 D = some (.lst acc) ∧ F (i + 1) acc (off D H3)))
    (hd : ∀ D H' acc, H1 D = none → H' D = some (.lst acc) → acc.length ≤ n → F n acc (off D H') → Q (.ref D) H')
    (mt : ∀ σ H (Q Q' : Bool → Hp → Prop), (∀ b H1, Q b H1 → Q' b H1) → tt σ H Q → tt σ H Q') (me : ∀ σ H (Q Q' : VK), (∀ v H1, Q v H1 → Q' v H1) → te σ H Q → te σ H Q') : Comp J j tt te vs σ Q H1 := by
  unfold Comp
  intro D hD
  refine lc_it (g := gName j) w (fun i H => ∃ acc, H D = some (.lst acc) ∧ acc.length ≤ i ∧ F i acc (off D H)) ⟨[], upd_same, Nat.le_refl _, by rw [off_upd, off_free hD]; exact h0⟩ (fun i H hi ⟨acc, _, _, f⟩ => hG i acc H _ hi f off_same) ?_
    (fun H ⟨acc, e, l, f⟩ => hd D H acc hD e l f)
  rintro i x H H' hi ⟨acc, e, l, f⟩ ⟨rfl, hy⟩
  obtain ⟨z, r⟩ := hs D i x acc H' hi hy hD e l f
  refine ⟨z, mt _ _ _ _ (fun b H3 q => ?_) r⟩
  rw [way_eq] at q
  split at q
  · rename_i hb
    rw [if_pos hb]
    exact me _ _ _ _ (fun y H4 ⟨e4, f4⟩ => ⟨acc, e4, by omega, acc ++ [y], upd_same, by rw [List.length_append]; simp; omega, by rw [off_upd]; exact f4⟩) q
  · rename_i hb
    rw [if_neg hb]
    exact ⟨acc, q.1, by omega, q.2⟩
end
section
variable {X : Cx} {K : PySem.W.Frag} {j : Nat} {tt : TT} {te : TE} {vs : List Nat} {σ : L2.St} {Q : VK} {H1 : Hp} {F : Nat → List V → Hp → Prop}
def gLcL (K : PySem.W.Frag) (tl : TE) (j : Nat) (tt : TT) (te : TE) (vs : List Nat) : TE := fun σ H Q => tl σ H fun x H1 => match x with
  | .ref a => (∃ xs, SqL K H1 a xs) ∧ Comp (Itl K a) j (mcT tt) (mcE te) vs σ Q H1
  | _ => False
def gLcT (K : PySem.W.Frag) (tl : TE) (j : Nat) (tt : TT) (te : TE) (vs : List Nat) : TE := fun σ H Q => tl σ H fun x H1 => match x with
  | .ref a => (∃ xs, SqT K H1 a xs) ∧ Comp (Itt K a) j (mcT tt) (mcE te) vs σ Q H1
  | _ => False
theorem mcT_m : ∀ σ H (Q Q' : Bool → Hp → Prop), (∀ b H1, Q b H1 → Q' b H1) → mcT tt σ H Q → mcT tt σ H Q' := fun σ H Q Q' i ⟨R, h, q⟩ => ⟨R, fun b H1 r => i b H1 (h b H1 r), q⟩
theorem mcE_m : ∀ σ H (Q Q' : VK), (∀ b H1, Q b H1 → Q' b H1) → mcE te σ H Q → mcE te σ H Q' := fun σ H Q Q' i ⟨R, h, q⟩ => ⟨R, fun b H1 r => i b H1 (h b H1 r), q⟩
/-- over a list -/
theorem comp_list {a : Addr} {xs : List V} (F : Nat → List V → Hp → Prop) (hn : xs.length < sizeLine) (h0 : F 0 [] H1) (hG : ∀ i acc G, F i acc G → SqL K G a xs)
    (hs : ∀ D i x acc H', xs[i]? = some x → H1 D = none → H' D = some (.lst acc) → acc.length ≤ i → F i acc (off D H') → wipe ((wipe σ vs).set j (some x)) vs = wipe σ vs ∧
      tt ((wipe σ vs).set j (some x)) H' fun b H3 => way b (te ((wipe σ vs).set j (some x)) H3 fun y H4 => H4 D = some (.lst acc) ∧ F (i + 1) (acc ++ [y]) (off D H4)) (H3 D = some (.lst acc) ∧ F (i + 1) acc (off D H3)))
    (hd : ∀ D H' acc, H1 D = none → H' D = some (.lst acc) → acc.length ≤ xs.length → F xs.length acc (off D H') → Q (.ref D) H') : (∃ ys, SqL K H1 a ys) ∧ Comp (Itl K a) j (mcT tt) (mcE te) vs σ Q H1 :=
  ⟨⟨xs, hG _ _ _ h0⟩, comp_by walk_list F hn h0 (fun i acc H G _ f s => s.seq (hG i acc G f)) (fun D i x acc H' _ hx a b c d => ⟨(hs D i x acc H' hx a b c d).1, _, fun _ _ r => by
    rw [way_eq] at r ⊢
    split at r
    · rename_i hb
      rw [if_pos hb]
      exact ⟨_, fun _ _ z => z, r⟩
    · rename_i hb
      rw [if_neg hb]
      exact r, (hs D i x acc H' hx a b c d).2⟩) hd mcT_m mcE_m⟩
theorem SqT_same {K : PySem.W.Frag} {H H' : Hp} {a : Addr} {xs : List V} (h : SqT K H a xs) (e : Same H H') : SqT K H' a xs :=
  h.elim (fun h => .inl (h.elim (fun h => .inl (e _ _ h)) fun ⟨o, h⟩ => .inr ⟨o, e _ _ h⟩)) fun h => .inr h
/-- over a tuple -/
theorem comp_tup {a : Addr} {xs : List V} (F : Nat → List V → Hp → Prop) (hn : xs.length < sizeLine) (h0 : F 0 [] H1) (hG : ∀ i acc G, F i acc G → SqT K G a xs)
    (hs : ∀ D i x acc H', xs[i]? = some x → H1 D = none → H' D = some (.lst acc) → acc.length ≤ i → F i acc (off D H') → wipe ((wipe σ vs).set j (some x)) vs = wipe σ vs ∧
      tt ((wipe σ vs).set j (some x)) H' fun b H3 => way b (te ((wipe σ vs).set j (some x)) H3 fun y H4 => H4 D = some (.lst acc) ∧ F (i + 1) (acc ++ [y]) (off D H4)) (H3 D = some (.lst acc) ∧ F (i + 1) acc (off D H3)))
    (hd : ∀ D H' acc, H1 D = none → H' D = some (.lst acc) → acc.length ≤ xs.length → F xs.length acc (off D H') → Q (.ref D) H') : (∃ ys, SqT K H1 a ys) ∧ Comp (Itt K a) j (mcT tt) (mcE te) vs σ Q H1 :=
  ⟨⟨xs, hG _ _ _ h0⟩, comp_by walk_tup F hn h0 (fun i acc H G _ f s => SqT_same (hG i acc G f) s) (fun D i x acc H' _ hx a b c d => ⟨(hs D i x acc H' hx a b c d).1, _, fun _ _ r => by
    rw [way_eq] at r ⊢
    split at r
    · rename_i hb
      rw [if_pos hb]
      exact ⟨_, fun _ _ z => z, r⟩
    · rename_i hb
      rw [if_neg hb]
      exact r, (hs D i x acc H' hx a b c d).2⟩) hd mcT_m mcE_m⟩
/-- over range(lo, lo + n) -/
theorem comp_range {lo : Int} {n : Nat} (F : Nat → List V → Hp → Prop) (hn : n < sizeLine) (h0 : F 0 [] H1)
    (hs : ∀ D i acc H', i < n → H1 D = none → H' D = some (.lst acc) → acc.length ≤ i → F i acc (off D H') → wipe ((wipe σ vs).set j (some (.int (lo + i)))) vs = wipe σ vs ∧
      tt ((wipe σ vs).set j (some (.int (lo + i)))) H' fun b H3 => way b (te ((wipe σ vs).set j (some (.int (lo + i)))) H3 fun y H4 => H4 D = some (.lst acc) ∧ F (i + 1) (acc ++ [y]) (off D H4)) (H3 D = some (.lst acc) ∧ F (i + 1) acc (off D H3)))
    (hd : ∀ D H' acc, H1 D = none → H' D = some (.lst acc) → acc.length ≤ n → F n acc (off D H') → Q (.ref D) H') : Comp (Itr lo n) j (mcT tt) (mcE te) vs σ Q H1 :=
  comp_by walk_range F hn h0 (fun _ _ _ _ _ _ _ => trivial) (fun D i x acc H' hi hx a b c d => by
    subst hx
    exact ⟨(hs D i acc H' hi a b c d).1, _, fun _ _ r => by
      rw [way_eq] at r ⊢
      split at r
      · rename_i hb
        rw [if_pos hb]
        exact ⟨_, fun _ _ z => z, r⟩
      · rename_i hb
        rw [if_neg hb]
        exact r, (hs D i acc H' hi a b c d).2⟩) hd mcT_m mcE_m
/-- over a text -/
theorem comp_str {z : Str} (F : Nat → List V → Hp → Prop) (hn : z.length < sizeLine) (h0 : F 0 [] H1)
    (hs : ∀ D i c acc H', z.cps[i]? = some c → H1 D = none → H' D = some (.lst acc) → acc.length ≤ i → F i acc (off D H') → wipe ((wipe σ vs).set j (some (.str ⟨#[c]⟩))) vs = wipe σ vs ∧
      tt ((wipe σ vs).set j (some (.str ⟨#[c]⟩))) H' fun b H3 => way b (te ((wipe σ vs).set j (some (.str ⟨#[c]⟩))) H3 fun y H4 => H4 D = some (.lst acc) ∧ F (i + 1) (acc ++ [y]) (off D H4)) (H3 D = some (.lst acc) ∧ F (i + 1) acc (off D H3)))
    (hd : ∀ D H' acc, H1 D = none → H' D = some (.lst acc) → acc.length ≤ z.length → F z.length acc (off D H') → Q (.ref D) H') : Comp (Its z) j (mcT tt) (mcE te) vs σ Q H1 :=
  comp_by (n := z.cps.size) (Y := fun i v => ∃ c, z.cps[i]? = some c ∧ v = .str ⟨#[c]⟩) walk_str F hn h0 (fun _ _ _ _ _ _ _ => trivial) (fun D i x acc H' hi hx a b c d => by
    obtain ⟨ch, hc, rfl⟩ := hx
    exact ⟨(hs D i ch acc H' hc a b c d).1, _, fun _ _ r => by
      rw [way_eq] at r ⊢
      split at r
      · rename_i hb
        rw [if_pos hb]
        exact ⟨_, fun _ _ z => z, r⟩
      · rename_i hb
        rw [if_neg hb]
        exact r, (hs D i ch acc H' hc a b c d).2⟩) hd mcT_m mcE_m
end
end GG
namespace GG
open PySem PySem.Spec L2
section
variable {X : Cx} {elt tg iter : Expr} {ifs : List Expr} {scope : Scope} {own : List (Str × Nat)} {pos : Pos} {tl te : TE} {ta : TA} {tt : TT} {j : Nat}
theorem PTsm {cs : List Expr} {t : TT} (h : PTs X cs t) : PTs X cs (mcT t) := ⟨fun pins s σ H K I ⟨Q, i, q⟩ => thn (h.run pins s σ H Q I q) fun b s' ⟨H', I', q'⟩ => ⟨H', I', i b H' q'⟩⟩
theorem PIi {tg iter : Expr} {wi wi' : TI} (h : PI X tg iter wi) (i : ∀ σ H R, wi' σ H R → wi σ H R) : PI X tg iter wi' := ⟨fun pins s σ H R I q => h.run pins s σ H R I (i σ H R q)⟩
/-- what a for, a comprehension walks: a list, a tuple, a range, a text -/
def wL (K : PySem.W.Frag) (tl : TE) : TI := fun σ H R => tl σ H fun x H1 => match x with
  | .ref a => (∃ xs, SqL K H1 a xs) ∧ R (Itl K a) H1
  | _ => False
def wT (K : PySem.W.Frag) (tl : TE) : TI := fun σ H R => tl σ H fun x H1 => match x with
  | .ref a => (∃ xs, SqT K H1 a xs) ∧ R (Itt K a) H1
  | _ => False
def wR1 (ta : TA) : TI := fun σ H R => ta σ H fun vs H1 => match vs with
  | [.int j] => (-(2 ^ 62) ≤ j ∧ j < 2 ^ 62) ∧ R (Itr 0 j.toNat) H1
  | _ => False
def wR2 (ta : TA) : TI := fun σ H R => ta σ H fun vs H1 => match vs with
  | [.int i, .int j] => (-(2 ^ 62) ≤ i ∧ i < 2 ^ 62 ∧ -(2 ^ 62) ≤ j ∧ j < 2 ^ 62) ∧ R (Itr i (j - i).toNat) H1
  | _ => False
def wS (te : TE) : TI := fun σ H R => te σ H fun x H1 => match x with
  | .str z => z.length ≤ sizeLine ∧ R (Its z) H1
  | _ => False
def mcI (wi : TI) : TI := fun σ H K => ∃ R : It → Hp → Prop, (∀ J H1, R J H1 → K J H1) ∧ wi σ H R
theorem PIm {wi : TI} (h : PI X tg iter wi) : PI X tg iter (mcI wi) := ⟨fun pins s σ H K I ⟨R, i, q⟩ => thn (h.run pins s σ H R I q) fun v s1 h1 => thn h1 fun itv s2 h2 => by
  obtain ⟨it, fp, tn, J, H2, e, I2, T, st2, f2, r⟩ := h2
  exact ⟨it, fp, tn, J, H2, e, I2, T, st2, f2, i _ _ r⟩⟩
theorem w_list (h : PE X iter tl) : PI X tg iter (wL X.K tl) := PIi (pi_list (PEm h)) fun σ H R q => ⟨_, fun x H1 r => by
  split at r
  · exact ⟨_, rfl, r⟩
  · exact r.elim, q⟩
theorem w_tup (h : PE X iter tl) : PI X tg iter (wT X.K tl) := PIi (pi_tup (PEm h)) fun σ H R q => ⟨_, fun x H1 r => by
  split at r
  · exact ⟨_, rfl, r⟩
  · exact r.elim, q⟩
theorem w_str (h : PE X iter te) : PI X tg iter (wS te) := PIi (pi_str (PEm h)) fun σ H R q => ⟨_, fun x H1 r => by
  split at r
  · exact ⟨_, rfl, r.2⟩
  · exact r.elim, q⟩
theorem w_range1 {a : Expr} {p : Pos} (hg : Gl X "range") (hm : X.mg "range" = none) (ha : PA X [a] ta) (hs : starEach [a] X.env = [(false, eval a X.env)] := by rfl) : PI X tg (.Call (.Name "range" p) [a] [] pos) (wR1 ta) :=
  PIi (pi_range1 hg hm (PAm ha) hs) fun σ H R q => ⟨_, fun vs H1 r => by
    split at r
    · exact ⟨_, rfl, r.1.1, r.1.2, r.2⟩
    · exact r.elim, q⟩
theorem w_range2 {a b : Expr} {p : Pos} (hg : Gl X "range") (hm : X.mg "range" = none) (ha : PA X [a, b] ta) (hs : starEach [a, b] X.env = [(false, eval a X.env), (false, eval b X.env)] := by rfl) (hs2 : starEach [b] X.env = [(false, eval b X.env)] := by rfl) :
    PI X tg (.Call (.Name "range" p) [a, b] [] pos) (wR2 ta) :=
  PIi (pi_range2 hg hm (PAm ha) hs hs2) fun σ H R q => ⟨_, fun vs H1 r => by
    split at r
    · exact ⟨_, _, rfl, r.1, r.2⟩
    · exact r.elim, q⟩
/-- a list made by a comprehension of one clause, the target a name -/
def gLc (wi : TI) (j : Nat) (tt : TT) (te : TE) (vs : List Nat) : TE := fun σ H Q => wi σ H fun J H1 => Comp J j (mcT tt) (mcE te) vs σ Q H1
theorem g_lc {wi : TI} (hc : X.calm = true) (hN : X.N.Nodup) (hi : PI X tg iter wi) (ok : BlkOk X.N X.env.scope scope own)
    (hg : ∀ (s : Shared) (H : Hp) (C : Addr) (cl : List (Str × Addr)) (fp : List Addr), PG (X.blk s H scope (compEnvC scope cl C X.env) fp) tg (gName j))
    (ht : ∀ (s : Shared) (H : Hp) (C : Addr) (cl : List (Str × Addr)) (fp : List Addr), PTs (X.blk s H scope (compEnvC scope cl C X.env) fp) ifs tt)
    (he : ∀ (s : Shared) (H : Hp) (C : Addr) (cl : List (Str × Addr)) (fp : List Addr), PE (X.blk s H scope (compEnvC scope cl C X.env) fp) elt te) (hs : ∀ x, foldedSetIterable iter X.env x = pure x := by intro _; rfl) :
    PE X (.ListComp elt [⟨tg, iter, ifs, 0⟩] scope pos) (gLc wi j tt te (own.map (·.2))) :=
  PEi (pe_lc hc hN (PIm hi) ok hg (fun s H C cl fp => PTsm (ht s H C cl fp)) (fun s H C cl fp => PEm (he s H C cl fp)) hs) fun σ H Q q => ⟨_, fun J H1 r => by
    unfold Comp at r
    exact r, q⟩
theorem g_setLc {wi : TI} {i : Nat} {y : Str} {py spos : Pos} (hc : X.calm = true) (hN : X.N.Nodup) (hy : X.N[i]? = some y) (hyl : X.env.scope.names.lookup y = some .local)
    (hsw : swapsWith (.ListComp elt [⟨tg, iter, ifs, 0⟩] scope pos) (some (.Name y py)) spos.line X.env = pure true) (hi : PI X tg iter wi) (ok : BlkOk X.N X.env.scope scope own)
    (hg : ∀ (s : Shared) (H : Hp) (C : Addr) (cl : List (Str × Addr)) (fp : List Addr), PG (X.blk s H scope (compEnvC scope cl C X.env) fp) tg (gName j))
    (ht : ∀ (s : Shared) (H : Hp) (C : Addr) (cl : List (Str × Addr)) (fp : List Addr), PTs (X.blk s H scope (compEnvC scope cl C X.env) fp) ifs tt)
    (he : ∀ (s : Shared) (H : Hp) (C : Addr) (cl : List (Str × Addr)) (fp : List Addr), PE (X.blk s H scope (compEnvC scope cl C X.env) fp) elt te) (hs : ∀ x, foldedSetIterable iter X.env x = pure x := by intro _; rfl) :
    PS X (.Assign [.Name y py] (.ListComp elt [⟨tg, iter, ifs, 0⟩] scope pos) spos) (tAsg (gLc wi j tt te (own.map (·.2))) (gName i)) :=
  PSi (ps_setLc hc hN hy hyl hsw (PIm hi) ok hg (fun s H C cl fp => PTsm (ht s H C cl fp)) (fun s H C cl fp => PEm (he s H C cl fp)) hs) fun D σ H q => ⟨_, fun J H1 r => by
    unfold Comp at r
    exact r, q⟩
end
/-! ### loops -/
@[irreducible] def ForW (J : It) (g : TG) (tb : TS) (D : Ends) (σ : L2.St) (H : Hp) : Prop := ∃ W : Nat → Nat → L2.St → Hp → Prop, (∃ m, W 0 m σ H) ∧ ∀ i m σ H, W i m σ H →
  (J.stop i H ∧ D.nx σ H) ∨ (J.go i H ∧ ∃ N : L2.St → Hp → Prop, (∀ σ' H', N σ' H' → ∃ m', m' < m ∧ W (i + 1) m' σ' H') ∧ ∀ x H', J.yld i H x H' → g x σ H' fun σ2 H2 => tb { D with nx := N, ct := N, bk := D.nx } σ2 H2)
def gFor (wi : TI) (g : TG) (tb : TS) : TS := fun D σ H => wi σ H fun J H1 => ForW J g tb D σ H1
section
variable {X : Cx} {tg iter : Expr} {wi : TI} {g : TG} {tb : TS} {body : List Stmt} {pos : Pos}
theorem g_for (hp : PassesOwn (model X.prog X.w) X.A X.env X.xe) (hc : X.calm = true) (hi : PI X tg iter wi) (hg : PG X tg g) (hb : PSs X body tb)
    (hs : ∀ x, foldedSetIterable iter X.env x = pure x := by intro _; rfl) : PS X (.For tg iter body [] pos) (gFor wi g tb) :=
  PSi (ps_for hp hc (PIm hi) hg hb hs) fun D σ H q => ⟨_, fun J H1 r => by
    unfold ForW at r
    exact r, q⟩
end
section
variable {K : PySem.W.Frag} {g : TG} {tb : TS} {D : Ends} {σ : L2.St} {H : Hp}
theorem forw_list {a : Addr} {xs : List V} (Pv : Nat → L2.St → Hp → Prop) (h0 : Pv 0 σ H) (hl : ∀ i σ H, i ≤ xs.length → Pv i σ H → SqL K H a xs)
    (hs : ∀ i x σ H, xs[i]? = some x → Pv i σ H → g x σ H fun σ2 H2 => tb { D with nx := Pv (i + 1), ct := Pv (i + 1), bk := D.nx } σ2 H2) (hd : ∀ σ H, Pv xs.length σ H → D.nx σ H) : (∃ ys, SqL K H a ys) ∧ ForW (Itl K a) g tb D σ H := by
  refine ⟨⟨xs, hl 0 _ _ (Nat.zero_le _) h0⟩, ?_⟩
  unfold ForW
  exact for_list Pv h0 hl hs hd
theorem forw_tup {a : Addr} {xs : List V} (Pv : Nat → L2.St → Hp → Prop) (h0 : Pv 0 σ H) (hl : ∀ i σ H, i ≤ xs.length → Pv i σ H → SqT K H a xs)
    (hs : ∀ i x σ H, xs[i]? = some x → Pv i σ H → g x σ H fun σ2 H2 => tb { D with nx := Pv (i + 1), ct := Pv (i + 1), bk := D.nx } σ2 H2) (hd : ∀ σ H, Pv xs.length σ H → D.nx σ H) : (∃ ys, SqT K H a ys) ∧ ForW (Itt K a) g tb D σ H := by
  refine ⟨⟨xs, hl 0 _ _ (Nat.zero_le _) h0⟩, ?_⟩
  unfold ForW
  exact for_tup Pv h0 hl hs hd
theorem forw_range {lo : Int} {n : Nat} (Pv : Nat → L2.St → Hp → Prop) (h0 : Pv 0 σ H)
    (hs : ∀ i σ H, i < n → Pv i σ H → g (.int (lo + i)) σ H fun σ2 H2 => tb { D with nx := Pv (i + 1), ct := Pv (i + 1), bk := D.nx } σ2 H2) (hd : ∀ σ H, Pv n σ H → D.nx σ H) : ForW (Itr lo n) g tb D σ H := by
  unfold ForW
  exact for_range Pv h0 hs hd
end
end GG
namespace GG
open PySem PySem.Spec L2
section
variable {X : Cx}
/-! ### products, powers -/
def rMulG : R2 := fun x y H Q => match x, y with
  | .int i, .int j => CMul i j ∧ Q (.int (i * j)) H
  | .str z, .int n => MulOk z n ∧ Q (.str (Txt.mul z n)) H
  | .ref l, .int k => ∃ xs, H l = some (.lst xs) ∧ -(2 ^ 63) ≤ k ∧ k < 2 ^ 63 ∧ xs.length * k.toNat ≤ sizeLine ∧ ∀ p H', H p = none → Same H H' → H' p = some (.lst (List.replicate k.toNat xs).flatten) → Q (.ref p) H'
  | _, _ => False
theorem op_mulG : OpR X (binaryOp .Mult) rMulG := fun pins s σ H x y u v Q I rx ry h => by
  unfold rMulG at h
  split at h
  · exact op_mul pins s σ H _ _ u v Q I rx ry ⟨_, _, rfl, rfl, h.1, h.2⟩
  · obtain ⟨t, rfl⟩ := rx
    obtain ⟨t', rfl⟩ := ry
    exact SB.mul h.1 fun t k => ⟨.str _, H, I.tok k, ⟨_, rfl⟩, h.2⟩
  · obtain ⟨xs, h1, h2, h3, h4, h5⟩ := h
    exact op_rep pins s σ H _ _ u v Q I rx ry ⟨_, _, xs, rfl, rfl, h1, h2, h3, h4, fun p hp => h5 p _ hp (Sm.new hp) upd_same⟩
  · exact h.elim
def rPowG : R2 := fun x y H Q => match x, y with
  | .int i, .int j => (0 ≤ j ∧ (Builtin.Int.intBits i : Int) * j ≤ 2 ^ 27) ∧ Q (.int (i ^ j.toNat)) H
  | _, _ => False
theorem op_powW : OpR X (binaryOp .Pow) rPowG := fun pins s σ H x y u v Q I rx ry h => by
  unfold rPowG at h
  split at h
  · obtain ⟨t, rfl⟩ := rx
    obtain ⟨t', rfl⟩ := ry
    exact PyProof.Rows.pow_int h.1.1 h.1.2 ⟨.int _, H, I.tok _, ⟨_, rfl⟩, h.2⟩
  · exact h.elim
def rModG : R2 := fun x y H Q => match x, y with
  | .int i, .int j => 0 < j ∧ Q (.int (i % j)) H
  | _, _ => False
/-! ### in, is -/
def rInG (K : PySem.W.Frag) (neg : Bool) : R2 := fun x y H Q => match x, y with
  | .str a, .str z => ∃ c, a = ⟨#[c]⟩ ∧ Q (.bl (if neg then !decide (c ∈ z.cps.toList) else decide (c ∈ z.cps.toList))) H
  | x, .ref p => ∃ xs, (SqL K H p xs ∨ SqT K H p xs) ∧ flatV x = true ∧ xs.all flatV = true ∧ Q (.bl (if neg then !inV x xs else inV x xs)) H
  | _, _ => False
theorem op_inG : OpR X (compareOp .In) (rInG X.K false) := fun pins s σ H x y u v Q I rx ry h => by
  unfold rInG at h
  split at h
  · obtain ⟨c, rfl, q⟩ := h
    exact op_in_sign pins s σ H _ _ u v Q I rx ry ⟨c, _, rfl, rfl, q⟩
  · obtain ⟨xs, h1, h2, h3, q⟩ := h
    exact op_in_seq pins s σ H _ _ u v Q I rx ry ⟨_, xs, rfl, h1, h2, h3, q⟩
  · exact h.elim
theorem op_ninG : OpR X (compareOp .NotIn) (rInG X.K true) := fun pins s σ H x y u v Q I rx ry h => by
  unfold rInG at h
  split at h
  · obtain ⟨c, rfl, q⟩ := h
    exact op_notIn_sign pins s σ H _ _ u v Q I rx ry ⟨c, _, rfl, rfl, q⟩
  · obtain ⟨xs, h1, h2, h3, q⟩ := h
    exact op_notIn_seq pins s σ H _ _ u v Q I rx ry ⟨_, xs, rfl, h1, h2, h3, q⟩
  · exact h.elim
def rIsN (f : Bool → Bool) : R2 := fun x y H Q => match x, y with
  | .non, .non => Q (.bl (f true)) H
  | .int _, .non => Q (.bl (f false)) H
  | .ref _, .non => Q (.bl (f false)) H
  | .str _, .non => Q (.bl (f false)) H
  | .bl _, .non => Q (.bl (f false)) H
  | _, _ => False
theorem op_isG : OpR X (compareOp .Is) (rIsN fun b => b) := fun pins s σ H x y u v Q I rx ry h => by
  unfold rIsN at h
  split at h <;> first
    | exact op_isN pins s σ H _ _ u v Q I rx ry ⟨rfl, h⟩
    | exact h.elim
theorem op_isnG : OpR X (compareOp .IsNot) (rIsN fun b => !b) := fun pins s σ H x y u v Q I rx ry h => by
  unfold rIsN at h
  split at h <;> first
    | exact op_notN pins s σ H _ _ u v Q I rx ry ⟨rfl, h⟩
    | exact h.elim
/-! ### a call at some place below the body -/
theorem call_at {A : Around} {k : Nat} {f : Addr} {fd : FuncData} {ps : List Str} {sp : Sp} {pins : List (Addr × Obj)} {σ : L2.St} {H : Hp} {s : Shared} {us : List Value} {vs : List V} {Q : VK} {E : Value → Shared → Prop} (sb : Sub X k A) (F : FnOk X.prog X.w X.K X.mg X.base CX0 k f fd ps sp) (b : Binds X.K fd ps [])
    (I : L2.Inv X pins σ H s) (r : Vals vs us) (h : sp vs H Q E0) : wpAny (model X.prog X.w) A (call (.ref f) us) (EP X pins σ Q) E s := by
  have e0 : Env0 X.prog X.w X.K X.mg X.base A X.stack s H := by
    have e := I.env0
    exact ⟨by rw [sb.fr]; exact e.frames, e.mod, e.bs, e.bsz, e.funs, e.frf, e.hok, e.bare⟩
  have hl := F.len _ _ _ _ h
  refine wpAny_call (codeAny_mono (F.run A X.stack s H ⟨us, []⟩ us vs Q E0 sb.room e0 (by
    have z := b s us I.kIn (by rw [List.append_nil, ← r.length]; exact hl)
    rw [List.append_nil] at z
    exact z) r h) fun r s' hq => ?_)
  cases r with
  | error e => exact False.elim hq
  | ok fl =>
    cases fl with
    | ret u => exact I.after hq
    | next => exact False.elim hq
    | brk => exact False.elim hq
    | cont => exact False.elim hq
/-! ### len of an own instance -/
/-- the class at C has the special method m at f, which keeps sp -/
structure SpN (P : Program) (w : World) (K : PySem.W.Frag) (mg : Str → Option Value) (base : Heap) (k : Nat) (C : Addr) (m : Str) (sp : Sp) : Prop where
  ex : ∃ (f : Addr) (fd : FuncData) (ps : List Str), PySem.W.findIn K (.ref C) m = some (some (.ref f)) ∧ PySem.W.isFn K (.ref f) = true ∧ FnOk P w K mg base CX0 k f fd ps sp ∧ Binds K fd ps []
/-- len(x), x an instance of the class at C -/
def rLenO (C : Addr) (sp : Sp) : List V → Hp → VK → Prop := fun vs H Q => match vs with
  | [.ref a] => ∃ dx fs, H a = some (.ins C dx fs) ∧ sp [.ref a] H (fun v H' => ∃ n : Nat, v = .int n ∧ n < 2 ^ 62 ∧ Q (.int n) H') E0
  | _ => False
theorem c_lenO {k : Nat} {C : Addr} {sp : Sp} (c : SpN X.prog X.w X.K X.mg X.base k C "__len__" sp) (hr : Room (k + 1) X.A) : CallR X (.builtin "len") (rLenO C sp) := fun pins s σ H xs us Q I r h => by
  unfold rLenO at h
  split at h
  · obtain ⟨dx, fs, ha, h⟩ := h
    obtain ⟨f, fd, ps, h1, h2, F, b⟩ := c.ex
    cases r with
    | cons r0 rs =>
      cases rs
      cases r0
      obtain ⟨mA, O, _⟩ := ins_get I.hok ha
      obtain ⟨od, J, _⟩ := O.look
      obtain ⟨m, hF⟩ := I.fr
      refine PySem.W.len_K hF I.ok.mod.kin J h1 h2 (wpAny_mono (call_at ⟨hr.in1, rfl⟩ F b I (vs := [.ref _]) (.cons rfl .nil) h) (fun u s' hu => ?_) fun _ _ z => z)
      obtain ⟨v, H', I', rv, n, rfl, hn, q⟩ := hu
      obtain ⟨t, rfl⟩ := rv
      exact ⟨⟨by omega, by omega⟩, .int n, H', I'.tok _, ⟨_, rfl⟩, q⟩
  · exact h.elim
end
end GG
namespace GG
open PySem PySem.Spec L2
open PyProof.Rows (envOfC)
/-! ### what the top has left, one def at a time -/
def FnF (K : PySem.W.Frag) (mg : Str → Option Value) (x : Str) (st : Stmt) (ps : List Str) : Prop :=
  ∃ (f : Addr) (fd : FuncData), FunD K x x (defArgs st) (defBody st) (defScope st) [] [] f fd ∧ mg x = some (.ref f) ∧ Binds K fd ps []
def MtF (K : PySem.W.Frag) (C : Addr) (m q : Str) (st : Stmt) (ps : List Str) : Prop :=
  ∃ (f : Addr) (fd : FuncData), FunD K m q (defArgs st) (defBody st) (defScope st) [] [] f fd ∧ Cls K C ∧ Meth K C m f ∧ Binds K fd ps []
def PrF (K : PySem.W.Frag) (C : Addr) (m q : Str) (st : Stmt) (ps : List Str) : Prop :=
  ∃ (p g : Addr) (fd : FuncData), FunD K m q (defArgs st) (defBody st) (defScope st) [] [] g fd ∧ Cls K C ∧ PropOf K C m p g ∧ Binds K fd ps []
/-- what isinstance asks of an instance's class -/
structure InsF (K : PySem.W.Frag) (C : Addr) : Prop where
  cl : Cls K C
  ha : PySem.W.findIn K (.ref C) "__class__" = some (some (.builtin "object.__class__"))
  hn : PySem.W.specialIn K (.builtin "object.__class__") "__get__" = some (some (.builtin "getset_descriptor.__get__"))
  htk : PySem.W.takesIn K (.builtin "object.__class__") = some true
  hm : PySem.W.mroIn K C (.type "object") = some true
theorem is_own {K : PySem.W.Frag} {H : Hp} {a C D dx : Addr} {fs : List (Str × V)} {b : Bool} (e : H a = some (.ins C dx fs)) (i : InsF K C) (k : PySem.W.kitOne K (.ref C) (.ref D) = some b) : IsT K H (.ref a) (.ref D) b :=
  ⟨_, _, .own D, .base (.ins e i.cl i.ha i.hn i.htk i.hm), k⟩
theorem is_ownT {K : PySem.W.Frag} {H : Hp} {a C dx : Addr} {fs : List (Str × V)} {T : String} {b : Bool} (e : H a = some (.ins C dx fs)) (i : InsF K C) (k : PySem.W.kitOne K (.ref C) (.type T) = some b) : IsT K H (.ref a) (.ty T) b :=
  ⟨_, _, .ty T, .base (.ins e i.cl i.ha i.hn i.htk i.hm), k⟩
section
variable {P : Program} {w : World} {K : PySem.W.Frag} {mg : Str → Option Value} {base : Heap} {k : Nat} {sp : Sp} {N ps : List Str} {st : Stmt}
/-- a def by its body -/
theorem fn_by {x : Str} (F : FnF K mg x st ps) (S : FnScope N ps (defScope st)) (len : ∀ vs H Q E, sp vs H Q E → vs.length = ps.length)
    (hbody : ∀ (f : Addr) (cdv : Value) (A : Around) (outer : List Env) (s : Shared) (H : Hp) (vs : List V) (Q : VK) (E : XK), Room k (A.deeper (envOfC x (defScope st) s.heap.objs.size f cdv)) → sp vs H Q E →
      ∃ t, PSs (cxOf CX0 P w K mg base N x (defScope st) f cdv A outer s H E).nox (defBody st) t ∧ t { nx := fun _ H' => Q .non H', rt := Q } (start N vs) H) : FnN P w K mg base (k + 1) x [] sp := by
  obtain ⟨f, fd, F, hm, b⟩ := F
  exact ⟨f, fd, ps, [], F.ok S len fun cdv A outer s H vs Q E hr h => (hbody f cdv A outer s H vs Q E hr h).imp fun t q => ⟨q.1.nox, q.2⟩, hm, F.kp, b, .nil⟩
theorem mt_by {C : Addr} {m q : Str} (F : MtF K C m q st ps) (S : FnScope N ps (defScope st)) (len : ∀ vs H Q E, sp vs H Q E → vs.length = ps.length)
    (hbody : ∀ (f : Addr) (cdv : Value) (A : Around) (outer : List Env) (s : Shared) (H : Hp) (vs : List V) (Q : VK) (E : XK), Room k (A.deeper (envOfC q (defScope st) s.heap.objs.size f cdv)) → sp vs H Q E →
      ∃ t, PSs (cxOf CX0 P w K mg base N q (defScope st) f cdv A outer s H E).nox (defBody st) t ∧ t { nx := fun _ H' => Q .non H', rt := Q } (start N vs) H) : MtN P w K mg base (k + 1) C m [] sp := by
  obtain ⟨f, fd, F, c, hm, b⟩ := F
  exact ⟨f, fd, ps, [], c, hm, F.ok S len fun cdv A outer s H vs Q E hr h => (hbody f cdv A outer s H vs Q E hr h).imp fun t q => ⟨q.1.nox, q.2⟩, b, .nil⟩
theorem pr_by {C : Addr} {m q : Str} (F : PrF K C m q st ps) (S : FnScope N ps (defScope st)) (len : ∀ vs H Q E, sp vs H Q E → vs.length = ps.length)
    (hbody : ∀ (f : Addr) (cdv : Value) (A : Around) (outer : List Env) (s : Shared) (H : Hp) (vs : List V) (Q : VK) (E : XK), Room k (A.deeper (envOfC q (defScope st) s.heap.objs.size f cdv)) → sp vs H Q E →
      ∃ t, PSs (cxOf CX0 P w K mg base N q (defScope st) f cdv A outer s H E).nox (defBody st) t ∧ t { nx := fun _ H' => Q .non H', rt := Q } (start N vs) H) : PrN P w K mg base (k + 1) C m sp := by
  obtain ⟨p, f, fd, F, c, hm, b⟩ := F
  exact ⟨p, f, fd, ps, c, hm, F.ok S len fun cdv A outer s H vs Q E hr h => (hbody f cdv A outer s H vs Q E hr h).imp fun t q => ⟨q.1.nox, q.2⟩, b⟩
/-- a special method (__len__, __eq__ ..) -/
theorem MtN.sp' {C : Addr} {m : Str} (c : MtN P w K mg base k C m [] sp) : SpN P w K mg base k C m sp := by
  obtain ⟨f, fd, ps, ds, hc, hm, F, b, d⟩ := c.ex
  cases d
  exact ⟨f, fd, ps, hm.at_, hm.fn, F, b⟩
theorem mk_by {x q : Str} {C : Addr} {sp0 : Sp} (F : MtF K C "__init__" q st ps) (M : PySem.W.makesIn K C = true) (kp : PySem.W.keepIn K (.ref C) = true) (hm : mg x = some (.ref C)) (S : FnScope N ps (defScope st)) (len : ∀ vs H Q E, sp0 vs H Q E → vs.length = ps.length)
    (i : ∀ vs H Q, sp vs H Q E0 → ∀ y dy, H y = none → H dy = none → dy ≠ y → sp0 (.ref y :: vs) (upd (upd H dy (.own y)) y (.ins C dy [])) (fun v H2 => v = .non ∧ Q (.ref y) H2) E0)
    (hbody : ∀ (f : Addr) (cdv : Value) (A : Around) (outer : List Env) (s : Shared) (H : Hp) (vs : List V) (Q : VK) (E : XK), Room k (A.deeper (envOfC q (defScope st) s.heap.objs.size f cdv)) → sp0 vs H Q E →
      ∃ t, PSs (cxOf CX0 P w K mg base N q (defScope st) f cdv A outer s H E).nox (defBody st) t ∧ t { nx := fun _ H' => Q .non H', rt := Q } (start N vs) H) : MkN P w K mg base (k + 1) x sp := by
  obtain ⟨f, fd, F, c, hme, b⟩ := F
  exact ⟨C, f, fd, ps, [], [], sp0, ⟨M, hme.at_, hme.fn, kp⟩, F.ok S len fun cdv A outer s H vs Q E hr h => (hbody f cdv A outer s H vs Q E hr h).imp fun t q => ⟨q.1.nox, q.2⟩, hm, b, .nil, fun vs H Q h y dy h1 h2 h3 => by
    rw [List.append_nil]
    exact i vs H Q h y dy h1 h2 h3⟩
end
end GG
/-! len(set(texts)) -/
namespace GG
open PySem PySem.Spec PyProof.Rows
/-- the different ones, first come first -/
def dd {κ : Type} [DecidableEq κ] (l : List κ) : List κ := l.foldl (fun a x => if x ∈ a then a else a ++ [x]) []
theorem dd_snoc {κ : Type} [DecidableEq κ] (l : List κ) (x : κ) : dd (l ++ [x]) = if x ∈ dd l then dd l else dd l ++ [x] := by
  unfold dd
  rw [List.foldl_append]
  rfl
theorem dd_le {κ : Type} [DecidableEq κ] : ∀ (n : Nat) (l : List κ), l.length = n → (dd l).length ≤ n
  | 0, l, h => by
    have e : l = [] := List.length_eq_zero_iff.mp h
    subst e; exact Nat.le_refl _
  | n + 1, l, h => by
    obtain ⟨m, x, e⟩ : ∃ m x, l = m ++ [x] := ⟨l.dropLast, l.getLast (by intro z; rw [z] at h; simp at h), (List.dropLast_concat_getLast _).symm⟩
    subst e
    rw [List.length_append] at h
    have ih := dd_le n m (by simp at h; omega)
    rw [dd_snoc]
    split
    · omega
    · rw [List.length_append]; simp; omega
theorem dd_mem {κ : Type} [DecidableEq κ] (l : List κ) : ∀ x, x ∈ dd l ↔ x ∈ l := by
  intro x
  suffices H : ∀ n (l : List κ), l.length = n → (x ∈ dd l ↔ x ∈ l) from H _ l rfl
  intro n
  induction n with
  | zero =>
    intro l h
    have e : l = [] := List.length_eq_zero_iff.mp h
    subst e; simp [dd]
  | succ n ih =>
    intro l h
    obtain ⟨m, y, e⟩ : ∃ m y, l = m ++ [y] := ⟨l.dropLast, l.getLast (by intro z; rw [z] at h; simp at h), (List.dropLast_concat_getLast _).symm⟩
    subst e
    rw [List.length_append] at h
    have := ih m (by simp at h; omega)
    rw [dd_snoc]
    split
    · rename_i hy
      rw [this, List.mem_append, List.mem_singleton]
      constructor
      · exact .inl
      · rintro (h | h)
        · exact h
        · subst h; exact this.mp hy
    · rw [List.mem_append, List.mem_append, this]
theorem dd_nodup_eq {κ : Type} [DecidableEq κ] : ∀ (n : Nat) (l : List κ), l.length = n → l.Nodup → dd l = l
  | 0, l, h, _ => by
    have e : l = [] := List.length_eq_zero_iff.mp h
    subst e; rfl
  | n + 1, l, h, nd => by
    obtain ⟨m, y, e⟩ : ∃ m y, l = m ++ [y] := ⟨l.dropLast, l.getLast (by intro z; rw [z] at h; simp at h), (List.dropLast_concat_getLast _).symm⟩
    subst e
    rw [List.length_append] at h
    have q := List.nodup_append.mp nd
    have ih := dd_nodup_eq n m (by simp at h; omega) q.1
    rw [dd_snoc, ih, if_neg]
    intro hm
    exact q.2.2 y hm y (List.mem_singleton.mpr rfl) rfl
section
variable {prog : Program} {w : World} {A : Around} {R : Result → Shared → Prop} {I : Addr} {fp wr : List Addr} {G : Array GenState → Array GenState → Prop} {P : Nat → Value → Prop} {St : Nat → Shared → Prop}
  {κ : Type} [DecidableEq κ] {knd : KeyKind prog w κ}
/-- set.update's loop over any walk, the keys of any kind -/
theorem upd_loop {keys : List κ} (W : WalksS prog w A.in1 I fp wr G keys.length P St) (S : Addr) (hSf : S ∉ fp) (hval : ∀ i v, P i v → ∃ k, keys[i]? = some k ∧ knd.is k v = true ∧ v.scannable = true) (hb : keys.length + 1 < scanBound) :
    ∀ (k i : Nat) (s : Shared), keys.length - i = k → i ≤ keys.length → St i s → s.heap.SetOf knd S (fun z => decide (z ∈ dd (keys.take i))) (dd (keys.take i)).length →
      (∀ s', Moved (S :: wr) G s s' → s'.heap.SetOf knd S (fun z => decide (z ∈ dd keys)) (dd keys).length → R (.ok (.ret .none)) s') →
      codeAny (model prog w) A (.builtin "set.update.loop" ⟨[.ref S, .ref I], []⟩) R s := by
  have nwr : S ∉ wr := fun h => hSf (W.sub _ h)
  have grow : ∀ b ∈ wr, b ∈ S :: wr := fun b hb => List.mem_cons_of_mem _ hb
  have stays : ∀ {s s' : Shared} {T : κ → Bool} {n : Nat}, Moved wr G s s' → s.heap.SetOf knd S T n → s'.heap.SetOf knd S T n := fun hm ⟨o, es, ep, t, ho, r⟩ => ⟨o, es, ep, t, hm.heap S _ nwr ho, r⟩
  intro k
  induction k with
  | zero =>
    intro i s hk hi hst hS hR
    have e : i = keys.length := by omega
    subst e
    rw [List.take_length] at hS
    refine codeAny_builtin PyProof.Rows.F.entry_set_update_loop ?_
    rw [Around.under_plainId PyProof.Rows.F.plain_set_update_loop _]
    show wpAny _ A.in1 (pyNext (.ref I) >>= _) _ _ s
    refine wpAny_bind (W.done s _ _ hst fun s' hm => ?_)
    exact wpAny_pure (hR s' (hm.mono grow) (stays hm hS))
  | succ k ih =>
    intro i s hk hi hst hS hR
    have hlt : i < keys.length := by omega
    refine codeAny_builtin PyProof.Rows.F.entry_set_update_loop ?_
    rw [Around.under_plainId PyProof.Rows.F.plain_set_update_loop _]
    show wpAny _ A.in1 (pyNext (.ref I) >>= _) _ _ s
    refine wpAny_bind (W.item i s _ _ hlt hst fun v s' hP hst' hm => ?_)
    obtain ⟨key, hkey, his, hsc⟩ := hval i v hP
    have hS' := stays hm hS
    have tk : keys.take (i + 1) = keys.take i ++ [key] := by
      rw [List.take_add_one, hkey]
      rfl
    have hlen : (dd (keys.take i)).length + 1 < scanBound := by
      have := dd_le _ (keys.take i) rfl
      rw [List.length_take] at this
      omega
    show wpAny _ A.in1 (holding [v] (setAdd S v) >>= _) _ _ s'
    refine wpAny_bind (wpAny_holding ?_)
    unfold setAdd
    refine wpAny_holding ?_
    refine wpAny_bind (knd.pyHash (k := key) his ?_)
    refine wpAny_setAddHashed_of (knd := knd) (s := { s' with toks := s'.toks + 1 }) his hsc hS' hlen fun h' hsb hS2 => ?_
    have hnext : h'.SetOf knd S (fun z => decide (z ∈ dd (keys.take (i + 1)))) (dd (keys.take (i + 1))).length := by
      rw [tk, dd_snoc]
      by_cases hin : key ∈ dd (keys.take i)
      · rw [if_pos hin]
        refine SetOf_congr hS2 (fun z => ?_) (by simp [hin])
        by_cases hz : z = key
        · subst hz; simp [hin]
        · simp [hz]
      · rw [if_neg hin]
        refine SetOf_congr hS2 (fun z => ?_) (by simp [hin])
        simp [List.mem_append, Bool.decide_or]
    refine wpAny_pure ⟨plainId_quiet PyProof.Rows.F.plain_set_update_loop _, ih (i + 1) _ (by omega) hlt (W.frame _ s' _ _ hst' (Nat.le_succ _) fun b hb o e => ?_) hnext fun s2 hm2 hS3 => ?_⟩
    · rw [hsb.2 b (fun z : b = S => hSf (by rw [← z]; exact hb))]; exact e
    · refine hR s2 (Moved.trans W.gtrans ((hm.mono grow).then_heap (Nat.le_succ _) fun b o hb e => ?_) hm2) hS3
      rw [hsb.2 b (fun z : b = S => hb (by rw [z]; exact List.mem_cons_self))]; exact e

/-- set(l), l a list whose items are keys -/
theorem set_list_keys {keys : List κ} {l : Addr} {items : Array Value} {E : Value → Shared → Prop} {s : Shared} {Q : Value → Shared → Prop} (hh : A.handled = none) (hl : s.heap.IsList l items) (hsz : items.size = keys.length)
    (hi : ∀ (i : Nat) (v : Value), items[i]? = some v → ∃ k, keys[i]? = some k ∧ knd.is k v = true ∧ v.scannable = true) (hb : keys.length + 1 < scanBound)
    (h : ∀ (h' : Heap) (tk : Nat), h'.SetOf knd s.heap.objs.size (fun z => decide (z ∈ dd keys)) (dd keys).length → (∀ b o, b < s.heap.objs.size → s.heap.get? b = some o → h'.get? b = some o) → Q (.ref s.heap.objs.size) { s with heap := h', toks := tk }) :
    wpAny (model prog w) A (call (.type "set") [.ref l]) Q E s := by
  obtain ⟨c, tl, hmro⟩ := PySem.F.called_set.mro
  have hmade := PySem.F.called_set.made
  have hsub := PySem.F.called_set.sub
  have h1 := PySem.F.called_set.notType
  have h2 := PySem.F.called_set.canCreate
  have hct := PySem.F.typeCall_set_1 (.ref l)
  refine wpAny_call (codeAny_of_tree ?_)
  show wpAny _ _ (callAny (.type "set") _) _ _ _
  refine wpAny_pure ⟨Code.quiet_builtin _ (by decide +kernel), codeAny_builtin PySem.F.entry_type_call ?_⟩
  rw [Around.under_plain (weight_type_call_type "set" [.ref l] []) rfl]
  repeat (any_goals (first | assumption | wp_step))
  let newSet : Bool → Obj := fun led => { cls := .type "set", dict := none, data := .set #[] 0 (.fresh 0 0 led) }
  refine codeAny_mono (code_set_new_1 (.ref l) (E := E) (Q₁ := fun obj s1 => ∃ led : Bool, obj = .ref s.heap.objs.size ∧ s1 = { s with heap := s.heap.push (newSet led) }) fun led => ⟨led, rfl, rfl⟩) fun r s1 hr => ?_
  match r, hr with
  | .error e, hr => exact hr
  | .ok (.ret obj), hr =>
    obtain ⟨led, rfl, rfl⟩ := hr
    have hS : (s.heap.push (newSet led)).get? s.heap.objs.size = some (newSet led) := Heap.get?_push_size _ rfl
    have hT : Shared.TypeIs { s with heap := s.heap.push (newSet led) } (.ref s.heap.objs.size) "set" := ⟨_, hS, rfl⟩
    have hli := PySem.F.called_set.init.lookup
    have hbi := PySem.F.called_set.init.bind (.ref s.heap.objs.size)
    repeat (any_goals (first | assumption | wp_step))
    refine codeAny_mono (codeAny_call_builtin (R := wants (fun r s2 => r = .none ∧ ∃ h' tk, s2 = { s with heap := h', toks := tk } ∧
        h'.SetOf knd s.heap.objs.size (fun z => decide (z ∈ dd keys)) (dd keys).length ∧ ∀ b o, b < s.heap.objs.size → s.heap.get? b = some o → h'.get? b = some o) E) PySem.F.called_set.init.plain PySem.F.entry_set_init (check_set_init_1 hT ?_)) fun r2 s2 hr2 => ?_
    · obtain ⟨⟨ocls, odict, odata, oslots⟩, hol, hcl, nl, hdl⟩ := hl
      simp only at hcl hdl
      subst hcl; subst hdl
      have hol' : (s.heap.push (newSet led)).get? l = some { cls := .type "list", dict := odict, data := .seq items nl, slots := oslots } := Heap.get?_push_of_some _ hol
      have hsls := PySem.F.sub_list_set
      have hslf := PySem.F.sub_list_frozenset
      have hne : (Value.type "list" == Value.type "dict") = false := by decide
      have hl1 : (s.heap.push (newSet led)).IsList l items := ⟨_, hol', rfl, nl, rfl⟩
      unfold Builtin.«set.__init__» noKeywords Builtin.Frozenset.updateFrom
      generalize hPI : pyIter = PI
      wp_walk
      subst hPI
      refine wpAny_pyIter_list hl1 ?_
      refine wpAny_bind (wpAny_runValue ?_)
      have hlS : l < s.heap.objs.size := Heap.lt_size hol
      have hh3 : A.in1.in1.in1.handled = none := by simp [hh]
      have hneI : l ≠ (s.heap.push (newSet led)).objs.size := by rw [Heap.size_push]; exact Nat.ne_of_lt (Nat.lt_succ_of_lt hlS)
      have hSf : s.heap.objs.size ∉ [(s.heap.push (newSet led)).objs.size, l] := by
        rw [Heap.size_push]
        simp only [List.mem_cons, List.not_mem_nil, or_false, not_or]
        exact ⟨Nat.ne_of_lt (Nat.lt_succ_self _), Nat.ne_of_gt hlS⟩
      have W0 := (Walks.list (prog := prog) (w := w) hh3 _ l hneI items).toS
      rw [hsz] at W0
      refine upd_loop (keys := keys) (knd := knd) W0 s.heap.objs.size hSf hi hb (keys.length - 0) 0 _ (by omega) (Nat.zero_le _) ⟨⟨_, Heap.get?_push_size _ rfl, rfl, rfl⟩, (hl1.push _)⟩ ?_ ?_
      · have hget : ((s.heap.push (newSet led)).push { cls := .type "list_iterator", data := .fields #[.ref l, .int 0 0] }).get? s.heap.objs.size = some (newSet led) := Heap.get?_push_of_some _ hS
        exact SetOf_congr ((setObjOf_fresh (knd := knd) led).setOf hget (by unfold scanBound; omega)) (fun _ => rfl) rfl
      · intro s' hm hS'
        obtain ⟨h', g', d', tk', os'⟩ := s'
        have eg : g' = s.gens := hm.gens
        have ed : d' = s.drawn := hm.drawn
        have eo : os' = s.os := hm.os
        subst eg; subst ed; subst eo
        refine wpAny_pure ?_
        refine wpAny_pure ⟨rfl, h', tk', rfl, hS', fun b o hb e => ?_⟩
        refine hm.heap b o ?_ (Heap.get?_push_of_some _ (Heap.get?_push_of_some _ e))
        rw [Heap.size_push]
        simp only [List.mem_cons, List.not_mem_nil, or_false, not_or]
        exact ⟨Nat.ne_of_lt hb, Nat.ne_of_lt (Nat.lt_succ_of_lt hb)⟩
    · match r2, hr2 with
      | .error e, hr2 => exact hr2
      | .ok (.ret r), hr2 =>
        obtain ⟨rfl, h', tk, rfl, hS', hk'⟩ := hr2
        repeat (any_goals (first | assumption | wp_step))
        exact h _ _ hS' hk'
end
section
open L2
variable {X : Cx}
/-- len(set(xs)), xs a list of texts -/
def gLenSet (K : PySem.W.Frag) (ta : TE) : TE := fun σ H Q => ta σ H fun x H1 => match x with
  | .ref l => ∃ xs : List Str, SqL K H1 l (xs.map V.str) ∧ xs.length ≤ 4000 ∧ Q (.int (dd xs).length) H1
  | _ => False
theorem strs_item : ∀ {us : List Value} {xs : List Str}, Vals (xs.map V.str) us → ∀ (i : Nat) (v : Value), us[i]? = some v → ∃ z t, xs[i]? = some z ∧ v = .str z t
  | us, [], r, i, v, h => by cases r; simp at h
  | us, x :: xs, r, i, v, h => by
    cases r with
    | cons r0 rs =>
      obtain ⟨t, e⟩ := r0
      cases i with
      | zero => simp at h; subst h; exact ⟨x, t, rfl, e⟩
      | succ i =>
        obtain ⟨z, t, h1, h2⟩ := strs_item rs i v (by simpa using h)
        exact ⟨z, t, by simpa using h1, h2⟩
theorem g_lenSet {a : Expr} {ta : TE} {p p2 q pos : Pos} (hg : Gl X "len") (hm : X.mg "len" = none) (hg2 : Gl X "set") (hm2 : X.mg "set" = none) (ha : PE X a ta) (hc : X.calm = true)
    (na : starEach [a] X.env = (false, eval a X.env) :: starEach [] X.env := by rfl) : PE X (.Call (.Name "len" p) [.Call (.Name "set" p2) [a] [] q] [] pos) (gLenSet X.K ta) := by
  refine ⟨fun pins s σ H Q I h => ?_⟩
  refine Call_ (ld_blt I hg hm boot_len ?_)
  refine PyProof.Rows.callWith_builtin1 (PyProof.Rows.args_cons ?_ rfl) rfl rfl
  refine Call_ (ld_blt I hg2 hm2 boot_set ?_)
  refine PyProof.Rows.callWith_type1 (PyProof.Rows.args_cons (thn (ha.run pins s σ H _ I h) fun v s1 ⟨x, H1, I1, r1, q1⟩ => PyProof.Rows.args_nil ?_) na) na rfl
  dsimp only at q1
  split at q1
  · obtain ⟨xs, hq, hl, q1⟩ := q1
    cases r1
    obtain ⟨its, r, pl, hz⟩ := I1.list hq
    have hlen : its.length = xs.length := by rw [← r.length, List.length_map]
    refine set_list_keys (keys := xs) (knd := strKind X.prog X.w) (I1.ok.hd hc) pl.isList (by rw [List.size_toArray, hlen]) (fun i v hv => ?_) (by unfold scanBound; omega) fun h' tk hS hk => ?_
    · obtain ⟨z, t, h1, h2⟩ := strs_item r i v (by simpa using hv)
      subst h2
      exact ⟨z, h1, strKind_is _ _ _ _, rfl⟩
    · refine PyProof.Rows.args_nil ?_
      obtain ⟨o, es, ep, t, ho, hex, hd, _, _, _, hf, hn⟩ := hS
      have I2 : L2.Inv X pins σ H1 { s1 with heap := h', toks := tk } := I1.kept fun b o e => hk b o (Heap.lt_size e) e
      have le := dd_le _ xs rfl
      exact call_len_set ho hex hd hf (by rw [hn] <;> omega) ⟨.int (dd xs).length, H1, I2.tok _, ⟨_, by rw [hn]⟩, q1⟩
  · exact q1.elim
end
end GG
/-! the rules that read the written part, with it said -/
namespace GG
open PySem PySem.Spec L2
section
variable {X : Cx} (K : PySem.W.Frag) (h : X.K = K)
include h
theorem k_eqG (hu : X.A.units + 64 < cLine) : OpR X (compareOp .Eq) (rEqG K fun b => b) := by subst h; exact op_eqG hu
theorem k_neG (hu : X.A.units + 64 < cLine) : OpR X (compareOp .NotEq) (rEqG K fun b => !b) := by subst h; exact op_neG hu
theorem k_inG : OpR X (compareOp .In) (rInG K false) := by subst h; exact op_inG
theorem k_ninG : OpR X (compareOp .NotIn) (rInG K true) := by subst h; exact op_ninG
theorem k_ix : IxR X (rIxG K) := by subst h; exact ix_G
theorem k_sl : SlR X (rSlG K) := by subst h; exact sl_G
theorem k_len : CallR X (.builtin "len") (rLenG K) := by subst h; exact c_len
theorem k_sum (hc : X.calm = true) : CallR X (.builtin "sum") (rSumG K) := by subst h; exact c_sum hc
theorem k_min (hc : X.calm = true) : CallR X (.builtin "min") (rMinG K) := by subst h; exact c_min hc
theorem k_max (hc : X.calm = true) : CallR X (.builtin "max") (rMaxG K) := by subst h; exact c_max hc
theorem k_sorted : CallR X (.builtin "sorted") (rSortG K) := by subst h; exact c_sorted
theorem k_list : CallR X (.type "list") (rListG K) := by subst h; exact c_list
theorem k_tuple : CallR X (.type "tuple") (rTupleG K) := by subst h; exact c_tuple
theorem k_isi : CallR X (.builtin "isinstance") (rIsG K) := by subst h; exact c_isi
theorem k_fld {e : Expr} {f : Str} {ta : TE} {pos : Pos} (he : PE X e ta) (hb : attributeBase e f X.env (eval e X.env) = eval e X.env) : PE X (.Attribute e f pos) (gFld K ta f) := by subst h; exact g_fld he hb
theorem k_fldS {o value : Expr} {f : Str} {ta tv : TE} {pos pos' : Pos} (ha : PE X o ta) (hv : PE X value tv) (hs : swapsWith value (some (.Attribute o f pos')) pos.line X.env = pure false) : PS X (.Assign [.Attribute o f pos'] value pos) (gFldS K ta tv f) := by subst h; exact g_fldS ha hv hs
theorem kw_list {tg iter : Expr} {tl : TE} (he : PE X iter tl) : PI X tg iter (wL K tl) := by subst h; exact w_list he
theorem kw_tup {tg iter : Expr} {tl : TE} (he : PE X iter tl) : PI X tg iter (wT K tl) := by subst h; exact w_tup he
theorem k_lenSet {a : Expr} {ta : TE} {p p2 q pos : Pos} (hg : Gl X "len") (hm : X.mg "len" = none) (hg2 : Gl X "set") (hm2 : X.mg "set" = none) (ha : PE X a ta) (hc : X.calm = true)
    (na : starEach [a] X.env = (false, eval a X.env) :: starEach [] X.env := by rfl) : PE X (.Call (.Name "len" p) [.Call (.Name "set" p2) [a] [] q] [] pos) (gLenSet K ta) := by subst h; exact g_lenSet hg hm hg2 hm2 ha hc na
end
section
variable {P : Program} {w : World} {K : PySem.W.Frag} {mg : Str → Option Value} {base : Heap} {k j : Nat} {sp : Sp}
theorem MtN.up {C : Addr} {m : Str} {dvs : List V} (c : MtN P w K mg base k C m dvs sp) (h : k ≤ j) : MtN P w K mg base j C m dvs sp := by
  obtain ⟨f, fd, ps, ds, a, b, F, r⟩ := c.ex
  exact ⟨f, fd, ps, ds, a, b, F.mono h, r⟩
theorem FnN.up {x : Str} {dvs : List V} (c : FnN P w K mg base k x dvs sp) (h : k ≤ j) : FnN P w K mg base j x dvs sp := by
  obtain ⟨f, fd, ps, ds, F, r⟩ := c.ex
  exact ⟨f, fd, ps, ds, F.mono h, r⟩
theorem PrN.up {C : Addr} {m : Str} (c : PrN P w K mg base k C m sp) (h : k ≤ j) : PrN P w K mg base j C m sp := by
  obtain ⟨p, g, fd, ps, a, b, F, r⟩ := c.ex
  exact ⟨p, g, fd, ps, a, b, F.mono h, r⟩
end
end GG
/-! comprehensions of two clauses without tests, the targets names; len of own instances by K; reversed slices -/
namespace GG
open PySem PySem.Spec L2
@[irreducible] def Comp2 (J : It) (j : Nat) (wi1 : TI) (j1 : Nat) (te : TE) (vs vs1 : List Nat) (σ : L2.St) (Q : VK) (H1 : Hp) : Prop :=
  ∀ D, H1 D = none → ∃ W : Nat → Nat → Hp → Prop, (∃ m, W 0 m (upd H1 D (.lst []))) ∧ ∀ i m H, W i m H →
  (J.stop i H ∧ Q (.ref D) H) ∨ (J.go i H ∧ ∃ Nx : Hp → Prop, (∀ H', Nx H' → ∃ m', m' < m ∧ W (i + 1) m' H') ∧ ∀ x H', J.yld i H x H' → wipe ((wipe σ vs).set j (some x)) vs = wipe σ vs ∧
    wi1 ((wipe σ vs).set j (some x)) H' fun J1 H4 => ∃ W1 : Nat → Nat → Hp → Prop, (∃ m, W1 0 m H4) ∧ ∀ j' k H, W1 j' k H →
      (J1.stop j' H ∧ Nx H) ∨ (J1.go j' H ∧ ∃ Nx1 : Hp → Prop, (∀ H', Nx1 H' → ∃ k', k' < k ∧ W1 (j' + 1) k' H') ∧ ∀ z H', J1.yld j' H z H' →
        wipe ((wipe ((wipe σ vs).set j (some x)) vs1).set j1 (some z)) vs1 = wipe ((wipe σ vs).set j (some x)) vs1 ∧
        te ((wipe ((wipe σ vs).set j (some x)) vs1).set j1 (some z)) H' fun y H7 => ∃ acc, H7 D = some (.lst acc) ∧ acc.length < sizeLine ∧ Nx1 (upd H7 D (.lst (acc ++ [y])))))
def gLc2 (wi : TI) (j : Nat) (wi1 : TI) (j1 : Nat) (te : TE) (vs vs1 : List Nat) : TE := fun σ H Q => wi σ H fun J H1 => Comp2 J j (mcI wi1) j1 (mcE te) vs vs1 σ Q H1
section
variable {X : Cx} {elt tg iter tg1 iter1 : Expr} {scope : Scope} {own : List (Str × Nat)} {pos : Pos} {te : TE} {wi wi1 : TI} {j j1 : Nat} {vs1 : List Nat}
theorem g_lc2 (hc : X.calm = true) (hN : X.N.Nodup) (hi : PI X tg iter wi) (ok : BlkOk X.N X.env.scope scope own) (hv : ∀ i ∈ vs1, i ∈ own.map (·.2))
    (hg : ∀ (s : Shared) (H : Hp) (C : Addr) (cl : List (Str × Addr)) (fp : List Addr), PG (X.blk s H scope (compEnvC scope cl C X.env) fp) tg (gName j))
    (hi1 : ∀ (s : Shared) (H : Hp) (C : Addr) (cl : List (Str × Addr)) (fp : List Addr), PI (X.blk s H scope (compEnvC scope cl C X.env) fp) tg1 iter1 wi1)
    (hg1 : ∀ (s : Shared) (H : Hp) (C : Addr) (cl : List (Str × Addr)) (fp : List Addr), PG (X.blk s H scope (compEnvC scope cl C X.env) fp) tg1 (gName j1))
    (he : ∀ (s : Shared) (H : Hp) (C : Addr) (cl : List (Str × Addr)) (fp : List Addr), PE (X.blk s H scope (compEnvC scope cl C X.env) fp) elt te)
    (hs : ∀ x, foldedSetIterable iter X.env x = pure x := by intro _; rfl) (hs1 : ∀ env x, foldedSetIterable iter1 env x = pure x := by intro _ _; rfl) :
    PE X (.ListComp elt [⟨tg, iter, [], 0⟩, ⟨tg1, iter1, [], 0⟩] scope pos) (gLc2 wi j wi1 j1 te (own.map (·.2)) vs1) :=
  PEi (pe_lc2 (tt := tYes) (tt1 := tYes) (vs1 := vs1) hc hN (PIm hi) ok hv hg (fun _ _ _ _ _ => pts_nil) (fun s H C cl fp => PIm (hi1 s H C cl fp)) hg1 (fun _ _ _ _ _ => pts_nil) (fun s H C cl fp => PEm (he s H C cl fp)) hs hs1) fun σ H Q q => ⟨_, fun J H1 r => by
    unfold Comp2 at r
    exact r, q⟩
theorem g_setLc2 {i : Nat} {y : Str} {py spos : Pos} (hc : X.calm = true) (hN : X.N.Nodup) (hy : X.N[i]? = some y) (hyl : X.env.scope.names.lookup y = some .local)
    (hsw : swapsWith (.ListComp elt [⟨tg, iter, [], 0⟩, ⟨tg1, iter1, [], 0⟩] scope pos) (some (.Name y py)) spos.line X.env = pure true) (hi : PI X tg iter wi) (ok : BlkOk X.N X.env.scope scope own) (hv : ∀ i ∈ vs1, i ∈ own.map (·.2))
    (hg : ∀ (s : Shared) (H : Hp) (C : Addr) (cl : List (Str × Addr)) (fp : List Addr), PG (X.blk s H scope (compEnvC scope cl C X.env) fp) tg (gName j))
    (hi1 : ∀ (s : Shared) (H : Hp) (C : Addr) (cl : List (Str × Addr)) (fp : List Addr), PI (X.blk s H scope (compEnvC scope cl C X.env) fp) tg1 iter1 wi1)
    (hg1 : ∀ (s : Shared) (H : Hp) (C : Addr) (cl : List (Str × Addr)) (fp : List Addr), PG (X.blk s H scope (compEnvC scope cl C X.env) fp) tg1 (gName j1))
    (he : ∀ (s : Shared) (H : Hp) (C : Addr) (cl : List (Str × Addr)) (fp : List Addr), PE (X.blk s H scope (compEnvC scope cl C X.env) fp) elt te)
    (hs : ∀ x, foldedSetIterable iter X.env x = pure x := by intro _; rfl) (hs1 : ∀ env x, foldedSetIterable iter1 env x = pure x := by intro _ _; rfl) :
    PS X (.Assign [.Name y py] (.ListComp elt [⟨tg, iter, [], 0⟩, ⟨tg1, iter1, [], 0⟩] scope pos) spos) (tAsg (gLc2 wi j wi1 j1 te (own.map (·.2)) vs1) (gName i)) :=
  PSi (ps_setLc2 (tt := tYes) (tt1 := tYes) (vs1 := vs1) hc hN hy hyl hsw (PIm hi) ok hv hg (fun _ _ _ _ _ => pts_nil) (fun s H C cl fp => PIm (hi1 s H C cl fp)) hg1 (fun _ _ _ _ _ => pts_nil) (fun s H C cl fp => PEm (he s H C cl fp)) hs hs1) fun D σ H q => ⟨_, fun J H1 r => by
    unfold Comp2 at r
    exact r, q⟩
end
section
variable {J : It} {n : Nat} {Gd : Hp → Prop} {Y : Nat → V → Prop} {j j1 : Nat} {wi1 : TI} {te : TE} {vs vs1 : List Nat} {σ : L2.St} {Q : VK} {H1 : Hp}
/-- what the inner clause is to give: F1 behind k of its items -/
def Inner (j1 : Nat) (te : TE) (vs1 : List Nat) (σ2 : L2.St) (D : Addr) (acc0 : List V) (Fend : List V → Hp → Prop) (J1 : It) (H4 : Hp) : Prop :=
  H4 D = some (.lst acc0) ∧ ∃ (m : Nat) (G1 : Hp → Prop) (Y1 : Nat → V → Prop) (F1 : Nat → List V → Hp → Prop), Walk J1 m G1 (fun i H x H' => H' = H ∧ Y1 i x) ∧ F1 0 acc0 (off D H4) ∧ (∀ k acc H G, k ≤ m → F1 k acc G → Same G H → G1 H) ∧
    (∀ k z acc H5, k < m → Y1 k z → H5 D = some (.lst acc) → F1 k acc (off D H5) → wipe ((wipe σ2 vs1).set j1 (some z)) vs1 = wipe σ2 vs1 ∧
      te ((wipe σ2 vs1).set j1 (some z)) H5 fun y H6 => H6 D = some (.lst acc) ∧ acc.length < sizeLine ∧ F1 (k + 1) (acc ++ [y]) (off D H6)) ∧ ∀ acc G, F1 m acc G → Fend acc G
theorem comp2_by (w : Walk J n Gd (fun i H x H' => H' = H ∧ Y i x)) (F : Nat → List V → Hp → Prop) (h0 : F 0 [] H1) (hG : ∀ i acc H G, i ≤ n → F i acc G → Same G H → Gd H)
    (hs : ∀ D i x acc H', i < n → Y i x → H1 D = none → H' D = some (.lst acc) → F i acc (off D H') → wipe ((wipe σ vs).set j (some x)) vs = wipe σ vs ∧
      wi1 ((wipe σ vs).set j (some x)) H' (Inner j1 te vs1 ((wipe σ vs).set j (some x)) D acc (F (i + 1))))
    (hd : ∀ D H' acc, H1 D = none → H' D = some (.lst acc) → F n acc (off D H') → Q (.ref D) H') : Comp2 J j (mcI wi1) j1 (mcE te) vs vs1 σ Q H1 := by
  unfold Comp2
  intro D hD
  refine ⟨fun i m H => m = n - i ∧ i ≤ n ∧ ∃ acc, H D = some (.lst acc) ∧ F i acc (off D H), ⟨n, by simp, Nat.zero_le _, [], upd_same, by rw [off_upd, off_free hD]; exact h0⟩, ?_⟩
  rintro i m H ⟨rfl, hi, acc, e, f⟩
  have g := hG i acc H _ hi f off_same
  by_cases hlt : i < n
  · refine .inr ⟨w.goes i H hlt g, fun H' => ∃ acc, H' D = some (.lst acc) ∧ F (i + 1) acc (off D H'), fun H' ⟨acc, e, f⟩ => ⟨n - (i + 1), by omega, rfl, hlt, acc, e, f⟩, fun x H' y => ?_⟩
    obtain ⟨rfl, hy⟩ := w.yields i H x H' hlt g y
    obtain ⟨hw, hr⟩ := hs D i x acc _ hlt hy hD e f
    refine ⟨hw, _, fun J1 H4 r => ?_, hr⟩
    obtain ⟨e4, m, G1, Y1, F1, w1, f0, hG1, hs1, hend⟩ := r
    refine ⟨fun k mm H => mm = m - k ∧ k ≤ m ∧ ∃ acc, H D = some (.lst acc) ∧ F1 k acc (off D H), ⟨m, by simp, Nat.zero_le _, acc, e4, f0⟩, ?_⟩
    rintro k mm H5 ⟨rfl, hk, acc5, e5, f5⟩
    have g5 := hG1 k acc5 H5 _ hk f5 off_same
    by_cases hkt : k < m
    · refine .inr ⟨w1.goes k H5 hkt g5, fun H' => ∃ acc, H' D = some (.lst acc) ∧ F1 (k + 1) acc (off D H'), fun H' ⟨acc, e, f⟩ => ⟨m - (k + 1), by omega, rfl, hkt, acc, e, f⟩, fun z H6 y6 => ?_⟩
      obtain ⟨rfl, hy6⟩ := w1.yields k H5 z H6 hkt g5 y6
      obtain ⟨hw6, hr6⟩ := hs1 k z acc5 _ hkt hy6 e5 f5
      exact ⟨hw6, _, fun y H7 ⟨e7, l7, f7⟩ => ⟨acc5, e7, l7, acc5 ++ [y], upd_same, by rw [off_upd]; exact f7⟩, hr6⟩
    · have ek : k = m := by omega
      subst ek
      exact .inl ⟨w1.stops H5 g5, acc5, e5, hend _ _ f5⟩
  · have ei : i = n := by omega
    subst ei
    exact .inl ⟨w.stops H g, hd D H acc hD e f⟩
end
section
variable {K : PySem.W.Frag} {j j1 : Nat} {wi1 : TI} {te : TE} {vs vs1 : List Nat} {σ σ2 : L2.St} {Q : VK} {H1 : Hp}
theorem comp2_list {a : Addr} {xs : List V} (F : Nat → List V → Hp → Prop) (h0 : F 0 [] H1) (hG : ∀ i acc G, F i acc G → SqL K G a xs)
    (hs : ∀ D i x acc H', xs[i]? = some x → H1 D = none → H' D = some (.lst acc) → F i acc (off D H') → wipe ((wipe σ vs).set j (some x)) vs = wipe σ vs ∧
      wi1 ((wipe σ vs).set j (some x)) H' (Inner j1 te vs1 ((wipe σ vs).set j (some x)) D acc (F (i + 1))))
    (hd : ∀ D H' acc, H1 D = none → H' D = some (.lst acc) → F xs.length acc (off D H') → Q (.ref D) H') : (∃ ys, SqL K H1 a ys) ∧ Comp2 (Itl K a) j (mcI wi1) j1 (mcE te) vs vs1 σ Q H1 :=
  ⟨⟨xs, hG _ _ _ h0⟩, comp2_by walk_list F h0 (fun i acc H G _ f s => s.seq (hG i acc G f)) (fun D i x acc H' _ hx a b c => hs D i x acc H' hx a b c) hd⟩
theorem comp2_tup {a : Addr} {xs : List V} (F : Nat → List V → Hp → Prop) (h0 : F 0 [] H1) (hG : ∀ i acc G, F i acc G → SqT K G a xs)
    (hs : ∀ D i x acc H', xs[i]? = some x → H1 D = none → H' D = some (.lst acc) → F i acc (off D H') → wipe ((wipe σ vs).set j (some x)) vs = wipe σ vs ∧
      wi1 ((wipe σ vs).set j (some x)) H' (Inner j1 te vs1 ((wipe σ vs).set j (some x)) D acc (F (i + 1))))
    (hd : ∀ D H' acc, H1 D = none → H' D = some (.lst acc) → F xs.length acc (off D H') → Q (.ref D) H') : (∃ ys, SqT K H1 a ys) ∧ Comp2 (Itt K a) j (mcI wi1) j1 (mcE te) vs vs1 σ Q H1 :=
  ⟨⟨xs, hG _ _ _ h0⟩, comp2_by walk_tup F h0 (fun i acc H G _ f s => SqT_same (hG i acc G f) s) (fun D i x acc H' _ hx a b c => hs D i x acc H' hx a b c) hd⟩
/-- the inner clause walks a list and keeps its items -/
theorem inner_flat {b D : Addr} {zs acc0 : List V} {Fend : List V → Hp → Prop} {H4 : Hp} (hD : H4 D = some (.lst acc0)) (hb : SqL K (off D H4) b zs) (hz : acc0.length + zs.length < sizeLine) (hw : ∀ z, wipe ((wipe σ2 vs1).set j1 (some z)) vs1 = wipe σ2 vs1)
    (hv : ∀ z, ((wipe σ2 vs1).set j1 (some z))[j1]? = some (some z)) (he : ∀ G, Same (off D H4) G → Fend (acc0 ++ zs) G) : (∃ ys, SqL K H4 b ys) ∧ Inner j1 (gVar j1) vs1 σ2 D acc0 Fend (Itl K b) H4 := by
  refine ⟨⟨zs, off_same.seq hb⟩, hD, zs.length, fun H => SqL K H b zs, fun i x => zs[i]? = some x, fun k acc G => Same (off D H4) G ∧ acc = acc0 ++ zs.take k, walk_list, ⟨Same.refl _, by simp⟩, fun k acc H G _ f s => s.seq (f.1.seq hb), fun k z acc H5 hk hz5 e5 f5 => ⟨hw z, ?_⟩, fun acc G f => ?_⟩
  · unfold gVar
    rw [hv z]
    dsimp only
    refine ⟨e5, ?_, f5.1, ?_⟩
    · rw [f5.2, List.length_append, List.length_take]; omega
    · rw [f5.2, List.append_assoc, List.take_add_one, hz5]; rfl
  · obtain ⟨s, rfl⟩ := f
    rw [List.take_length]
    exact he G s
end
/-! ### xs[::-1] -/
section
variable {X : Cx}
def gRevL (K : PySem.W.Frag) (te : TE) : TE := fun σ H Q => te σ H fun x H1 => match x with
  | .ref a => ∃ xs, SqL K H1 a xs ∧ ∀ p H2, H1 p = none → Same H1 H2 → H2 p = some (.lst xs.reverse) → Q (.ref p) H2
  | _ => False
end
end GG
/-! t[::-1] of a tuple, xs[::-1] of a list -/
namespace GG
open PySem PySem.Spec L2 PyProof.Rows
section
variable {prog : Program} {w : World} {A : Around} {E : Value → Shared → Prop} {s : Shared}
theorem rev_places (n : Nat) : Builtin.Slice.slicePlaces ((n : Int) - 1) (-1) (-1) = n := by
  unfold Builtin.Slice.slicePlaces
  have h1 : ¬ ((-1 : Int) > 0) := by omega
  simp only [h1, if_false]
  split
  · have e : (-(-1) : Int) = 1 := by omega
    rw [e, Int.ediv_one]; omega
  · omega
theorem fm_congr {α β : Type} {f g : α → Option β} : ∀ {l : List α}, (∀ m ∈ l, f m = g m) → l.filterMap f = l.filterMap g
  | [], _ => rfl
  | a :: l, h => by
    rw [List.filterMap_cons, List.filterMap_cons, h a (List.mem_cons_self ..), fm_congr fun m hm => h m (List.mem_cons_of_mem _ hm)]
theorem rev_pick (xs : Array Value) : ((List.range xs.size).filterMap fun (m : Nat) => xs[(((xs.size : Int) - 1) + (m : Int) * (-1)).toNat]?) = xs.toList.reverse := by
  have e : (List.range xs.size).filterMap (fun (m : Nat) => xs[(((xs.size : Int) - 1) + (m : Int) * (-1)).toNat]?) = ((List.range xs.size).map fun k => xs.size - 1 - k).filterMap (xs[·]?) := by
    rw [List.filterMap_map]
    refine fm_congr fun m hm => ?_
    have hm := List.mem_range.mp hm
    have q : (((xs.size : Int) - 1) + (m : Int) * (-1)).toNat = xs.size - 1 - m := by omega
    show _ = xs[xs.size - 1 - m]?
    rw [q]
  rw [e, PySem.W.krv_range, List.filterMap_reverse, PySem.W.krv_all]
theorem tup_rev {t sl : Addr} {items : Array Value} {vl vu vs : Value} {Q : Value → Shared → Prop} (ht : IsTup s.heap t items) (hs : s.heap.IsSliceOf sl vl vu vs) (pl : IsPart vl none) (pu : IsPart vu none) (ps : IsPart vs (some (-1)))
    (h : Q (.ref s.heap.objs.size) { s with heap := s.heap.push { cls := .type "tuple", data := .seq items.toList.reverse.toArray } }) (hsz : items.size ≤ sizeLine) : wpAny (model prog w) A (getItem (.ref t) (.ref sl)) Q E s := by
  have hfit : sizeOk (.seq items.toList.reverse.toArray) := by
    show items.toList.reverse.toArray.size ≤ sizeLine
    simpa using hsz
  obtain ⟨os, hos, hcs, hds⟩ := id hs
  have hTs : s.TypeIs (.ref sl) "slice" := ⟨os, hos, hcs⟩
  have happ : ∀ {R : Int × Int × Nat → Shared → Prop} {A' : Around} {E' : Value → Shared → Prop}, R (((items.size : Int) - 1), -1, items.size) s → wpAny (model prog w) A' (Builtin.Slice.sliceApplied (.ref sl) (pure (items.size : Int))) R E' s := by
    intro R A' E' r
    unfold Builtin.Slice.sliceApplied Builtin.Slice.sliceFields
    refine wpAny_bind (wpAny_bind (wpAny_field hos hds (x := vl) rfl (wpAny_bind (wpAny_field hos hds (x := vu) rfl (wpAny_bind (wpAny_field hos hds (x := vs) rfl (wpAny_pure ?_)))))))
    refine wpAny_bind (HT.slicePart_ ps ?_)
    show wpAny _ _ (if ((-1 : Int) == 0) = true then _ else _) _ _ s
    rw [if_neg (by decide)]
    refine wpAny_bind (HT.slicePart_ pl (wpAny_bind (HT.slicePart_ pu (wpAny_bind (wpAny_pure ?_)))))
    show wpAny _ _ (pure (((items.size : Int) - 1), (-1 : Int), Builtin.Slice.slicePlaces ((items.size : Int) - 1) (-1) (-1))) _ _ s
    rw [rev_places]
    exact wpAny_pure r
  unfold getItem
  try with_reducible refine wpAny_holding ?_
  first | refine wpAny_bind (wpAny_pure ?_) | skip
  refine wpAny_bind (wpAny_sequenceKey ht.typeIs (by decide) ?_)
  refine wpAny_bind (wpAny_callSpecial?_slot (name := Str.ofString "__getitem__") ht.typeIs PyProof.Rows.slot_tuple_getitem
    (wpAny_call_entry PyProof.Rows.slot_tuple_getitem ht.typeIs entry_tuple_getitem ?_ (args_tuple_getitem _ _)))
  show wpAny _ _ (Builtin.Tuple.tupleItemsOf (.ref t) >>= _) _ _ s
  refine wpAny_bind (PyProof.Rows.tupleItemsOf_ ht ?_)
  refine wpAny_bind (wpAny_typeOf hTs ?_)
  rw [if_pos (by decide)]
  refine wpAny_bind (happ ?_)
  show wpAny _ _ (if ((((items.size : Int) - 1) == 0 && (-1 : Int) == 1 && items.size == items.size) = true) then _ else _) _ _ s
  rw [if_neg (by intro q; rw [Bool.and_eq_true, Bool.and_eq_true] at q; exact absurd q.1.2 (by decide)), rev_pick]
  first
    | exact wpAny_bind (m := Builtin.Tuple.tupleExact _) (wpAny_newObj_type (wpAny_pure ⟨_, rfl, wpAny_pure h⟩) hfit)
    | exact wpAny_bind (wpAny_bind (m := Builtin.Tuple.tupleExact _) (wpAny_newObj_type (wpAny_pure ⟨_, rfl, wpAny_pure h⟩) hfit))
    | exact wpAny_bind (m := Builtin.Tuple.tupleExact _) (wpAny_newObj_type (wpAny_bind (wpAny_pure (wpAny_pure ⟨_, rfl, wpAny_pure h⟩))) hfit)
end
section
variable {X : Cx} {e : Expr} {te : TE} {k : Nat} {p1 p2 p3 pos : Pos}
def gRevT (K : PySem.W.Frag) (te : TE) : TE := fun σ H Q => te σ H fun x H1 => match x with
  | .ref a => ∃ xs, SqT K H1 a xs ∧ ∀ p H2, H1 p = none → Same H1 H2 → H2 p = some (.tup xs.reverse) → Q (.ref p) H2
  | _ => False
theorem k_revT (K : PySem.W.Frag) (hK : X.K = K) (he : PE X e te) : PE X (.Subscript e (.Slice none none (some (.UnaryOp .USub (.Constant (.int 1) k p1) p2)) p3) pos) (gRevT K te) := by
  subst hK
  refine ⟨fun pins s σ H Q I h => ?_⟩
  refine Subscript_ (thn (he.run pins s σ H _ I h) fun v s1 ⟨x, H1, I1, r1, q1⟩ => ?_)
  dsimp only at q1
  split at q1
  next a =>
    obtain ⟨xs, hx, q⟩ := q1
    cases r1
    have hst : PO X (some (.UnaryOp .USub (.Constant (.int 1) k p1) p2)) (tPart (tUn (rU fun i => .int (-i)) (tC (.int 1)))) := po_some (pe_un un_neg pe_int)
    refine wpAny_Slice (thn (po_none.run pins s1 σ H1 (fun o H2 => o = none ∧ H2 = H1) I1 ⟨rfl, rfl⟩) fun vl s2 ⟨l, H2, I2, pl, el, e2⟩ => ?_)
    subst el e2
    refine thn (po_none.run pins s2 σ H2 (fun o H3 => o = none ∧ H3 = H2) I2 ⟨rfl, rfl⟩) fun vu s3 ⟨u, H3, I3, pu, eu, e3⟩ => ?_
    subst eu e3
    refine thn (hst.run pins s3 σ H3 (fun o H4 => o = some (-1) ∧ H4 = H3) I3 ⟨1, rfl, -1, rfl, rfl, rfl⟩) fun vs s4 ⟨o, H4, I4, ps, eo, e4⟩ => ?_
    subst eo e4
    have I5 : L2.Inv X pins σ H4 { s4 with heap := s4.heap.push { cls := .type "slice", data := .fields #[vl, vu, vs] } } := I4.kept (t' := s4.toks) fun b ob q => Heap.get?_push_of_some _ q
    obtain ⟨its, r, ht, hz⟩ := I5.tuple hx
    have hlen := r.length
    show wpAny (model X.prog X.w) X.A (subscriptTail e (.Slice none none (some (.UnaryOp .USub (.Constant (.int 1) k p1) p2)) p3) (.ref a) (.ref s4.heap.objs.size)) (EP X pins σ Q) X.xe { s4 with heap := s4.heap.push { cls := .type "slice", data := .fields #[vl, vu, vs] } }
    refine tail_any (ops := [.ref a, .ref s4.heap.objs.size]) ht.typeIs (PyProof.Rows.slot_tuple_getitem.lookup) ?_ (by with_unfolding_all rfl)
    refine tup_rev ht (Heap.IsSliceOf.new _ vl vu vs) pl pu ps ?_ (by rw [List.size_toArray]; omega)
    refine ⟨.ref _, _, I5.laid (t' := s4.toks) (o := .tup xs.reverse) (fun b ob q => Heap.get?_push_of_some _ q) (Nat.le_refl _) ?_, rfl, q _ _ (I5.hok.fresh (Nat.le_refl _)) (Sm.new (I5.hok.fresh (Nat.le_refl _))) upd_same⟩
    exact ⟨by rw [List.length_reverse]; exact hz, _, r.reverse, IsTup.new _ _⟩
  next => exact q1.elim
theorem k_revL (K : PySem.W.Frag) (hK : X.K = K) (he : PE X e te) : PE X (.Subscript e (.Slice none none (some (.UnaryOp .USub (.Constant (.int 1) k p1) p2)) p3) pos) (gRevL K te) := by
  subst hK
  exact PEi (pe_revL (PEm he)) fun σ H Q q => ⟨_, fun x H1 r => by
    split at r
    · obtain ⟨xs, h1, h2⟩ := r
      exact ⟨_, xs, rfl, h1, fun p hp => h2 p _ hp (Sm.new hp) upd_same⟩
    · exact r.elim, q⟩
def rNegG : V → Hp → VK → Prop := fun x H Q => match x with
  | .int i => Q (.int (-i)) H
  | _ => False
theorem un_negG : UnR X (unaryOp .USub) rNegG := fun pins s σ H x v Q I rx h => by
  unfold rNegG at h
  split at h
  · exact un_neg pins s σ H _ v Q I rx ⟨_, rfl, h⟩
  · exact h.elim
end
end GG
namespace GG
open PySem PySem.Spec L2
open PyProof.Rows (envOfC)
section
variable {P : Program} {w : World} {K : PySem.W.Frag} {mg : Str → Option Value} {base : Heap} {k : Nat} {sp : Sp} {N ps : List Str} {st : Stmt}
/-- a def by its body, the function object said -/
theorem fo_by {x : Str} {f : Addr} {fd : FuncData} (F : FunD K x x (defArgs st) (defBody st) (defScope st) [] [] f fd) (S : FnScope N ps (defScope st)) (len : ∀ vs H Q E, sp vs H Q E → vs.length = ps.length)
    (hb : ∀ (g : Addr) (cdv : Value) (A : Around) (outer : List Env) (s : Shared) (H : Hp) (vs : List V) (Q : VK) (E : XK), Room k (A.deeper (envOfC x (defScope st) s.heap.objs.size g cdv)) → sp vs H Q E →
      ∃ t, PSs (cxOf CX0 P w K mg base N x (defScope st) g cdv A outer s H E).nox (defBody st) t ∧ t { nx := fun _ H' => Q .non H', rt := Q } (start N vs) H) : FnOk P w K mg base CX0 (k + 1) f fd ps sp :=
  F.ok S len fun cdv A outer s H vs Q E hr h => (hb f cdv A outer s H vs Q E hr h).imp fun t q => ⟨q.1.nox, q.2⟩
end
end GG
/-! comprehensions clause by clause: one loop for a clause of any comprehension, whatever its body -/
namespace GG
open PySem PySem.Spec L2 PyProof.Rows
def turnOf (p : Pos) (it : Value) (t0 : Expr) (ifs : List Expr) (env : Env) (go : Sem PySem.Fin → Sem PySem.Fin) (k : Sem PySem.Fin) : Sem PySem.Fin := do
  standAt p
  match ← pyNext it with
  | none => pure (.done .next)
  | some v =>
    letOwnedTupleGo t0 it v
    assign t0 env v
    let mut ok := true
    for c in ifs do
      if ok then ok ← isTrue c env (eval c env)
    if ok then go k else k
abbrev TB := L2.St → Hp → (Hp → Prop) → Prop
/-- a clause's body leaves, for what comes behind it, a heap with N; the slots ws may have been stored -/
def Body (Y : Cx) (ws : List Nat) (go : Sem PySem.Fin → Sem PySem.Fin) (tb : TB) : Prop :=
  ∀ (pins : List (Addr × Obj)) (s : Shared) (σ : L2.St) (H : Hp) (N : Hp → Prop) (k : Sem PySem.Fin) (QF : PySem.Fin → Shared → Prop) (E : Value → Shared → Prop), Inv Y pins σ H s → tb σ H N →
    (∀ s' H', Inv Y pins (wipe σ ws) H' s' → N H' → wpAny (model Y.prog Y.w) Y.A k QF E s') → wpAny (model Y.prog Y.w) Y.A (go k) QF E s
/-- what one clause is asked, from H0 on, so that F holds behind its loop -/
def Cl (J : It) (g : TG) (tt : TT) (tb : TB) (vs : List Nat) (σ : L2.St) (H0 : Hp) (F : Hp → Prop) : Prop :=
  ∃ W : Nat → Nat → Hp → Prop, (∃ m, W 0 m H0) ∧ ∀ i m H, W i m H → (J.stop i H ∧ F H) ∨ (J.go i H ∧ ∃ Nx : Hp → Prop, (∀ H', Nx H' → ∃ m', m' < m ∧ W (i + 1) m' H') ∧
    ∀ x H', J.yld i H x H' → g x (wipe σ vs) H' fun σ2 H2 => wipe σ2 vs = wipe σ vs ∧ tt σ2 H2 fun b H3 => if b = true then tb σ2 H3 Nx else Nx H3)
section
variable {Y : Cx} {e t0 : Expr} {idx : Nat} {it : Addr} {acc : Value} {p : Pos} {ifs : List Expr} {go : Sem PySem.Fin → Sem PySem.Fin} {fp : List Addr} {tn : Nat → Heap → Prop} {J : It} {g : TG} {tt : TT} {tb : TB} {vs ws : List Nat} {σ : L2.St} {H0 : Hp} {F : Hp → Prop} {pins : List (Addr × Obj)} {R : Result → Shared → Prop} {s : Shared}
theorem thnX {α : Type} {t : Sem α} {M : Model} {A : Around} {X E : Value → Shared → Prop} {Q Q' : α → Shared → Prop} (hx : ∀ e s, X e s → False) (h : wpAny M A t Q X s) (hQ : ∀ a s, Q a s → Q' a s) : wpAny M A t Q' E s := wpAny_mono h hQ fun e s z => (hx e s z).elim
theorem clause_loop (hu : Y.A.under (.compLoop e idx (.ref it) acc Y.env) = Y.A) (hd : (model Y.prog Y.w).den (.compLoop e idx (.ref it) acc Y.env) = (compTurn e idx (.ref it) acc Y.env).onRaise fun x => do noteFrame x Y.env; theTreesLotGoes x) (hc : Y.calm = true) (hx : ∀ e s, Y.xe e s → False) (turn : compTurn e idx (.ref it) acc Y.env = turnOf p (.ref it) t0 ifs Y.env go (again (.compLoop e idx (.ref it) acc Y.env)))
    (T : Turn Y.prog Y.w Y.K t0 J fp it tn) (pg : PG Y t0 g) (pt : PTs Y ifs tt) (pb : Body Y ws go tb) (hw : ∀ i ∈ ws, i ∈ vs) (stat : ∀ H' : Hp, (∀ b ∈ fp, H' b = none) → ∀ b ∈ fp, FpOk Y pins H' b)
    (I : Inv Y pins (wipe σ vs) H0 s) (st : tn 0 s.heap) (nf : ∀ b ∈ fp, H0 b = none) (h : Cl J g tt tb vs σ H0 F) (fin : ∀ s' H', Inv Y pins (wipe σ vs) H' s' → F H' → R (.ok .next) s') :
    codeAny (model Y.prog Y.w) Y.A (.compLoop e idx (.ref it) acc Y.env) R s := by
  obtain ⟨W, ⟨m0, w0⟩, step⟩ := h
  refine codeAny_loop rfl (fun n s' => ∃ i H', Inv Y pins (wipe σ vs) H' s' ∧ tn i s'.heap ∧ (∀ b ∈ fp, H' b = none) ∧ W i n H') (fun n s5 ⟨i, H5, I5, st5, n5, w5⟩ => ?_) m0 ⟨0, H0, I, st, nf, w0⟩
  rw [hu, hd, turn]
  refine wpAny_noted ?_
  unfold turnOf
  refine wpAny_bind (wpAny_standAt (wpAny_bind ?_))
  rcases step i n H5 w5 with ⟨stop, fq⟩ | ⟨goes, Nx, hN, stp⟩
  · refine thnF (T.done Y rfl rfl rfl hc i pins s5 _ H5 (fun _ _ => False) I5 (stat H5 n5) st5 stop) fun r s6 ⟨hr, I6⟩ => ?_
    subst hr; exact wpAny_pure (fin s6 H5 I6 fq)
  · refine thnF (T.item Y rfl rfl rfl hc i pins s5 _ H5 (fun _ _ => False) I5 (stat H5 n5) st5 goes) fun r s6 ⟨u, hr, h6⟩ => ?_
    subst hr
    refine wpAny_bind (thnF h6 fun _ s7 ⟨x, H7, I7, r7, y7, st7, n7⟩ => ?_)
    refine wpAny_bind (thnX hx (pg.run _ s7 _ H7 x u _ (I7.pinned (stat H7 n7) (T.obj _ _ st7)) r7 (stp x H7 y7)) fun _ s8 ⟨σ8, H8, I8, hw8, q8⟩ => ?_)
    refine wpAny_bind (thnX hx (pt.run _ s8 σ8 H8 _ I8 q8) fun b s9 ⟨H9, I9, q9⟩ => ?_)
    have back : ∀ {σ9 : L2.St} {s' : Shared} {H' : Hp}, Inv Y (pins ++ pinsAt fp s7.heap) σ9 H' s' → (wipe σ vs).length = σ9.length → (∀ (j : Nat) v, (wipe σ vs)[j]? = some (some v) → σ9[j]? = some (some v)) → Nx H' →
        ∃ m, m < n ∧ ∃ i H', Inv Y pins (wipe σ vs) H' s' ∧ tn i s'.heap ∧ (∀ b ∈ fp, H' b = none) ∧ W i m H' := fun {σ9 s' H'} I' hl hk nx => by
      obtain ⟨m', hm, w'⟩ := hN H' nx
      have there : ∀ b ∈ fp, ∀ o, s7.heap.get? b = some o → s'.heap.get? b = some o ∧ H' b = none := fun b hb o eo =>
        ⟨(I'.pin (b, o) (List.mem_append_right _ (List.mem_append_right _ (mem_pinsAt hb eo)))).1, (I'.pin (b, o) (List.mem_append_right _ (List.mem_append_right _ (mem_pinsAt hb eo)))).2.1⟩
      exact ⟨m', hm, i + 1, H', (I'.unpinned (pins := pins)).weak hl hk, T.keep _ _ _ st7 fun b hb o eo => (there b hb o eo).1, fun b hb => let ⟨o, eo, _⟩ := T.obj _ _ st7 b hb; (there b hb o eo).2, w'⟩
    have l8 : (wipe σ vs).length = σ8.length := by rw [← hw8, wipe_length]
    have k8 : ∀ (j : Nat) v, (wipe σ vs)[j]? = some (some v) → σ8[j]? = some (some v) ∧ j ∉ vs := fun j v ej => by rw [← hw8] at ej; exact wipe_some ej
    have lp : ∀ (s' : Shared), (∃ m, m < n ∧ ∃ i H', Inv Y pins (wipe σ vs) H' s' ∧ tn i s'.heap ∧ (∀ b ∈ fp, H' b = none) ∧ W i m H') → wpAny (model Y.prog Y.w) Y.A (again (.compLoop e idx (.ref it) acc Y.env))
        (fun fin s' => match fin with | .done f => R (.ok f) s' | .again c' => c' = .compLoop e idx (.ref it) acc Y.env ∧ ∃ m, m < n ∧ ∃ i H', Inv Y pins (wipe σ vs) H' s' ∧ tn i s'.heap ∧ (∀ b ∈ fp, H' b = none) ∧ W i m H') (notedBy (model Y.prog Y.w) Y.A Y.env fun e s' => R (.error e) s') s' := fun s' z => wpAny_pure ⟨rfl, z⟩
    cases b with
    | false => exact lp s9 (back I9 l8 (fun j v ej => (k8 j v ej).1) (by simpa using q9))
    | true =>
      refine pb _ s9 σ8 H9 Nx _ _ _ I9 (by simpa using q9) fun s' H' I' nx => lp s' (back I' (l8.trans (wipe_length σ8 ws).symm) (fun j v ej => ?_) nx)
      obtain ⟨e1, e2⟩ := k8 j v ej
      rw [wipe_out fun z => e2 (hw j z)]; exact e1
end
end GG
/-! sets made by comprehensions, items ints -/
namespace GG
open PySem PySem.Spec L2 PyProof.Rows
/-- the set at a with one more member -/
def moreO (w : World) (a : Addr) (S : Int → Bool) (n : Nat) (c : Int) : HO := SetO w a (fun j => S j || decide (j = c)) (if S c = true then n else n + 1)
section
variable {Y : Cx} {D : Addr} {elt i1 t1 : Expr} {ws vs1 : List Nat} {te : TE} {env : Env}
theorem set_more {pins : List (Addr × Obj)} {σ : L2.St} {H : Hp} {s : Shared} {E : Value → Shared → Prop} {S : Int → Bool} {n : Nat} {c : Int} {v : Value} {Q : Value → Shared → Prop} (I : Inv Y pins σ H s) (hD : H D = some (SetO Y.w D S n)) (room : n + 1 < scanBound) (r : RelV (.int c) v)
    (h : ∀ s', Inv Y pins σ (upd H D (moreO Y.w D S n c)) s' → Q .none s') : wpAny (model Y.prog Y.w) Y.A (call (.builtin "set.add") [.ref D, v]) Q E s := by
  obtain ⟨tk, rfl⟩ := r
  refine setR_add (setO_get I hD) room fun h' sb new => h _ (I.write (e := D) (t' := s.toks + 1) (by rw [hD]; trivial) (.inl rfl) (fun b u hb hu => (sb.2 b hb).trans hu) ?_ (setO_new new))
  obtain ⟨o, _, _, _, ho, _⟩ := new
  exact ⟨o, ho⟩
/-- the last clause's body: the item goes in -/
def tAdd (w : World) (D : Addr) (te : TE) : TB := fun σ H N => te σ H fun y H1 => match y with
  | .int c => ∃ S n, H1 D = some (SetO w D S n) ∧ n + 1 < scanBound ∧ ∀ H2, SameX D H1 H2 → H2 D = some (moreO w D S n c) → N H2
  | _ => False
def goAdd (elt : Expr) (acc : Value) (env : Env) (k : Sem PySem.Fin) : Sem PySem.Fin := (do let v ← eval elt env; standAt elt.pos; let _ ← call (.builtin "set.add") [acc, v]) >>= fun (_ : Unit) => k
theorem body_add (hx : ∀ e s, Y.xe e s → False) (he : PE Y elt te) : Body Y [] (goAdd elt (.ref D) Y.env) (tAdd Y.w D te) := by
  intro pins s σ H N k QF E I h hk
  unfold goAdd
  refine wpAny_bind (wpAny_bind (thnX hx (he.run pins s σ H _ I h) fun v s1 ⟨y, H1, I1, r1, q1⟩ => ?_))
  refine wpAny_bind (wpAny_standAt (wpAny_bind ?_))
  dsimp only at q1
  split at q1
  next c =>
    obtain ⟨S, n, hD, room, q⟩ := q1
    exact set_more I1 hD room r1 fun s2 I2 => wpAny_pure (hk s2 _ I2 (q _ SameX.upd upd_same))
  next => exact q1.elim
/-- a clause's body that is another clause -/
def tIn (wi1 : TI) (g1 : TG) (tt1 : TT) (tb1 : TB) (vs1 : List Nat) : TB := fun σ H N => wi1 σ H fun J1 H1 => Cl J1 g1 tt1 tb1 vs1 σ H1 N
def goIn (e i1 : Expr) (idx : Nat) (acc : Value) (env : Env) (k : Sem PySem.Fin) : Sem PySem.Fin := do
  let x ← eval i1 env
  standAt i1.pos
  let x ← foldedSetIterable i1 env x
  let _ ← runOwn (.compStart e idx (← holding [x] (pyIter x)) acc env) env
  k
/-- how a clause's loop is come to -/
def Starts (Y : Cx) (e : Expr) (idx : Nat) (acc : Value) : Prop := ∀ (it : Value) (s : Shared) (R : Result → Shared → Prop), codeAny (model Y.prog Y.w) Y.A (.compLoop e idx it acc Y.env) R s →
  (wpAny (model Y.prog Y.w) Y.A (pyIter it) (fun it' s' => codeAny (model Y.prog Y.w) Y.A (.compLoop e idx it' acc Y.env) R s') (notedBy (model Y.prog Y.w) Y.A Y.env fun x s' => R (.error x) s') s) → codeAny (model Y.prog Y.w) Y.A (.compStart e idx it acc Y.env) R s
theorem body_in {e : Expr} {idx : Nat} {acc : Value} {p : Pos} {ifs1 : List Expr} {go1 : Sem PySem.Fin → Sem PySem.Fin} {wi1 : TI} {g1 : TG} {tt1 : TT} {tb1 : TB} (hc : Y.calm = true) (hx : ∀ e s, Y.xe e s → False) (hs : ∀ x, foldedSetIterable i1 Y.env x = pure x) (hst : Starts Y e idx acc)
    (hu : ∀ it : Addr, Y.A.under (.compLoop e idx (.ref it) acc Y.env) = Y.A) (hd : ∀ it : Addr, (model Y.prog Y.w).den (.compLoop e idx (.ref it) acc Y.env) = (compTurn e idx (.ref it) acc Y.env).onRaise fun x => do noteFrame x Y.env; theTreesLotGoes x)
    (turn : ∀ it : Addr, compTurn e idx (.ref it) acc Y.env = turnOf p (.ref it) t1 ifs1 Y.env go1 (again (.compLoop e idx (.ref it) acc Y.env)))
    (hi1 : PI Y t1 i1 wi1) (pg1 : PG Y t1 g1) (pt1 : PTs Y ifs1 tt1) (pb1 : Body Y ws go1 tb1) (hw : ∀ i ∈ ws, i ∈ vs1) : Body Y vs1 (goIn e i1 idx acc Y.env) (tIn wi1 g1 tt1 tb1 vs1) := by
  intro pins s σ H N k QF E I h hk
  unfold goIn
  refine wpAny_bind (thnX hx (hi1.run pins s σ H _ I h) fun x s1 h1 => ?_)
  refine wpAny_bind (wpAny_standAt (wpAny_bind (wpAny_of_eq (hs x) (wpAny_bind (wpAny_holding (thnX hx h1 fun itv s2 h2 => ?_))))))
  obtain ⟨it, fp, tn, J1, H2, e1, I2, T, st2, f2, cl⟩ := h2
  subst e1
  refine wpAny_bind (wpAny_runOwn ?_)
  rw [Around.mark_none]
  have loop : codeAny (model Y.prog Y.w) Y.A (.compLoop e idx (.ref it) acc Y.env) (fun r s' => match r with
      | .ok _ => wpAny (model Y.prog Y.w) Y.A k QF E s'
      | .error e => cameBackBy (model Y.prog Y.w) Y.A Y.env E e s') s2 :=
    clause_loop (hu it) (hd it) hc hx (turn it) T pg1 pt1 pb1 hw (fun H' hn b hb => ⟨hn b hb, (f2 b hb).2⟩) (I2.weak (wipe_length _ _) fun j v ej => (wipe_some ej).1) st2 (fun b hb => (f2 b hb).1) cl fun s' H' I' n' => hk s' H' I' n'
  exact codeAny_mono (hst (.ref it) s2 _ loop (T.self Y.A 0 _ _ _ st2 loop)) fun r s' hr => by
    cases r with
    | ok f => exact hr
    | error e => exact hr
end
end GG
/-! the set as a value -/
namespace GG
open PySem PySem.Spec L2 PyProof.Rows
/-- {.. for tg in iter if .. (for ..)} -/
def tSet (w : World) (wi : TI) (g : TG) (tt : TT) (tb : Addr → TB) (vs : List Nat) : TE := fun σ H Q => wi σ H fun J H1 => ∀ D H2, H1 D = none → Same H1 H2 → off D H2 = H1 → H2 D = some (SetO w D (fun _ => false) 0) → Cl J g tt (tb D) vs σ H2 fun H3 => Q (.ref D) H3
section
variable {X : Cx} {elt tg iter : Expr} {ifs : List Expr} {rest : List Comprehension} {scope : Scope} {own : List (Str × Nat)} {pos : Pos} {wi : TI} {g : TG} {tt : TT} {tb : Addr → TB} {ws : List Nat}
theorem pe_set (go : Env → Value → Sem PySem.Fin → Sem PySem.Fin) (hc : X.calm = true) (hN : X.N.Nodup) (hi : PI X tg iter wi) (ok : BlkOk X.N X.env.scope scope own) (hw : ∀ i ∈ ws, i ∈ own.map (·.2))
    (hg : ∀ (s : Shared) (H : Hp) (C : Addr) (cl : List (Str × Addr)) (fp : List Addr), PG (X.blk s H scope (compEnvC scope cl C X.env) fp) tg g)
    (ht : ∀ (s : Shared) (H : Hp) (C : Addr) (cl : List (Str × Addr)) (fp : List Addr), PTs (X.blk s H scope (compEnvC scope cl C X.env) fp) ifs tt)
    (hb : ∀ (s : Shared) (H : Hp) (C : Addr) (cl : List (Str × Addr)) (fp : List Addr) (D : Addr), Body (X.blk s H scope (compEnvC scope cl C X.env) fp) ws (go (compEnvC scope cl C X.env) (.ref D)) (tb D))
    (turn : ∀ (env : Env) (it acc : Value), compTurn (.SetComp elt (⟨tg, iter, ifs, 0⟩ :: rest) scope pos) 0 it acc env = turnOf iter.pos it tg ifs env (go env acc) (again (.compLoop (.SetComp elt (⟨tg, iter, ifs, 0⟩ :: rest) scope pos) 0 it acc env)))
    (hs : ∀ x, foldedSetIterable iter X.env x = pure x := by intro _; rfl) : PE X (.SetComp elt (⟨tg, iter, ifs, 0⟩ :: rest) scope pos) (tSet X.w wi g tt tb (own.map (·.2))) := by
  refine ⟨fun pins s σ H Q I h => ?_⟩
  rw [PpSet.eval_SetComp]
  have free : ∀ y ∈ scope.names, y.2 = .free → ∃ c, X.env.cells.lookup y.1 = some c := fun y hy ey => (ok.free y hy ey).elim (fun k => I.ok.has _ (.inl k)) fun k => I.ok.has _ (.inr k)
  refine wpAny_comprehension_free (use := none) rfl hs (closure_ok free) ok.kind (fun y hy ey => (ok.uniq y hy).trans (congrArg some ey)) (thn (hi.run pins s σ H _ I h) fun xv s1 h1 => thn h1 fun itv s2 h2 => ?_)
  obtain ⟨it, fp, tn, J, H2, ei, I2, T, st2, f2, q⟩ := h2
  subst ei
  refine PpSet.newSet_ok (newEnv_comp ?_)
  have hDn : H2 s2.heap.objs.size = none := I2.hok.fresh (Nat.le_refl _)
  have q := q s2.heap.objs.size (upd H2 s2.heap.objs.size (SetO X.w s2.heap.objs.size (fun _ => false) 0)) hDn (Sm.new hDn) (by rw [off_upd, off_free hDn]) upd_same
  have up : ∀ b o, s2.heap.get? b = some o → (s2.heap.push { cls := .type "set", dict := none, data := .set #[] 0 (.fresh 0 0 (!X.w.params.followText "set-order")) }).get? b = some o := fun b o eo => Heap.get?_push_of_some _ eo
  have I3 : Inv X pins σ (upd H2 s2.heap.objs.size (SetO X.w s2.heap.objs.size (fun _ => false) 0)) { s2 with heap := s2.heap.push { cls := .type "set", dict := none, data := .set #[] 0 (.fresh 0 0 (!X.w.params.followText "set-order")) } } :=
    I2.laid (t' := s2.toks) up (Nat.le_refl _) (setO_new (setR_fresh X.w))
  have lt : ∀ b ∈ fp, b < s2.heap.objs.size := fun b hb => let ⟨o, eo, _⟩ := T.obj _ _ st2 b hb; Heap.lt_size eo
  generalize hO : SetO X.w s2.heap.objs.size (fun _ => false) 0 = o0 at q I3
  generalize hD : s2.heap.objs.size = D at q I3 hDn lt hO ⊢
  generalize hS3 : ({ s2 with heap := s2.heap.push { cls := .type "set", dict := none, data := .set #[] 0 (.fresh 0 0 (!X.w.params.followText "set-order")) } } : Shared) = s3 at I3
  have e3 : s3.heap = s2.heap.push { cls := .type "set", dict := none, data := .set #[] 0 (.fresh 0 0 (!X.w.params.followText "set-order")) } := by rw [← hS3]
  have f3 : ∀ b ∈ fp, FpOk X pins (upd H2 D o0) b ∧ b < s3.heap.objs.size := fun b hb =>
    ⟨⟨by rw [upd_ne (Nat.ne_of_lt (lt b hb))]; exact (f2 b hb).1, (f2 b hb).2⟩, by rw [e3, Heap.size_push, hD]; exact Nat.lt_succ_of_lt (lt b hb)⟩
  have B := block_start I3 ok hN f3
  have st4 : tn 0 (pushCells (s3.heap.push { cls := .type "dict", data := .dict #[] }) scope.names) := T.keep _ _ _ st2 fun b _ o eo => pushCells_keeps _ _ _ _ (Heap.get?_push_of_some _ (by rw [e3]; exact up b o eo))
  have gg := hg s3 (upd H2 D o0) s3.heap.objs.size (cellsFrom (s3.heap.objs.size + 1) scope.names (cloFrom X.env.cells scope.names [])) fp
  have tt' := ht s3 (upd H2 D o0) s3.heap.objs.size (cellsFrom (s3.heap.objs.size + 1) scope.names (cloFrom X.env.cells scope.names [])) fp
  have bb := hb s3 (upd H2 D o0) s3.heap.objs.size (cellsFrom (s3.heap.objs.size + 1) scope.names (cloFrom X.env.cells scope.names [])) fp D
  have stat : ∀ H' : Hp, (∀ b ∈ fp, H' b = none) → ∀ b ∈ fp, FpOk (X.blk s3 (upd H2 D o0) scope (compEnvC scope (cellsFrom (s3.heap.objs.size + 1) scope.names (cloFrom X.env.cells scope.names [])) s3.heap.objs.size X.env) fp) [] H' b := fun H' hn b hb =>
    ⟨hn b hb, (B.ok.exf b hb).1, B.ok.exfs b hb, .inl hb, fun x c eo => (B.ok.exf b hb).2 x c eo, fun p hp => absurd (show p ∈ ([] : List (Addr × Obj)) ++ [] from hp) (by simp)⟩
  have loop := clause_loop (Y := X.blk s3 (upd H2 D o0) scope (compEnvC scope (cellsFrom (s3.heap.objs.size + 1) scope.names (cloFrom X.env.cells scope.names [])) s3.heap.objs.size X.env) fp) (pins := []) (R := compPost (model X.prog X.w) X.A X.xe none (EP X pins σ Q) (.ref D) s3.heap.objs.size) rfl rfl hc (fun _ _ z => z) (turn _ _ _) T gg tt' bb hw stat B st4 (fun b hb => (f3 b hb).1.1) q fun s6 H6 I6 qq => by
    have back : Inv X pins σ H6 s6 := I3.call' (ch := fp) I6.os I6.base I6.hok I6.bare fun b hb => ⟨(f3 b hb).1.2.2.2.1, (f3 b hb).1.2.1, (f3 b hb).1.2.2.2.2.1, (f3 b hb).1.2.2.2.2.2⟩
    obtain ⟨m, hn, _⟩ := I6.loc
    have fr : FpOk X pins H6 s3.heap.objs.size := I3.fpOk (Nat.le_refl _) I6.free
    refine ⟨m, hn, fun h'' sb => ?_⟩
    obtain ⟨f0, f1, f2, f3, f4, f5⟩ := fr
    exact ⟨.ref D, H6, back.turned (t' := s6.toks) (fun b o hb eo => (sb.2 b hb).trans eo) f0 f1 f3 f4 f5, rfl, qq⟩
  exact PpSet.codeAny_compStart_set loop (T.self X.A 0 _ _ _ st4 loop)
end
end GG
namespace GG
open PySem PySem.Spec L2 PyProof.Rows
section
variable {X : Cx} {elt tg iter tg1 iter1 : Expr} {ifs ifs1 : List Expr} {scope : Scope} {own : List (Str × Nat)} {pos : Pos} {wi wi1 : TI} {g g1 : TG} {tt tt1 : TT} {te : TE} {vs1 : List Nat}
/-- {elt for tg in iter if ..} -/
theorem k_set1 (w : World) (hw : X.w = w) (hc : X.calm = true) (hN : X.N.Nodup) (hi : PI X tg iter wi) (ok : BlkOk X.N X.env.scope scope own)
    (hg : ∀ (s : Shared) (H : Hp) (C : Addr) (cl : List (Str × Addr)) (fp : List Addr), PG (X.blk s H scope (compEnvC scope cl C X.env) fp) tg g)
    (ht : ∀ (s : Shared) (H : Hp) (C : Addr) (cl : List (Str × Addr)) (fp : List Addr), PTs (X.blk s H scope (compEnvC scope cl C X.env) fp) ifs tt)
    (he : ∀ (s : Shared) (H : Hp) (C : Addr) (cl : List (Str × Addr)) (fp : List Addr), PE (X.blk s H scope (compEnvC scope cl C X.env) fp) elt te) (hs : ∀ x, foldedSetIterable iter X.env x = pure x := by intro _; rfl) :
    PE X (.SetComp elt [⟨tg, iter, ifs, 0⟩] scope pos) (tSet w wi g (mcT tt) (fun D => tAdd w D te) (own.map (·.2))) := by
  subst hw
  exact pe_set (ws := []) (goAdd elt |> fun f env acc => f acc env) hc hN hi ok (fun i z => by simp at z) hg (fun s H C cl fp => PTsm (ht s H C cl fp)) (fun s H C cl fp D => body_add (fun _ _ z => z) (he s H C cl fp)) (fun env it acc => by rfl) hs
theorem starts_set {Y : Cx} {acc : Value} {c0 : Comprehension} : Starts Y (.SetComp elt [c0, ⟨tg1, iter1, ifs1, 0⟩] scope pos) 1 acc := by
  intro it s R h0 h1
  refine codeAny_of_tree ?_
  show wpAny _ _ ((compStart (.SetComp elt [c0, ⟨tg1, iter1, ifs1, 0⟩] scope pos) 1 it acc Y.env).onRaise (fun x => do noteFrame x Y.env; standAt theWindowsPlace)) _ _ s
  refine wpAny_notedAt ?_
  unfold compStart; show wpAny _ _ (ask >>= _) _ _ s
  refine wpAny_bind (wpAny_askSetting (wpAny_ite ?_))
  split
  · first | exact wpAny_bind (wpAny_pure (wpAny_pure ⟨rfl, h0⟩)) | exact wpAny_pure ⟨rfl, h0⟩
  · refine wpAny_bind (wpAny_rule ?_)
    show wpAny _ _ (standAt iter1.pos >>= _) _ _ s
    exact wpAny_bind (wpAny_standAt (wpAny_bind (wpAny_mono h1 (fun it' s' h' => wpAny_pure ⟨rfl, h'⟩) fun _ _ x => x)))
/-- {elt for tg in iter if .. for tg1 in iter1 if ..} -/
theorem k_set2 (w : World) (hw : X.w = w) (hc : X.calm = true) (hN : X.N.Nodup) (hi : PI X tg iter wi) (ok : BlkOk X.N X.env.scope scope own) (hv : ∀ i ∈ vs1, i ∈ own.map (·.2))
    (hg : ∀ (s : Shared) (H : Hp) (C : Addr) (cl : List (Str × Addr)) (fp : List Addr), PG (X.blk s H scope (compEnvC scope cl C X.env) fp) tg g)
    (ht : ∀ (s : Shared) (H : Hp) (C : Addr) (cl : List (Str × Addr)) (fp : List Addr), PTs (X.blk s H scope (compEnvC scope cl C X.env) fp) ifs tt)
    (hi1 : ∀ (s : Shared) (H : Hp) (C : Addr) (cl : List (Str × Addr)) (fp : List Addr), PI (X.blk s H scope (compEnvC scope cl C X.env) fp) tg1 iter1 wi1)
    (hg1 : ∀ (s : Shared) (H : Hp) (C : Addr) (cl : List (Str × Addr)) (fp : List Addr), PG (X.blk s H scope (compEnvC scope cl C X.env) fp) tg1 g1)
    (ht1 : ∀ (s : Shared) (H : Hp) (C : Addr) (cl : List (Str × Addr)) (fp : List Addr), PTs (X.blk s H scope (compEnvC scope cl C X.env) fp) ifs1 tt1)
    (he : ∀ (s : Shared) (H : Hp) (C : Addr) (cl : List (Str × Addr)) (fp : List Addr), PE (X.blk s H scope (compEnvC scope cl C X.env) fp) elt te) (hs : ∀ x, foldedSetIterable iter X.env x = pure x := by intro _; rfl) (hs1 : ∀ env x, foldedSetIterable iter1 env x = pure x := by intro _ _; rfl) :
    PE X (.SetComp elt [⟨tg, iter, ifs, 0⟩, ⟨tg1, iter1, ifs1, 0⟩] scope pos) (tSet w wi g (mcT tt) (fun D => tIn wi1 g1 (mcT tt1) (tAdd w D te) vs1) (own.map (·.2))) := by
  subst hw
  exact pe_set (ws := vs1) (fun env acc => goIn (.SetComp elt [⟨tg, iter, ifs, 0⟩, ⟨tg1, iter1, ifs1, 0⟩] scope pos) iter1 1 acc env) hc hN hi ok hv hg (fun s H C cl fp => PTsm (ht s H C cl fp))
    (fun s H C cl fp D => body_in (p := iter1.pos) (ws := []) (go1 := fun k => goAdd elt (.ref D) (compEnvC scope cl C X.env) k) hc (fun _ _ z => z) (hs1 _) starts_set (fun _ => rfl) (fun _ => rfl) (fun it => by rfl) (hi1 s H C cl fp) (hg1 s H C cl fp) (PTsm (ht1 s H C cl fp)) (body_add (fun _ _ z => z) (he s H C cl fp)) (fun i z => by simp at z))
    (fun env it acc => by rfl) hs
end
end GG
/-! list comprehensions with any target; dicts with text keys; sorted sets -/
namespace GG
open PySem PySem.Spec L2
section
variable {X : Cx} {elt tg iter : Expr} {ifs : List Expr} {scope : Scope} {own : List (Str × Nat)} {pos : Pos} {te : TE} {tt : TT} {g : TG}
@[irreducible] def CompG (J : It) (g : TG) (tt : TT) (te : TE) (vs : List Nat) (σ : L2.St) (Q : VK) (H1 : Hp) : Prop := ∀ D, H1 D = none → ∃ W : Nat → Nat → Hp → Prop, (∃ m, W 0 m (upd H1 D (.lst []))) ∧ ∀ i m H, W i m H →
  (J.stop i H ∧ Q (.ref D) H) ∨ (J.go i H ∧ ∃ Nx : Hp → Prop, (∀ H', Nx H' → ∃ m', m' < m ∧ W (i + 1) m' H') ∧ ∀ x H', J.yld i H x H' → g x (wipe σ vs) H' fun σ2 H2 => wipe σ2 vs = wipe σ vs ∧ tt σ2 H2 fun b H3 =>
    if b = true then te σ2 H3 fun y H4 => ∃ acc, H4 D = some (.lst acc) ∧ acc.length < sizeLine ∧ Nx (upd H4 D (.lst (acc ++ [y]))) else Nx H3)
def gLcG (wi : TI) (g : TG) (tt : TT) (te : TE) (vs : List Nat) : TE := fun σ H Q => wi σ H fun J H1 => CompG J g (mcT tt) (mcE te) vs σ Q H1
theorem g_lcG {wi : TI} (hc : X.calm = true) (hN : X.N.Nodup) (hi : PI X tg iter wi) (ok : BlkOk X.N X.env.scope scope own)
    (hg : ∀ (s : Shared) (H : Hp) (C : Addr) (cl : List (Str × Addr)) (fp : List Addr), PG (X.blk s H scope (compEnvC scope cl C X.env) fp) tg g)
    (ht : ∀ (s : Shared) (H : Hp) (C : Addr) (cl : List (Str × Addr)) (fp : List Addr), PTs (X.blk s H scope (compEnvC scope cl C X.env) fp) ifs tt)
    (he : ∀ (s : Shared) (H : Hp) (C : Addr) (cl : List (Str × Addr)) (fp : List Addr), PE (X.blk s H scope (compEnvC scope cl C X.env) fp) elt te) (hs : ∀ x, foldedSetIterable iter X.env x = pure x := by intro _; rfl) :
    PE X (.ListComp elt [⟨tg, iter, ifs, 0⟩] scope pos) (gLcG wi g tt te (own.map (·.2))) :=
  PEi (pe_lc hc hN (PIm hi) ok hg (fun s H C cl fp => PTsm (ht s H C cl fp)) (fun s H C cl fp => PEm (he s H C cl fp)) hs) fun σ H Q q => ⟨_, fun J H1 r => by
    unfold CompG at r
    exact r, q⟩
theorem g_setLcG {wi : TI} {i : Nat} {y : Str} {py spos : Pos} (hc : X.calm = true) (hN : X.N.Nodup) (hy : X.N[i]? = some y) (hyl : X.env.scope.names.lookup y = some .local)
    (hsw : swapsWith (.ListComp elt [⟨tg, iter, ifs, 0⟩] scope pos) (some (.Name y py)) spos.line X.env = pure true) (hi : PI X tg iter wi) (ok : BlkOk X.N X.env.scope scope own)
    (hg : ∀ (s : Shared) (H : Hp) (C : Addr) (cl : List (Str × Addr)) (fp : List Addr), PG (X.blk s H scope (compEnvC scope cl C X.env) fp) tg g)
    (ht : ∀ (s : Shared) (H : Hp) (C : Addr) (cl : List (Str × Addr)) (fp : List Addr), PTs (X.blk s H scope (compEnvC scope cl C X.env) fp) ifs tt)
    (he : ∀ (s : Shared) (H : Hp) (C : Addr) (cl : List (Str × Addr)) (fp : List Addr), PE (X.blk s H scope (compEnvC scope cl C X.env) fp) elt te) (hs : ∀ x, foldedSetIterable iter X.env x = pure x := by intro _; rfl) :
    PS X (.Assign [.Name y py] (.ListComp elt [⟨tg, iter, ifs, 0⟩] scope pos) spos) (tAsg (gLcG wi g tt te (own.map (·.2))) (gName i)) :=
  PSi (ps_setLc hc hN hy hyl hsw (PIm hi) ok hg (fun s H C cl fp => PTsm (ht s H C cl fp)) (fun s H C cl fp => PEm (he s H C cl fp)) hs) fun D σ H q => ⟨_, fun J H1 r => by
    unfold CompG at r
    exact r, q⟩
end
section
variable {J : It} {n : Nat} {Gd : Hp → Prop} {Y : Nat → V → Prop} {g : TG} {tt : TT} {te : TE} {vs : List Nat} {σ : L2.St} {Q : VK} {H1 : Hp}
/-- the target's reading is closed upwards -/
def UpG (g : TG) : Prop := ∀ v σ H (Q Q' : L2.St → Hp → Prop), (∀ σ H, Q σ H → Q' σ H) → g v σ H Q → g v σ H Q'
theorem compG_by (ug : UpG g) (w : Walk J n Gd (fun i H x H' => H' = H ∧ Y i x)) (F : Nat → List V → Hp → Prop) (hn : n < sizeLine) (h0 : F 0 [] H1) (hG : ∀ i acc H G, i ≤ n → F i acc G → Same G H → Gd H)
    (hs : ∀ D i x acc H', i < n → Y i x → H1 D = none → H' D = some (.lst acc) → acc.length ≤ i → F i acc (off D H') → g x (wipe σ vs) H' fun σ2 H2 => wipe σ2 vs = wipe σ vs ∧
      tt σ2 H2 fun b H3 => way b (te σ2 H3 fun y H4 => H4 D = some (.lst acc) ∧ F (i + 1) (acc ++ [y]) (off D H4)) (H3 D = some (.lst acc) ∧ F (i + 1) acc (off D H3)))
    (hd : ∀ D H' acc, H1 D = none → H' D = some (.lst acc) → acc.length ≤ n → F n acc (off D H') → Q (.ref D) H') : CompG J g (mcT tt) (mcE te) vs σ Q H1 := by
  unfold CompG
  intro D hD
  refine ⟨fun i m H => m = n - i ∧ i ≤ n ∧ ∃ acc, H D = some (.lst acc) ∧ acc.length ≤ i ∧ F i acc (off D H), ⟨n, by simp, Nat.zero_le _, [], upd_same, Nat.le_refl _, by rw [off_upd, off_free hD]; exact h0⟩, ?_⟩
  rintro i m H ⟨rfl, hi, acc, e, l, f⟩
  have gd := hG i acc H _ hi f off_same
  by_cases hlt : i < n
  · refine .inr ⟨w.goes i H hlt gd, fun H' => ∃ acc, H' D = some (.lst acc) ∧ acc.length ≤ i + 1 ∧ F (i + 1) acc (off D H'), fun H' ⟨acc, e, l, f⟩ => ⟨n - (i + 1), by omega, rfl, hlt, acc, e, l, f⟩, fun x H' y => ?_⟩
    obtain ⟨rfl, hy⟩ := w.yields i H x H' hlt gd y
    refine ug _ _ _ _ _ (fun σ2 H2 ⟨q1, q2⟩ => ⟨q1, _, fun b H3 r => ?_, q2⟩) (hs D i x acc _ hlt hy hD e l f)
    rw [way_eq] at r
    split at r
    · rename_i hb
      rw [if_pos hb]
      exact ⟨_, fun y H4 ⟨e4, f4⟩ => ⟨acc, e4, by omega, acc ++ [y], upd_same, by rw [List.length_append]; simp; omega, by rw [off_upd]; exact f4⟩, r⟩
    · rename_i hb
      rw [if_neg hb]
      exact ⟨acc, r.1, by omega, r.2⟩
  · have ei : i = n := by omega
    subst ei
    exact .inl ⟨w.stops H gd, hd D H acc hD e l f⟩
theorem compG_list {K : PySem.W.Frag} {a : Addr} {xs : List V} (ug : UpG g) (F : Nat → List V → Hp → Prop) (hn : xs.length < sizeLine) (h0 : F 0 [] H1) (hG : ∀ i acc G, F i acc G → SqL K G a xs)
    (hs : ∀ D i x acc H', xs[i]? = some x → H1 D = none → H' D = some (.lst acc) → acc.length ≤ i → F i acc (off D H') → g x (wipe σ vs) H' fun σ2 H2 => wipe σ2 vs = wipe σ vs ∧
      tt σ2 H2 fun b H3 => way b (te σ2 H3 fun y H4 => H4 D = some (.lst acc) ∧ F (i + 1) (acc ++ [y]) (off D H4)) (H3 D = some (.lst acc) ∧ F (i + 1) acc (off D H3)))
    (hd : ∀ D H' acc, H1 D = none → H' D = some (.lst acc) → acc.length ≤ xs.length → F xs.length acc (off D H') → Q (.ref D) H') : (∃ ys, SqL K H1 a ys) ∧ CompG (Itl K a) g (mcT tt) (mcE te) vs σ Q H1 :=
  ⟨⟨xs, hG _ _ _ h0⟩, compG_by ug walk_list F hn h0 (fun i acc H G _ f s => s.seq (hG i acc G f)) (fun D i x acc H' _ hx a b c d => hs D i x acc H' hx a b c d) hd⟩
/-- (a, b) as a target -/
def tg2 (K : PySem.W.Frag) (i j : Nat) : TG := gTup K 2 (gCons (gName i) (gCons (gName j) gNil))
theorem tg2_up {K : PySem.W.Frag} {i j : Nat} : UpG (tg2 K i j) := fun v σ H Q Q' h q => by
  obtain ⟨a, xs, e, hs, hl, v1, r1, e1, v2, r2, e2, e3, q⟩ := q
  exact ⟨a, xs, e, hs, hl, v1, r1, e1, v2, r2, e2, e3, h _ _ q⟩
theorem tg2_of {K : PySem.W.Frag} {i j : Nat} {a : Addr} {u v : V} {σ : L2.St} {H : Hp} {Q : L2.St → Hp → Prop} (h : H a = some (.tup [u, v])) (q : Q ((σ.set i (some u)).set j (some v)) H) : tg2 K i j (.ref a) σ H Q :=
  ⟨a, [u, v], rfl, SqT.of h, rfl, u, [v], rfl, v, [], rfl, rfl, q⟩
end
/-! ### dicts -/
section
variable {X : Cx} {o i : Expr} {td ty : TE} {pos : Pos}
def gDGet (td ty : TE) : TE := fun σ H Q => td σ H fun x H1 => ty σ H1 fun y H2 => match x, y with
  | .ref a, .str z => ∃ kvs v, H2 a = some (.dK kvs) ∧ valV kvs (.inr z) = some v ∧ Q v H2
  | _, _ => False
theorem g_dget (hu : X.A.units + 1 < cLine) (ho : PE X o td) (hi : PE X i ty) (hs : NoSl i := by intro _ _; rfl) : PE X (.Subscript o i pos) (gDGet td ty) :=
  PEi (pe_dget hu (PEm ho) (PEm hi) hs) fun σ H Q q => ⟨_, fun x H1 r => ⟨_, fun y H2 r2 => by
    split at r2
    · obtain ⟨kvs, v, h1, h2, q⟩ := r2
      exact ⟨_, v, rfl, .inl ⟨kvs, .inr _, .inl h1, rfl, h2.symm⟩, q⟩
    · exact r2.elim, r⟩, q⟩
def gDNew : TE := fun _ H Q => ∀ p H', H p = none → Same H H' → H' p = some (.dK []) → Q (.ref p) H'
theorem g_dnew : PE X (.Dict [] [] pos) gDNew := PEi pe_dnewK fun σ H Q q => fun p hp => q p _ hp (Sm.new hp) upd_same
def rDSet : V → V → V → Hp → (Hp → Prop) → Prop := fun o i v H Q => match o, i with
  | .ref a, .str z => ∃ kvs, H a = some (.dK kvs) ∧ kvs.length < sizeLine ∧ ∀ H', SameX a H H' → H' a = some (.dK (putK kvs (.inr z) v)) → Q H'
  | _, _ => False
theorem s_dict (hu : X.A.units + 1 < cLine) : PSet X rDSet := fun pins s σ H o i v ov iv u Q I ro ri rv h => by
  unfold rDSet at h
  split at h
  · obtain ⟨kvs, h1, h2, h3⟩ := h
    exact set_dict hu pins s σ H _ _ v ov iv u Q I ro ri rv ⟨_, _, rfl, .inl ⟨kvs, .inr _, h1, rfl, h2, rfl⟩, h3 _ SameX.upd upd_same⟩
  · exact h.elim
end
/-! ### sets of ints, sorted -/
def SetL (w : World) (H : Hp) (D : Addr) (l : List Int) : Prop := ∃ S n, H D = some (SetO w D S n) ∧ (∀ k, S k = true ↔ k ∈ l) ∧ n ≤ l.length
theorem SetL.nil {w : World} {H : Hp} {D : Addr} (h : H D = some (SetO w D (fun _ => false) 0)) : SetL w H D [] := ⟨_, 0, h, fun k => by simp, Nat.le_refl _⟩
def rSortSet (w : World) : List V → Hp → VK → Prop := fun vs H Q => match vs with
  | [.ref a] => ∃ l, SetL w H a l ∧ l.length < 64 ∧ ∀ (ns : List Int) p H', ns.Pairwise (· < ·) → (∀ k, k ∈ ns ↔ k ∈ l) → H p = none → Same H H' → H' p = some (.lst (ns.map V.int)) → Q (.ref p) H'
  | _ => False
theorem c_sortSet {X : Cx} (w : World) (hw : X.w = w) (hc : X.calm = true) : CallR X (.builtin "sorted") (rSortSet w) := by
  subst hw
  exact CallRi (cr_sortedSet hc) fun xs H Q h => by
    unfold rSortSet at h
    split at h
    · obtain ⟨l, ⟨S, n, h1, h2, h3⟩, h4, h5⟩ := h
      exact ⟨_, S, n, rfl, h1, by omega, fun ns p a b c d => h5 ns p _ a (fun k => (b k).trans (h2 k)) d (Sm.new d) upd_same⟩
    · exact h.elim
/-- the body of a set's comprehension -/
theorem tAdd_of {w : World} {D : Addr} {te : TE} {σ : L2.St} {H : Hp} {N : Hp → Prop} {l : List Int} (h : te σ H fun y H1 => ∃ c, y = .int c ∧ SetL w H1 D l ∧ l.length < 4000 ∧ ∀ H2, SameX D H1 H2 → SetL w H2 D (l ++ [c]) → N H2) (um : ∀ σ H (Q Q' : VK), (∀ v H1, Q v H1 → Q' v H1) → te σ H Q → te σ H Q') : tAdd w D te σ H N := by
  unfold tAdd
  refine um _ _ _ _ (fun v H1 ⟨c, e, ⟨S, n, h1, h2, h3⟩, hl, q⟩ => ?_) h
  subst e
  refine ⟨S, n, h1, by unfold scanBound; omega, fun H2 s e => q H2 s ⟨_, _, e, fun k => ?_, ?_⟩⟩
  · rw [List.mem_append, List.mem_singleton, ← h2 k]
    simp only [Bool.or_eq_true, decide_eq_true_eq]
  · rw [List.length_append, List.length_singleton]; split <;> omega
/-- a clause's loop over something that stays -/
theorem cl_by {J : It} {n : Nat} {Gd : Hp → Prop} {Y : Nat → V → Prop} {g : TG} {tt : TT} {tb : TB} {vs : List Nat} {σ : L2.St} {H1 : Hp} {F : Hp → Prop} (ug : UpG g) (w : Walk J n Gd (fun i H x H' => H' = H ∧ Y i x)) (Pv : Nat → Hp → Prop) (h0 : Pv 0 H1) (hG : ∀ i H, i ≤ n → Pv i H → Gd H)
    (hs : ∀ i x H, i < n → Y i x → Pv i H → g x (wipe σ vs) H fun σ2 H2 => wipe σ2 vs = wipe σ vs ∧ tt σ2 H2 fun b H3 => way b (tb σ2 H3 (Pv (i + 1))) (Pv (i + 1) H3)) (hd : ∀ H, Pv n H → F H) : Cl J g (mcT tt) tb vs σ H1 F := by
  refine ⟨fun i m H => m = n - i ∧ i ≤ n ∧ Pv i H, ⟨n, by simp, Nat.zero_le _, h0⟩, ?_⟩
  rintro i m H ⟨rfl, hi, p⟩
  have gd := hG i H hi p
  by_cases hlt : i < n
  · refine .inr ⟨w.goes i H hlt gd, Pv (i + 1), fun H' p' => ⟨n - (i + 1), by omega, rfl, hlt, p'⟩, fun x H' y => ?_⟩
    obtain ⟨rfl, hy⟩ := w.yields i H x H' hlt gd y
    exact ug _ _ _ _ _ (fun σ2 H2 ⟨q1, q2⟩ => ⟨q1, _, fun b H3 r => by rw [way_eq] at r; exact r, q2⟩) (hs i x _ hlt hy p)
  · have ei : i = n := by omega
    subst ei
    exact .inl ⟨w.stops H gd, hd H p⟩
theorem gName_up {j : Nat} : UpG (gName j) := fun v σ H Q Q' h q => h _ _ q
theorem cl_list {K : PySem.W.Frag} {a : Addr} {xs : List V} {g : TG} {tt : TT} {tb : TB} {vs : List Nat} {σ : L2.St} {H1 : Hp} {F : Hp → Prop} (ug : UpG g) (Pv : Nat → Hp → Prop) (h0 : Pv 0 H1) (hG : ∀ i H, i ≤ xs.length → Pv i H → SqL K H a xs)
    (hs : ∀ i x H, xs[i]? = some x → Pv i H → g x (wipe σ vs) H fun σ2 H2 => wipe σ2 vs = wipe σ vs ∧ tt σ2 H2 fun b H3 => way b (tb σ2 H3 (Pv (i + 1))) (Pv (i + 1) H3)) (hd : ∀ H, Pv xs.length H → F H) : (∃ ys, SqL K H1 a ys) ∧ Cl (Itl K a) g (mcT tt) tb vs σ H1 F :=
  ⟨⟨xs, hG 0 H1 (Nat.zero_le _) h0⟩, cl_by ug walk_list Pv h0 hG (fun i x H _ hx p => hs i x H hx p) hd⟩
end GG
namespace GG
open PySem PySem.Spec L2
theorem k_tg2 {X : Cx} (K : PySem.W.Frag) (h : X.K = K) {a b : Expr} {k : Nat} {pos : Pos} {i j : Nat} (hc : X.calm = true) (h1 : PG X a (gName i)) (h2 : PG X b (gName j)) (hs : (assignEach [a, b] X.env).map (·.2) = assign a X.env :: (assignEach [b] X.env).map (·.2) := by rfl)
    (hs2 : (assignEach [b] X.env).map (·.2) = assign b X.env :: (assignEach [] X.env).map (·.2) := by rfl) (hn : (assignEach [a, b] X.env).length = 2 := by rfl) (hst : (assignEach [a, b] X.env).findIdx? (·.1) = none := by rfl) : PG X (.Tuple [a, b] k pos) (tg2 K i j) := by
  subst h; exact pg_tup hc (pgs_cons h1 (pgs_cons h2 pgs_nil hs2) hs) hn hst
end GG
namespace GG
open PySem PySem.Spec PyProof.Rows L2
section
variable {prog : Program} {w : World} {A : Around}
/-- set(l), l a list whose items are keys -/
theorem set_list_ints {keys : List Int} {l : Addr} {items : Array Value} {E : Value → Shared → Prop} {s : Shared} {Q : Value → Shared → Prop} (hh : A.handled = none) (hl : s.heap.IsList l items) (hsz : items.size = keys.length)
    (hi : ∀ (i : Nat) (v : Value), items[i]? = some v → ∃ k t, keys[i]? = some k ∧ v = .int k t) (hb : keys.length + 1 < scanBound)
    (h : ∀ (h' : Heap) (tk c : Nat), SetR w h' s.heap.objs.size (fun z => decide (z ∈ keys)) c → c ≤ keys.length → (∀ b o, b < s.heap.objs.size → s.heap.get? b = some o → h'.get? b = some o) → Q (.ref s.heap.objs.size) { s with heap := h', toks := tk }) :
    wpAny (model prog w) A (call (.type "set") [.ref l]) Q E s := by
  obtain ⟨c, tl, hmro⟩ := PySem.F.called_set.mro
  have hmade := PySem.F.called_set.made
  have hsub := PySem.F.called_set.sub
  have h1 := PySem.F.called_set.notType
  have h2 := PySem.F.called_set.canCreate
  have hct := PySem.F.typeCall_set_1 (.ref l)
  refine wpAny_call (codeAny_of_tree ?_)
  show wpAny _ _ (callAny (.type "set") _) _ _ _
  refine wpAny_pure ⟨Code.quiet_builtin _ (by decide +kernel), codeAny_builtin PySem.F.entry_type_call ?_⟩
  rw [Around.under_plain (weight_type_call_type "set" [.ref l] []) rfl]
  repeat (any_goals (first | assumption | wp_step))
  let newSet : Bool → Obj := fun led => { cls := .type "set", dict := none, data := .set #[] 0 (.fresh 0 0 led) }
  generalize hled : (!w.params.followText "set-order") = led
  refine codeAny_mono (code_set_led1 (.ref l) (E := E) (Q₁ := fun obj s1 => obj = .ref s.heap.objs.size ∧ s1 = { s with heap := s.heap.push (newSet led) }) ⟨rfl, by rw [← hled]⟩) fun r s1 hr => ?_
  match r, hr with
  | .error e, hr => exact hr
  | .ok (.ret obj), hr =>
    obtain ⟨rfl, rfl⟩ := hr
    have hS : (s.heap.push (newSet led)).get? s.heap.objs.size = some (newSet led) := Heap.get?_push_size _ rfl
    have hT : Shared.TypeIs { s with heap := s.heap.push (newSet led) } (.ref s.heap.objs.size) "set" := ⟨_, hS, rfl⟩
    have hli := PySem.F.called_set.init.lookup
    have hbi := PySem.F.called_set.init.bind (.ref s.heap.objs.size)
    repeat (any_goals (first | assumption | wp_step))
    refine codeAny_mono (codeAny_call_builtin (R := wants (fun r s2 => r = .none ∧ ∃ h' tk c, s2 = { s with heap := h', toks := tk } ∧
        SetR w h' s.heap.objs.size (fun z => decide (z ∈ keys)) c ∧ c ≤ keys.length ∧ ∀ b o, b < s.heap.objs.size → s.heap.get? b = some o → h'.get? b = some o) E) PySem.F.called_set.init.plain PySem.F.entry_set_init (check_set_init_1 hT ?_)) fun r2 s2 hr2 => ?_
    · obtain ⟨⟨ocls, odict, odata, oslots⟩, hol, hcl, nl, hdl⟩ := hl
      simp only at hcl hdl
      subst hcl; subst hdl
      have hol' : (s.heap.push (newSet led)).get? l = some { cls := .type "list", dict := odict, data := .seq items nl, slots := oslots } := Heap.get?_push_of_some _ hol
      have hsls := PySem.F.sub_list_set
      have hslf := PySem.F.sub_list_frozenset
      have hne : (Value.type "list" == Value.type "dict") = false := by decide
      have hl1 : (s.heap.push (newSet led)).IsList l items := ⟨_, hol', rfl, nl, rfl⟩
      unfold Builtin.«set.__init__» noKeywords Builtin.Frozenset.updateFrom
      generalize hPI : pyIter = PI
      wp_walk
      subst hPI
      refine wpAny_pyIter_list hl1 ?_
      refine wpAny_bind (wpAny_runValue ?_)
      have hlS : l < s.heap.objs.size := Heap.lt_size hol
      have hh3 : A.in1.in1.in1.handled = none := by simp [hh]
      have hneI : l ≠ (s.heap.push (newSet led)).objs.size := by rw [Heap.size_push]; exact Nat.ne_of_lt (Nat.lt_succ_of_lt hlS)
      have hSf : s.heap.objs.size ∉ [(s.heap.push (newSet led)).objs.size, l] := by
        rw [Heap.size_push]
        simp only [List.mem_cons, List.not_mem_nil, or_false, not_or]
        exact ⟨Nat.ne_of_lt (Nat.lt_succ_self _), Nat.ne_of_gt hlS⟩
      have W0 := (Walks.list (prog := prog) (w := w) hh3 _ l hneI items).toS
      refine set_update_ints W0 s.heap.objs.size hSf keys hsz hb (fun i v hv => hi i v hv) (items.size - 0) 0 _ (by omega) (Nat.zero_le _) ⟨⟨_, Heap.get?_push_size _ rfl, rfl, rfl⟩, (hl1.push _)⟩ ?_ ?_
      · have hget : ((s.heap.push (newSet led)).push { cls := .type "list_iterator", data := .fields #[.ref l, .int 0 0] }).get? s.heap.objs.size = some (newSet led) := Heap.get?_push_of_some _ hS
        exact ⟨0, Nat.le_refl 0, setR_new_at (by rw [hget, ← hled])⟩
      · intro s' c' hm hc' hS'
        obtain ⟨h', g', d', tk', os'⟩ := s'
        have eg : g' = s.gens := hm.gens
        have ed : d' = s.drawn := hm.drawn
        have eo : os' = s.os := hm.os
        subst eg; subst ed; subst eo
        refine wpAny_pure ?_
        refine wpAny_pure ⟨rfl, h', tk', c', rfl, hS', by omega, fun b o hb e => ?_⟩
        refine hm.heap b o ?_ (Heap.get?_push_of_some _ (Heap.get?_push_of_some _ e))
        rw [Heap.size_push]
        simp only [List.mem_cons, List.not_mem_nil, or_false, not_or]
        exact ⟨Nat.ne_of_lt hb, Nat.ne_of_lt (Nat.lt_succ_of_lt hb)⟩
    · match r2, hr2 with
      | .error e, hr2 => exact hr2
      | .ok (.ret r), hr2 =>
        obtain ⟨rfl, h', tk, c', rfl, hS', hc', hk'⟩ := hr2
        repeat (any_goals (first | assumption | wp_step))
        exact h _ _ _ hS' hc' hk'
end
section
variable {X : Cx}
/-- set(l) of a list of ints -/
def rSetOf (K : PySem.W.Frag) (w : World) : List V → Hp → VK → Prop := fun vs H Q => match vs with
  | [.ref l] => ∃ xs : List Int, SqL K H l (xs.map V.int) ∧ xs.length < 4000 ∧ ∀ p H', H p = none → Same H H' → SetL w H' p xs → Q (.ref p) H'
  | _ => False
theorem k_setOf (K : PySem.W.Frag) (w : World) (hK : X.K = K) (hw : X.w = w) (hc : X.calm = true) : CallR X (.type "set") (rSetOf K w) := by
  subst hK; subst hw
  intro pins s σ H xs us Q I r h
  unfold rSetOf at h
  split at h
  next l =>
    obtain ⟨ns, hq, hl, q⟩ := h
    cases r with
    | cons r0 rs =>
      cases rs
      cases r0
      obtain ⟨its, rr, pl, hz⟩ := I.list hq
      have hI := Vals.ints rr
      have hlen : its.length = ns.length := by rw [← rr.length, List.length_map]
      refine set_list_ints (keys := ns) (I.ok.hd hc) pl.isList (by rw [List.size_toArray, hlen]) (fun i v hv => ?_) (by unfold scanBound; omega) fun h' tk c hS hcl hk => ?_
      · have hi : i < ns.length := by rw [← hlen]; rw [List.getElem?_toArray] at hv; rcases Nat.lt_or_ge i its.length with z | z; exact z; rw [List.getElem?_eq_none z] at hv; cases hv
        obtain ⟨t, e⟩ := PyProof.Rows.IntsAre.int_at hI i v (by simpa using hv)
        refine ⟨ns[i], t, List.getElem?_eq_getElem hi, ?_⟩
        rw [e, List.getD_eq_getElem?_getD, List.getElem?_eq_getElem hi]; rfl
      · have hn : H s.heap.objs.size = none := I.hok.fresh (Nat.le_refl _)
        refine ⟨.ref _, upd H s.heap.objs.size (SetO X.w s.heap.objs.size (fun z => decide (z ∈ ns)) c), I.laid (t' := tk) (fun b o e => hk b o (Heap.lt_size e) e) (Nat.le_refl _) (setO_new hS), rfl, q _ _ hn (Sm.new hn) ⟨_, c, upd_same, fun k => by simp, hcl⟩⟩
  next => exact h.elim
end
end GG
/-! x != x of an own instance whose class has no comparison of its own -/
namespace GG
open PySem PySem.Spec PyProof.Rows L2
/-- a class that compares by identity -/
structure ObjF (K : PySem.W.Frag) (C : Addr) : Prop where
  cl : Cls K C
  hm : PySem.W.mroIn K C (.type "object") = some true
  eq : PySem.W.findIn K (.ref C) "__eq__" = some (some (.builtin "object.__eq__"))
  ne : PySem.W.findIn K (.ref C) "__ne__" = some (some (.builtin "object.__ne__"))
section
variable {prog : Program} {w : World} {A : Around} {E : Value → Shared → Prop} {s : Shared} {K : PySem.W.Frag} {x C : Addr} {ox : Obj} {od : Option Obj}
theorem eq_same {Q : Option Value → Shared → Prop} (X : K.In s.heap) (I : PySem.W.InstAt s.heap x ox C od) (o : ObjF K C) (hq : Q (some (.bool true)) s) : wpAny (model prog w) A (callSpecialIfBound? (.ref x) "__eq__" [.ref x]) Q E s :=
  HN.ifBound_objEq X I o.eq (wpAny_call (codeAny_call_builtin F.cmp_object.eq.plain F.cmpEntry_eq (PySem.W.check_slot F.cmpKind_eq F.cmpSplit_eq (I.type.andThen (PySem.W.looks_mroIn X o.hm)) (F.cmpArgs_eq _ _) (objEq_entry_same hq))))
theorem bound_ne {args : List Value} {Q : Option Value → Shared → Prop} (X : K.In s.heap) (I : PySem.W.InstAt s.heap x ox C od) (hs : PySem.W.findIn K (.ref C) "__ne__" = some (some (.builtin "object.__ne__")))
    (h : wpAny (model prog w) A (call (.builtin "object.__ne__") (.ref x :: args)) (fun v => Q (some v)) E s) : wpAny (model prog w) A (callSpecialIfBound? (.ref x) "__ne__" args) Q E s := by
  simp only [callSpecialIfBound?, bindSpecialIfBound?]
  refine wpAny_holding (wpAny_bind (wpAny_bind (wpAny_bind (I.type.here ((PySem.W.looks_findIn X hs).here (wpAny_bind (wpAny_askSetting (wpAny_ite ?_))))))))
  have go : wpAny (model prog w) A (call (.builtin "object.__ne__") ([.ref x] ++ args) >>= fun v => pure (some v)) Q E s := wpAny_bind (wpAny_mono h (fun v s' h' => wpAny_pure h') fun _ _ z => z)
  split
  · exact wpAny_bind (wpAny_of_eq (F.cmp_object.ne.bind _) (wpAny_pure (show wpAny (model prog w) A _ Q E s from go)))
  · exact wpAny_tryCatch (wpAny_bind (wpAny_of_eq (F.cmp_object.ne.bind _) (wpAny_pure (show wpAny (model prog w) A _ Q _ s from wpAny_mono go (fun _ _ z => z) fun e s' z => by first | exact z | exact wpAny_pure z | exact ⟨_, z⟩))))
theorem entry_ne (hu : A.units < cLine) (X : K.In s.heap) (I : PySem.W.InstAt s.heap x ox C od) (o : ObjF K C) {Q : PySem.Fin → Shared → Prop} (hq : Q (.done (.ret (.bool false))) s) : wpAny (model prog w) A (Builtin.«object.__ne__» ⟨[.ref x, .ref x], []⟩) Q E s := by
  unfold Builtin.«object.__ne__»
  repeat (first | with_reducible refine wpAny_cRoomFor hu ?_ | with_reducible refine eq_same X I o ?_ | wp_step)
  exact hq
theorem rcne_same (hu : A.units + 1 < cLine) (X : K.In s.heap) (I : PySem.W.InstAt s.heap x ox C od) (o : ObjF K C) {Q : Value → Shared → Prop} (hq : Q (.bool false) s) : wpAny (model prog w) A (richCompare .NotEq (.ref x) (.ref x)) Q E s := by
  have one : wpAny (model prog w) A (tryCompare (.ref x) "__ne__" (.ref x)) (fun r s' => r = some (.bool false) ∧ s' = s) E s := by
    unfold tryCompare
    exact wpAny_bind (bound_ne X I o.ne (wpAny_call (codeAny_call_builtin F.cmp_object.ne.plain F.cmpEntry_ne (PySem.W.check_slot F.cmpKind_ne F.cmpSplit_ne (I.type.andThen (PySem.W.looks_mroIn X o.hm)) (F.cmpArgs_ne _ _) (entry_ne (A := A.in1) (by show A.units + 1 < cLine; exact hu) X I o (wpAny_pure ⟨rfl, rfl⟩))))))
  simp only [richCompare, cmpInfo_NotEq, oneThing_ref]
  refine wpAny_holding (wpAny_bind (wpAny_cRoomFor (Nat.lt_of_succ_lt hu) (wpAny_bind (I.type.here (wpAny_bind (I.type.here ?_))))))
  rw [if_neg (by simp)]
  refine wpAny_bind (wpAny_pure ?_)
  simp only [Bool.false_eq_true, if_false]
  refine wpAny_bind (wpAny_mono one (fun r s' ⟨z1, z2⟩ => ?_) fun _ _ z => z)
  subst z1; subst z2
  exact wpAny_pure hq
end
section
variable {X : Cx}
/-- x != x -/
def rNeSelf (K : PySem.W.Frag) : R2 := fun x y H Q => match x, y with
  | .ref a, .ref b => a = b ∧ (∃ C dx fs, H a = some (.ins C dx fs) ∧ ObjF K C) ∧ Q (.bl false) H
  | _, _ => False
theorem k_neSelf (K : PySem.W.Frag) (hK : X.K = K) (hu : X.A.units + 64 < cLine) : OpR X (compareOp .NotEq) (rNeSelf K) := by
  subst hK
  intro pins s σ H x y u v Q I rx ry h
  unfold rNeSelf at h
  split at h
  next a b =>
    obtain ⟨rfl, ⟨C, dx, fs, ha, o⟩, q⟩ := h
    cases rx; cases ry
    obtain ⟨mA, O, _⟩ := ins_get I.hok ha
    obtain ⟨od, J, _⟩ := O.look
    obtain ⟨m, hF⟩ := I.fr
    show wpAny (model X.prog X.w) X.A (richCompare .NotEq (.ref a) (.ref a)) _ _ s
    exact rcne_same (Nat.lt_of_le_of_lt (Nat.add_le_add_left (by decide : 1 ≤ 64) _) hu) (I.ok.mod.kin.keeps hF.keep) J o ⟨.bl false, H, I, rfl, q⟩
  next => exact h.elim
end
end GG
namespace GG
open PySem PySem.Spec L2
/-! ### trees as data -/
inductive T where
  | leaf (n : Str)
  | grp (rk : List Int) (ps : List T)
mutual
def T.names : T → List Str
  | .leaf n => [n]
  | .grp _ ps => T.namesL ps
def T.namesL : List T → List Str
  | [] => []
  | t :: ts => t.names ++ T.namesL ts
end
def T.width : T → Nat
  | .leaf _ => 1
  | .grp rk _ => rk.length
def T.taken : List T → Nat
  | [] => 0
  | t :: ts => t.width + T.taken ts
mutual
def T.depth : T → Nat
  | .leaf _ => 0
  | .grp _ ps => T.depthL ps + 1
def T.depthL : List T → Nat
  | [] => 0
  | t :: ts => max t.depth (T.depthL ts)
end
/-- a name: one to eight small letters -/
def alph : List Nat := ("abcdefghijklmnopqrstuvwxyz" : Str).cps.toList
def IsNm (z : Str) : Prop := 1 ≤ z.length ∧ z.length ≤ 8 ∧ ∀ c ∈ z.cps.toList, c ∈ alph
/-- ranks that a group over so many ends may have -/
structure RkOk (rk : List Int) (m : Nat) : Prop where
  ne : rk ≠ []
  asc : rk.Pairwise (· < ·)
  lo : ∀ r ∈ rk, 1 ≤ r
  hi : ∀ r ∈ rk, r ≤ (m : Int)
mutual
/-- groups have parts and ranks that fit -/
def T.Sh : T → Prop
  | .leaf n => IsNm n
  | .grp rk ps => ps ≠ [] ∧ RkOk rk (T.taken ps) ∧ T.ShL ps
def T.ShL : List T → Prop
  | [] => True
  | t :: ts => t.Sh ∧ T.ShL ts
end
/-- a tree -/
structure T.Ok (t : T) : Prop where
  sh : t.Sh
  nd : t.names.Nodup
/-! ### how the law's trees and the program's stand in the heap -/
mutual
def LT (H : Hp) : T → V → Prop
  | .leaf n, v => v = .str n
  | .grp rk ps, v => ∃ a r p vs, v = .ref a ∧ H a = some (.tup [.str "group", .ref r, .ref p]) ∧ H r = some (.lst (rk.map V.int)) ∧ H p = some (.lst vs) ∧ LTs H ps vs
def LTs (H : Hp) : List T → List V → Prop
  | [], vs => vs = []
  | t :: ts, vs => ∃ v r, vs = v :: r ∧ LT H t v ∧ LTs H ts r
end
mutual
theorem LT.mono {H H' : Hp} (s : Same H H') : ∀ {t : T} {v : V}, LT H t v → LT H' t v
  | .leaf n, v, h => h
  | .grp rk ps, v, h => by
    obtain ⟨a, r, p, vs, e, h1, h2, h3, h4⟩ := h
    exact ⟨a, r, p, vs, e, s _ _ h1, s _ _ h2, s _ _ h3, LTs.mono s h4⟩
theorem LTs.mono {H H' : Hp} (s : Same H H') : ∀ {ts : List T} {vs : List V}, LTs H ts vs → LTs H' ts vs
  | [], vs, h => h
  | t :: ts, vs, h => by
    obtain ⟨v, r, e, h1, h2⟩ := h
    exact ⟨v, r, e, LT.mono s h1, LTs.mono s h2⟩
end
theorem LTs.length {H : Hp} : ∀ {ts : List T} {vs : List V}, LTs H ts vs → vs.length = ts.length
  | [], vs, h => by subst h; rfl
  | t :: ts, vs, ⟨v, r, e, _, h⟩ => by subst e; simp [LTs.length h]
theorem LTs.at_ {H : Hp} : ∀ {ts : List T} {vs : List V} {i : Nat} {v : V}, LTs H ts vs → vs[i]? = some v → ∃ t, ts[i]? = some t ∧ LT H t v
  | [], vs, i, v, h, e => by subst h; simp at e
  | t :: ts, vs, 0, v, ⟨x, r, q, h1, h2⟩, e => by subst q; simp at e; subst e; exact ⟨t, rfl, h1⟩
  | t :: ts, vs, i + 1, v, ⟨x, r, q, h1, h2⟩, e => by
    subst q
    obtain ⟨u, h3, h4⟩ := LTs.at_ (i := i) h2 (by simpa using e)
    exact ⟨u, by simpa using h3, h4⟩
theorem LTs.snoc {H : Hp} {t : T} {v : V} (h : LT H t v) : ∀ {ts : List T} {vs : List V}, LTs H ts vs → LTs H (ts ++ [t]) (vs ++ [v])
  | [], vs, e => by subst e; exact ⟨v, [], rfl, h, rfl⟩
  | u :: ts, vs, ⟨x, r, q, h1, h2⟩ => by subst q; exact ⟨x, r ++ [v], rfl, h1, LTs.snoc h h2⟩
section
variable (CL CG : Addr)
def lfs (n : Str) : List (Str × V) := [("label", .str n)]
def gfs (p r : Addr) (m : Nat) : List (Str × V) := [("picks", .ref p), ("rows", .ref r), ("taken", .int m)]
mutual
def MT (H : Hp) : T → V → Prop
  | .leaf n, v => ∃ a dx, v = .ref a ∧ H a = some (.ins CL dx (lfs n))
  | .grp rk ps, v => ∃ a dx p r vs, v = .ref a ∧ H a = some (.ins CG dx (gfs p r (T.taken ps))) ∧ H p = some (.tup (rk.map V.int)) ∧ H r = some (.tup vs) ∧ MTs H ps vs
def MTs (H : Hp) : List T → List V → Prop
  | [], vs => vs = []
  | t :: ts, vs => ∃ v r, vs = v :: r ∧ MT H t v ∧ MTs H ts r
end
end
section
variable {CL CG : Addr}
/-- what trees lean on: tuples and instances -/
def NoL : HO → Prop
  | .tup _ => True
  | .ins _ _ _ => True
  | _ => False
def SameT (H H' : Hp) : Prop := ∀ b o, NoL o → H b = some o → H' b = some o
theorem SameT.of {H H' : Hp} (h : Same H H') : SameT H H' := fun b o _ e => h b o e
theorem SameT.trans {H H1 H2 : Hp} (a : SameT H H1) (b : SameT H1 H2) : SameT H H2 := fun c o n e => b c o n (a c o n e)
theorem SameT.ofX {p : Addr} {H H' : Hp} {xs : List V} (h : SameX p H H') (hp : H p = some (.lst xs)) : SameT H H' := fun b o n e => h b o (by
  rintro rfl
  rw [hp] at e; cases e; exact n) e
theorem SameT.off {D : Addr} {H : Hp} {xs : List V} (h : H D = some (.lst xs)) : SameT H (off D H) := fun b o n e => by
  rw [off_at (by rintro rfl; rw [h] at e; cases e; exact n)]; exact e
mutual
theorem MT.monoT {H H' : Hp} (s : SameT H H') : ∀ {t : T} {v : V}, MT CL CG H t v → MT CL CG H' t v
  | .leaf n, v, ⟨a, dx, e, h⟩ => ⟨a, dx, e, s _ _ trivial h⟩
  | .grp rk ps, v, ⟨a, dx, p, r, vs, e, h1, h2, h3, h4⟩ => ⟨a, dx, p, r, vs, e, s _ _ trivial h1, s _ _ trivial h2, s _ _ trivial h3, MTs.monoT s h4⟩
theorem MTs.monoT {H H' : Hp} (s : SameT H H') : ∀ {ts : List T} {vs : List V}, MTs CL CG H ts vs → MTs CL CG H' ts vs
  | [], vs, h => h
  | t :: ts, vs, ⟨v, r, e, h1, h2⟩ => ⟨v, r, e, MT.monoT s h1, MTs.monoT s h2⟩
end
theorem MT.mono {H H' : Hp} (s : Same H H') {t : T} {v : V} (h : MT CL CG H t v) : MT CL CG H' t v := h.monoT (.of s)
theorem MTs.mono {H H' : Hp} (s : Same H H') {t : List T} {v : List V} (h : MTs CL CG H t v) : MTs CL CG H' t v := h.monoT (.of s)
theorem MTs.length {H : Hp} : ∀ {ts : List T} {vs : List V}, MTs CL CG H ts vs → vs.length = ts.length
  | [], vs, h => by subst h; rfl
  | t :: ts, vs, ⟨v, r, e, _, h⟩ => by subst e; simp [MTs.length h]
theorem MTs.at_ {H : Hp} : ∀ {ts : List T} {vs : List V} {i : Nat} {v : V}, MTs CL CG H ts vs → vs[i]? = some v → ∃ t, ts[i]? = some t ∧ MT CL CG H t v
  | [], vs, i, v, h, e => by subst h; simp at e
  | t :: ts, vs, 0, v, ⟨x, r, q, h1, h2⟩, e => by subst q; simp at e; subst e; exact ⟨t, rfl, h1⟩
  | t :: ts, vs, i + 1, v, ⟨x, r, q, h1, h2⟩, e => by
    subst q
    obtain ⟨u, h3, h4⟩ := MTs.at_ (i := i) h2 (by simpa using e)
    exact ⟨u, by simpa using h3, h4⟩
theorem MTs.snoc {H : Hp} {t : T} {v : V} (h : MT CL CG H t v) : ∀ {ts : List T} {vs : List V}, MTs CL CG H ts vs → MTs CL CG H (ts ++ [t]) (vs ++ [v])
  | [], vs, e => by subst e; exact ⟨v, [], rfl, h, rfl⟩
  | u :: ts, vs, ⟨x, r, q, h1, h2⟩ => by subst q; exact ⟨x, r ++ [v], rfl, h1, MTs.snoc h h2⟩
/-- the object at a tree's address -/
theorem MT.ref {H : Hp} : ∀ {t : T} {v : V}, MT CL CG H t v → ∃ a C dx fs, v = .ref a ∧ H a = some (.ins C dx fs) ∧ (C = CL ∨ C = CG)
  | .leaf n, v, ⟨a, dx, e, h⟩ => ⟨a, CL, dx, _, e, h, .inl rfl⟩
  | .grp rk ps, v, ⟨a, dx, p, r, vs, e, h1, h2, h3, h4⟩ => ⟨a, CG, dx, _, e, h1, .inr rfl⟩
end
/-- facts of data -/
theorem T.taken_eq : ∀ ts : List T, (T.taken ts : Int) = (ts.map fun t => (t.width : Int)).sum
  | [] => rfl
  | t :: ts => by
    have := T.taken_eq ts
    simp only [T.taken, List.map_cons, List.sum_cons, Int.natCast_add]
    omega
theorem T.namesL_eq : ∀ ts : List T, T.namesL ts = ts.flatMap T.names
  | [] => by rw [T.namesL]; rfl
  | t :: ts => by rw [T.namesL, T.namesL_eq ts]; rfl
theorem T.ShL_iff : ∀ {ts : List T}, T.ShL ts ↔ ∀ t ∈ ts, t.Sh
  | [] => by simp [T.ShL]
  | t :: ts => by simp [T.ShL, T.ShL_iff]
theorem T.depthL_le : ∀ {ts : List T} {t : T}, t ∈ ts → t.depth ≤ T.depthL ts
  | [], t, h => by simp at h
  | u :: ts, t, h => by
    rw [T.depthL]
    rcases List.mem_cons.mp h with h | h
    · subst h; exact Nat.le_max_left _ _
    · exact Nat.le_trans (T.depthL_le h) (Nat.le_max_right _ _)
end GG
namespace GG
open PySem L2
mutual
def T.mirror : T → T
  | .leaf n => .leaf n
  | .grp rk ps => .grp (rk.reverse.map fun r => (T.taken ps : Int) + 1 - r) (T.mirrorL ps)
def T.mirrorL : List T → List T
  | [] => []
  | t :: ts => t.mirror :: T.mirrorL ts
end
theorem T.mirrorL_eq : ∀ ts : List T, T.mirrorL ts = ts.map T.mirror
  | [] => rfl
  | t :: ts => by rw [T.mirrorL, T.mirrorL_eq ts]; rfl
theorem T.width_mirror : ∀ t : T, t.mirror.width = t.width
  | .leaf n => rfl
  | .grp rk ps => by rw [T.mirror, T.width, T.width]; simp
theorem T.taken_mirror : ∀ ts : List T, T.taken (T.mirrorL ts) = T.taken ts
  | [] => rfl
  | t :: ts => by rw [T.mirrorL, T.taken, T.taken, T.width_mirror, T.taken_mirror ts]
mutual
theorem T.names_mirror : ∀ t : T, t.mirror.names = t.names
  | .leaf n => rfl
  | .grp rk ps => by rw [T.mirror, T.names, T.names, T.namesL_mirror ps]
theorem T.namesL_mirror : ∀ ts : List T, T.namesL (T.mirrorL ts) = T.namesL ts
  | [] => rfl
  | t :: ts => by rw [T.mirrorL, T.namesL, T.namesL, T.names_mirror t, T.namesL_mirror ts]
end
mutual
theorem T.depth_mirror : ∀ t : T, t.mirror.depth = t.depth
  | .leaf n => rfl
  | .grp rk ps => by rw [T.mirror, T.depth, T.depth, T.depthL_mirror ps]
theorem T.depthL_mirror : ∀ ts : List T, T.depthL (T.mirrorL ts) = T.depthL ts
  | [] => rfl
  | t :: ts => by rw [T.mirrorL, T.depthL, T.depthL, T.depth_mirror t, T.depthL_mirror ts]
end
theorem RkOk.mirror {rk : List Int} {m : Nat} (h : RkOk rk m) : RkOk (rk.reverse.map fun r => (m : Int) + 1 - r) m := by
  refine ⟨?_, ?_, ?_, ?_⟩
  · intro e
    rw [List.map_eq_nil_iff, List.reverse_eq_nil_iff] at e
    exact h.ne e
  · rw [List.pairwise_map, List.pairwise_reverse]
    exact h.asc.imp fun q => by omega
  · intro r hr
    obtain ⟨x, hx, rfl⟩ := List.mem_map.mp hr
    have := h.hi x (List.mem_reverse.mp hx)
    omega
  · intro r hr
    obtain ⟨x, hx, rfl⟩ := List.mem_map.mp hr
    have := h.lo x (List.mem_reverse.mp hx)
    omega
mutual
theorem T.sh_mirror : ∀ {t : T}, t.Sh → t.mirror.Sh
  | .leaf n, h => h
  | .grp rk ps, h => by
    rw [T.mirror, T.Sh, T.taken_mirror]
    rw [T.Sh] at h
    refine ⟨?_, h.2.1.mirror, T.shL_mirror h.2.2⟩
    intro e
    have := congrArg List.length e
    rw [T.mirrorL_eq, List.length_map] at this
    exact h.1 (List.length_eq_zero_iff.mp this)
theorem T.shL_mirror : ∀ {ts : List T}, T.ShL ts → T.ShL (T.mirrorL ts)
  | [], _ => trivial
  | t :: ts, h => by
    rw [T.mirrorL, T.ShL]
    rw [T.ShL] at h
    exact ⟨T.sh_mirror h.1, T.shL_mirror h.2⟩
end
theorem asc_len : ∀ {l : List Int} {lo hi : Int}, l.Pairwise (· < ·) → (∀ r ∈ l, lo ≤ r) → (∀ r ∈ l, r ≤ hi) → (l.length : Int) ≤ max 0 (hi - lo + 1)
  | [], _, _, _, _, _ => by simp; omega
  | x :: l, lo, hi, p, h1, h2 => by
    have q := List.pairwise_cons.mp p
    have a := h1 x (List.mem_cons_self ..)
    have b := h2 x (List.mem_cons_self ..)
    have ih := asc_len (l := l) (lo := x + 1) (hi := hi) q.2 (fun r hr => by have := q.1 r hr; omega) (fun r hr => h2 r (List.mem_cons_of_mem _ hr))
    rw [List.length_cons]
    omega
theorem RkOk.len {rk : List Int} {m : Nat} (h : RkOk rk m) : rk.length ≤ m := by
  have := asc_len h.asc h.lo h.hi
  omega
mutual
theorem T.width_le : ∀ {t : T}, t.Sh → t.width ≤ t.names.length ∧ 1 ≤ t.names.length
  | .leaf n, _ => ⟨Nat.le_refl _, Nat.le_refl _⟩
  | .grp rk ps, h => by
    rw [T.Sh] at h
    obtain ⟨a, b⟩ := T.taken_le h.2.2
    rw [T.width, T.names]
    have := h.2.1.len
    refine ⟨by omega, ?_⟩
    have : 1 ≤ ps.length := by
      rcases Nat.eq_zero_or_pos ps.length with z | z
      · exact absurd (List.length_eq_zero_iff.mp z) h.1
      · exact z
    omega
theorem T.taken_le : ∀ {ts : List T}, T.ShL ts → T.taken ts ≤ (T.namesL ts).length ∧ ts.length ≤ (T.namesL ts).length
  | [], _ => ⟨Nat.le_refl _, Nat.le_refl _⟩
  | t :: ts, h => by
    rw [T.ShL] at h
    obtain ⟨a, b⟩ := T.width_le h.1
    obtain ⟨c, d⟩ := T.taken_le h.2
    rw [T.taken, T.namesL, List.length_append, List.length_cons]
    omega
end
/-- a tree as the laws draw it -/
structure T.Gd (t : T) : Prop where
  sh : t.Sh
  nd : t.names.Nodup
  dp : t.depth ≤ 45
  sz : t.names.length ≤ 1000
theorem T.Gd.mirror {t : T} (g : t.Gd) : t.mirror.Gd := ⟨T.sh_mirror g.sh, by rw [T.names_mirror]; exact g.nd, by rw [T.depth_mirror]; exact g.dp, by rw [T.names_mirror]; exact g.sz⟩
theorem T.namesL_mem : ∀ {ts : List T} {t : T}, t ∈ ts → t.names.Sublist (T.namesL ts)
  | [], t, h => by simp at h
  | u :: ts, t, h => by
    rw [T.namesL]
    rcases List.mem_cons.mp h with h | h
    · subst h; exact List.sublist_append_left _ _
    · exact (T.namesL_mem h).trans (List.sublist_append_right _ _)
theorem T.Gd.part {rk : List Int} {ps : List T} (g : (T.grp rk ps).Gd) {t : T} (h : t ∈ ps) : t.Gd := by
  have s := g.sh
  rw [T.Sh] at s
  have n := g.nd
  rw [T.names] at n
  have z := g.sz
  rw [T.names] at z
  have d := g.dp
  rw [T.depth] at d
  have sl := T.namesL_mem h
  have := T.depthL_le h
  exact ⟨T.ShL_iff.mp s.2.2 t h, n.sublist sl, by omega, Nat.le_trans sl.length_le z⟩
end GG
namespace GG
open PySem L2
/-! ### least sums -/
def minl : List Int → Int
  | [] => 0
  | x :: xs => xs.foldl (fun a b => if b < a then b else a) x
theorem fold_min : ∀ (l : List Int) (x : Int), (l.foldl (fun a b => if b < a then b else a) x = x ∨ l.foldl (fun a b => if b < a then b else a) x ∈ l) ∧ l.foldl (fun a b => if b < a then b else a) x ≤ x ∧ ∀ y ∈ l, l.foldl (fun a b => if b < a then b else a) x ≤ y
  | [], x => ⟨.inl rfl, Int.le_refl _, fun y h => by simp at h⟩
  | z :: l, x => by
    have ih := fold_min l (if z < x then z else x)
    rw [List.foldl_cons]
    have hx : (if z < x then z else x) ≤ x := by split <;> omega
    have hz : (if z < x then z else x) ≤ z := by split <;> omega
    refine ⟨?_, by omega, fun y hy => ?_⟩
    · rcases ih.1 with q | q
      · rw [q]
        split
        · exact .inr (List.mem_cons_self ..)
        · exact .inl rfl
      · exact .inr (List.mem_cons_of_mem _ q)
    · rcases List.mem_cons.mp hy with q | q
      · subst q; omega
      · exact ih.2.2 y q
theorem minl_spec {l : List Int} (h : l ≠ []) : minl l ∈ l ∧ ∀ y ∈ l, minl l ≤ y := by
  cases l with
  | nil => exact absurd rfl h
  | cons x xs =>
    have q := fold_min xs x
    refine ⟨?_, fun y hy => ?_⟩
    · rcases q.1 with z | z
      · rw [minl, z]; exact List.mem_cons_self ..
      · exact List.mem_cons_of_mem _ z
    · rcases List.mem_cons.mp hy with z | z
      · subst z; exact q.2.1
      · exact q.2.2 y z
theorem minl_eq {l : List Int} {m : Int} (h : m ∈ l) (h2 : ∀ y ∈ l, m ≤ y) : m = minl l := by
  have q := minl_spec (List.ne_nil_of_mem h)
  have := q.2 m h
  have := h2 _ q.1
  omega
def fits (a b : List Int) (k i : Nat) : Bool := decide (i ≤ k ∧ k - i < b.length)
def sumsAt (a b : List Int) (k : Nat) : List Int := ((List.range a.length).filter (fits a b k)).map fun i => a.getD i 0 + b.getD (k - i) 0
def conv (a b : List Int) : List Int := (List.range (a.length + b.length - 1)).map fun k => minl (sumsAt a b k)
theorem conv_len (a b : List Int) : (conv a b).length = a.length + b.length - 1 := by unfold conv; simp
theorem sums_mem {a b : List Int} {k : Nat} {x : Int} : x ∈ sumsAt a b k ↔ ∃ i, i < a.length ∧ i ≤ k ∧ k - i < b.length ∧ x = a.getD i 0 + b.getD (k - i) 0 := by
  unfold sumsAt
  rw [List.mem_map]
  constructor
  · rintro ⟨i, hi, rfl⟩
    obtain ⟨h1, h2⟩ := List.mem_filter.mp hi
    unfold fits at h2
    have h2 := of_decide_eq_true h2
    exact ⟨i, List.mem_range.mp h1, h2.1, h2.2, rfl⟩
  · rintro ⟨i, h1, h2, h3, rfl⟩
    exact ⟨i, List.mem_filter.mpr ⟨List.mem_range.mpr h1, by unfold fits; exact decide_eq_true ⟨h2, h3⟩⟩, rfl⟩
theorem sums_ne {a b : List Int} {k : Nat} (ha : a ≠ []) (hb : b ≠ []) (hk : k < a.length + b.length - 1) : sumsAt a b k ≠ [] := by
  have la : 0 < a.length := by rcases Nat.eq_zero_or_pos a.length with z | z; exact absurd (List.length_eq_zero_iff.mp z) ha; exact z
  have lb : 0 < b.length := by rcases Nat.eq_zero_or_pos b.length with z | z; exact absurd (List.length_eq_zero_iff.mp z) hb; exact z
  have : (a.getD (min k (a.length - 1)) 0 + b.getD (k - min k (a.length - 1)) 0) ∈ sumsAt a b k := sums_mem.mpr ⟨min k (a.length - 1), by omega, by omega, by omega, rfl⟩
  exact List.ne_nil_of_mem this
theorem sums_len (a b : List Int) (k : Nat) : (sumsAt a b k).length ≤ a.length := by
  unfold sumsAt
  rw [List.length_map]
  have := List.length_filter_le (fits a b k) (List.range a.length)
  rw [List.length_range] at this
  exact this
mutual
def T.cnt : T → List Int
  | .leaf _ => [0, 1]
  | .grp rk ps => 0 :: rk.map fun r => (T.cntL ps [0]).getD r.toNat 0
def T.cntL : List T → List Int → List Int
  | [], acc => acc
  | t :: ts, acc => T.cntL ts (conv acc t.cnt)
end
theorem T.cnt_len : ∀ t : T, t.cnt.length = t.width + 1
  | .leaf _ => rfl
  | .grp rk ps => by rw [T.cnt, T.width]; simp
theorem T.cntL_len : ∀ (ts : List T) (acc : List Int), acc ≠ [] → (T.cntL ts acc).length = acc.length + T.taken ts ∧ T.cntL ts acc ≠ []
  | [], acc, h => ⟨rfl, h⟩
  | t :: ts, acc, h => by
    have la : 0 < acc.length := by rcases Nat.eq_zero_or_pos acc.length with z | z; exact absurd (List.length_eq_zero_iff.mp z) h; exact z
    have e := conv_len acc t.cnt
    rw [T.cnt_len] at e
    have ne : conv acc t.cnt ≠ [] := by intro z; rw [z] at e; simp at e; omega
    have ih := T.cntL_len ts (conv acc t.cnt) ne
    rw [T.cntL, T.taken]
    exact ⟨by omega, ih.2⟩
theorem T.cntL_snoc : ∀ (ts : List T) (t : T) (acc : List Int), T.cntL (ts ++ [t]) acc = conv (T.cntL ts acc) t.cnt
  | [], t, acc => rfl
  | u :: ts, t, acc => by rw [List.cons_append, T.cntL, T.cntL, T.cntL_snoc]
end GG
namespace GG
open PySem L2
/-! ### low ends of a set of leaves; all sets -/
mutual
def T.low (S : List Str) : T → Nat
  | .leaf n => if n ∈ S then 1 else 0
  | .grp rk ps => (rk.filter fun r => decide (r ≤ (T.lowL S ps : Int))).length
def T.lowL (S : List Str) : List T → Nat
  | [] => 0
  | t :: ts => t.low S + T.lowL S ts
end
def addTo (found : List (List Str)) (n : Str) : List (List Str) := found ++ found.map (· ++ [n])
def setsOf (ns : List Str) : List (List Str) := ns.foldl addTo [[]]
theorem addTo_len (f : List (List Str)) (n : Str) : (addTo f n).length = 2 * f.length := by unfold addTo; rw [List.length_append, List.length_map]; omega
theorem setsOf_snoc (ns : List Str) (n : Str) : setsOf (ns ++ [n]) = addTo (setsOf ns) n := by unfold setsOf; rw [List.foldl_append]; rfl
theorem setsOf_take {ns : List Str} {i : Nat} {n : Str} (h : ns[i]? = some n) : setsOf (ns.take (i + 1)) = addTo (setsOf (ns.take i)) n := by
  rw [List.take_add_one, h]
  exact setsOf_snoc _ _
theorem fold_len : ∀ (ns : List Str) (f : List (List Str)), (ns.foldl addTo f).length = 2 ^ ns.length * f.length
  | [], f => by simp
  | n :: ns, f => by rw [List.foldl_cons, fold_len ns, addTo_len, List.length_cons, Nat.pow_succ, Nat.mul_assoc]
theorem setsOf_len (ns : List Str) : (setsOf ns).length = 2 ^ ns.length := by unfold setsOf; rw [fold_len]; simp
theorem addTo_mem {f : List (List Str)} {n : Str} {S : List Str} : S ∈ addTo f n ↔ S ∈ f ∨ ∃ R ∈ f, S = R ++ [n] := by
  unfold addTo
  rw [List.mem_append, List.mem_map]
  exact or_congr Iff.rfl ⟨fun ⟨R, a, b⟩ => ⟨R, a, b.symm⟩, fun ⟨R, a, b⟩ => ⟨R, a, b.symm⟩⟩
theorem setsOf_short (k : Nat) : ∀ {ns : List Str}, ns.length ≤ k → ∀ S ∈ setsOf ns, S.length ≤ k := by
  have : ∀ (ns : List Str) (f : List (List Str)) (m : Nat), (∀ S ∈ f, S.length ≤ m) → ∀ S ∈ ns.foldl addTo f, S.length ≤ m + ns.length := by
    intro ns
    induction ns with
    | nil => intro f m h S hS; exact h S hS
    | cons n ns ih =>
      intro f m h S hS
      have := ih (addTo f n) (m + 1) (fun S hS => by
        rcases addTo_mem.mp hS with q | ⟨R, q, rfl⟩
        · have := h S q; omega
        · have := h R q; rw [List.length_append]; simp; omega) S hS
      rw [List.length_cons]; omega
  intro ns hk S hS
  have := this ns [[]] 0 (fun S h => by rw [List.mem_singleton.mp h]; exact Nat.le_refl 0) S hS
  omega
/-- lists of texts in the heap -/
def LS (H : Hp) : List (List Str) → List V → Prop
  | [], vs => vs = []
  | S :: Ss, vs => ∃ q r, vs = .ref q :: r ∧ H q = some (.lst (S.map V.str)) ∧ LS H Ss r
theorem LS.mono {H H' : Hp} (s : Same H H') : ∀ {Ss : List (List Str)} {vs : List V}, LS H Ss vs → LS H' Ss vs
  | [], vs, h => h
  | S :: Ss, vs, ⟨q, r, e, h1, h2⟩ => ⟨q, r, e, s _ _ h1, LS.mono s h2⟩
theorem LS.length {H : Hp} : ∀ {Ss : List (List Str)} {vs : List V}, LS H Ss vs → vs.length = Ss.length
  | [], vs, h => by subst h; rfl
  | S :: Ss, vs, ⟨q, r, e, _, h⟩ => by subst e; simp [LS.length h]
theorem LS.at_ {H : Hp} : ∀ {Ss : List (List Str)} {vs : List V} {i : Nat} {v : V}, LS H Ss vs → vs[i]? = some v → ∃ S q, Ss[i]? = some S ∧ v = .ref q ∧ H q = some (.lst (S.map V.str))
  | [], vs, i, v, h, e => by subst h; simp at e
  | S :: Ss, vs, 0, v, ⟨q, r, u, h1, h2⟩, e => by subst u; simp at e; subst e; exact ⟨S, q, rfl, rfl, h1⟩
  | S :: Ss, vs, i + 1, v, ⟨q, r, u, h1, h2⟩, e => by
    subst u
    obtain ⟨S', q', h3, h4⟩ := LS.at_ (i := i) h2 (by simpa using e)
    exact ⟨S', q', by simpa using h3, h4⟩
theorem LS.app {H : Hp} : ∀ {Ss : List (List Str)} {vs : List V} {Rs : List (List Str)} {ws : List V}, LS H Ss vs → LS H Rs ws → LS H (Ss ++ Rs) (vs ++ ws)
  | [], vs, Rs, ws, h, h' => by subst h; exact h'
  | S :: Ss, vs, Rs, ws, ⟨q, r, e, h1, h2⟩, h' => by subst e; exact ⟨q, r ++ ws, rfl, h1, LS.app h2 h'⟩
theorem LS.one {H : Hp} {q : Addr} {S : List Str} (h : H q = some (.lst (S.map V.str))) : LS H [S] [.ref q] := ⟨q, [], rfl, h, rfl⟩
end GG
namespace GG
open PySem PySem.Spec L2
/-! ### the law's names -/
def lets : List Nat := ("abcdefghijklmnopqrstuvw" : Str).cps.toList
def tls : List Str := ["", "", "x", "zy", "yxzzzz"]
def run (l : List Nat) : Nat × Nat := (l.headD 0, (l.takeWhile (· == l.headD 0)).length)
theorem tw_rep (c : Nat) (tl : List Nat) (h : tl = [] ∨ tl.headD 0 ≠ c) : ∀ r, (List.replicate r c ++ tl).takeWhile (· == c) = List.replicate r c
  | 0 => by
    rcases h with rfl | h
    · rfl
    · cases tl with
      | nil => rfl
      | cons x tl =>
        have : (x == c) = false := by simpa using h
        simp [List.takeWhile_cons, this]
  | r + 1 => by simp [List.replicate_succ, List.takeWhile_cons, tw_rep c tl h r]
theorem run_rep {c : Nat} {tl : List Nat} (h : tl = [] ∨ tl.headD 0 ≠ c) (r : Nat) : run (List.replicate (r + 1) c ++ tl) = (c, r + 1) := by
  have e : (List.replicate (r + 1) c ++ tl).headD 0 = c := by simp [List.replicate_succ]
  unfold run
  rw [e, tw_rep c tl h]
  simp
theorem tw_snoc {h x : Nat} : ∀ {l : List Nat}, l ≠ [] → (∀ y, l.getLast? = some y → y ≠ x) → (∀ y, l.getLast? = some y → (y == h) = false ∨ x ≠ h) → (l ++ [x]).takeWhile (· == h) = l.takeWhile (· == h) := by
  intro l
  induction l with
  | nil => intro n; exact absurd rfl n
  | cons a l ih =>
    intro _ h1 h2
    by_cases ha : (a == h) = true
    · simp only [List.cons_append, List.takeWhile_cons, ha, if_true]
      congr 1
      cases l with
      | nil =>
        have z := h2 a rfl
        rw [ha] at z
        have : (x == h) = false := by simpa using z
        simp [List.takeWhile_cons, this]
      | cons b l =>
        exact ih (by simp) (fun y hy => h1 y (by simpa using hy)) (fun y hy => h2 y (by simpa using hy))
    · simp [List.takeWhile_cons, ha]
theorem run_snoc {l : List Nat} {x y : Nat} (hl : l.getLast? = some y) (hne : y ≠ x) : run (l ++ [x]) = run l := by
  have n : l ≠ [] := by rintro rfl; cases hl
  have e : (l ++ [x]).headD 0 = l.headD 0 := by cases l with
    | nil => exact absurd rfl n
    | cons a l => rfl
  unfold run
  rw [e, tw_snoc n (fun z hz => by rw [hl] at hz; cases hz; exact hne) (fun z hz => by
    rw [hl] at hz; cases hz
    by_cases q : y = l.headD 0
    · right; rw [← q]; exact fun z => hne z.symm
    · left; simpa using q)]
theorem lets_len : lets.length = 23 := by decide +kernel
theorem lets_nd : lets.Nodup := by decide +kernel
theorem lets_alph : ∀ c ∈ lets, c ∈ alph := by decide +kernel
theorem tls_ok : ∀ z ∈ tls, z.length ≤ 6 ∧ (∀ c ∈ z.cps.toList, c ∈ alph) ∧ (z.cps.toList = [] ∨ z.cps.toList.headD 0 ∉ lets) := by decide +kernel
def letAt (j sh : Nat) : Nat := lets.getD ((j + sh) % 23) 0
theorem letAt_mem (j sh : Nat) : letAt j sh ∈ lets := by
  have h : (j + sh) % 23 < lets.length := by rw [lets_len]; exact Nat.mod_lt _ (by omega)
  unfold letAt
  rw [List.getD_eq_getElem?_getD, List.getElem?_eq_getElem h]
  exact List.getElem_mem h
theorem letAt_inj {j k sh : Nat} (h : letAt j sh = letAt k sh) : (j + sh) % 23 = (k + sh) % 23 := by
  have h1 : (j + sh) % 23 < lets.length := by rw [lets_len]; exact Nat.mod_lt _ (by omega)
  have h2 : (k + sh) % 23 < lets.length := by rw [lets_len]; exact Nat.mod_lt _ (by omega)
  unfold letAt at h
  rw [List.getD_eq_getElem?_getD, List.getD_eq_getElem?_getD, List.getElem?_eq_getElem h1, List.getElem?_eq_getElem h2] at h
  exact (List.getElem_inj lets_nd).mp h
/-- the names called so far -/
structure Cd (sh k : Nat) (fs : List Str) : Prop where
  len : fs.length = k
  nd : fs.Nodup
  nm : ∀ z ∈ fs, IsNm z ∧ ∃ j, j < k ∧ run z.cps.toList = (letAt j sh, 1 + j / 23)
  lst : ∀ l, fs.getLast? = some l → ∀ z ∈ fs, run z.cps.toList = run l.cps.toList → z.length ≤ l.length
theorem Cd.nil (sh : Nat) : Cd sh 0 [] := ⟨rfl, List.nodup_nil, fun z h => by simp at h, fun l h => by simp at h⟩
theorem Cd.fresh {sh k : Nat} {fs : List Str} (c : Cd sh k fs) (hk : k < 46) {z tl : Str} (ht : tl ∈ tls) (hz : z.cps.toList = List.replicate (1 + k / 23) (letAt k sh) ++ tl.cps.toList) : Cd sh (k + 1) (fs ++ [z]) := by
  obtain ⟨t1, t2, t3⟩ := tls_ok tl ht
  have t3' : tl.cps.toList = [] ∨ tl.cps.toList.headD 0 ≠ letAt k sh := t3.imp id fun h e => h (e ▸ letAt_mem k sh)
  have hr : run z.cps.toList = (letAt k sh, 1 + k / 23) := by rw [hz, Nat.add_comm 1]; exact run_rep t3' _
  have hl : z.length = 1 + k / 23 + tl.length := by
    show z.cps.size = _ + tl.cps.size
    rw [← Array.length_toList, hz, List.length_append, List.length_replicate, Array.length_toList]
  have old : ∀ w ∈ fs, run w.cps.toList ≠ run z.cps.toList := fun w hw e => by
    obtain ⟨j, hj, e2⟩ := (c.nm w hw).2
    rw [e2, hr] at e
    have e3 := letAt_inj (congrArg Prod.fst e)
    have e4 : 1 + j / 23 = 1 + k / 23 := congrArg Prod.snd e
    omega
  refine ⟨by rw [List.length_append, c.len]; rfl, ?_, fun w hw => ?_, fun l hl2 w hw e => ?_⟩
  · rw [List.nodup_append]
    refine ⟨c.nd, by simp, fun a ha b hb e => ?_⟩
    rw [List.mem_singleton.mp hb] at e
    exact old a ha (by rw [e])
  · rcases List.mem_append.mp hw with h | h
    · obtain ⟨a, j, hj, e⟩ := c.nm w h
      exact ⟨a, j, by omega, e⟩
    · rw [List.mem_singleton.mp h]
      refine ⟨⟨by omega, by omega, fun x hx => ?_⟩, k, by omega, hr⟩
      rw [hz] at hx
      rcases List.mem_append.mp hx with q | q
      · rw [(List.mem_replicate.mp q).2]; exact lets_alph _ (letAt_mem _ _)
      · exact t2 x q
  · rw [List.getLast?_append] at hl2
    obtain rfl : z = l := by simpa using hl2
    rcases List.mem_append.mp hw with h | h
    · exact absurd e (old w h)
    · rw [List.mem_singleton.mp h]; exact Nat.le_refl _
theorem Cd.chain {sh k : Nat} {fs : List Str} (c : Cd sh k fs) {l z : Str} {x y : Nat} (hl : fs.getLast? = some l) (h8 : l.length < 8) (hx : x ∈ alph) (hy : l.cps.toList.getLast? = some y) (hne : y ≠ x) (hz : z.cps.toList = l.cps.toList ++ [x]) : Cd sh (k + 1) (fs ++ [z]) := by
  have hm : l ∈ fs := List.mem_of_getLast? hl
  obtain ⟨nm, j, hj, hr⟩ := c.nm l hm
  have hrz : run z.cps.toList = run l.cps.toList := by rw [hz]; exact run_snoc hy hne
  have hlen : z.length = l.length + 1 := by
    show z.cps.size = l.cps.size + 1
    rw [← Array.length_toList, hz, List.length_append, Array.length_toList]; rfl
  refine ⟨by rw [List.length_append, c.len]; rfl, ?_, fun w hw => ?_, fun l2 hl2 w hw e => ?_⟩
  · rw [List.nodup_append]
    refine ⟨c.nd, by simp, fun a ha b hb e => ?_⟩
    rw [List.mem_singleton.mp hb] at e
    have := c.lst l hl a ha (by rw [e]; exact hrz)
    rw [e] at this; omega
  · rcases List.mem_append.mp hw with h | h
    · obtain ⟨a, j, hj, e⟩ := c.nm w h
      exact ⟨a, j, by omega, e⟩
    · rw [List.mem_singleton.mp h]
      refine ⟨⟨by omega, by omega, fun v hv => ?_⟩, j, by omega, by rw [hrz, hr]⟩
      rw [hz] at hv
      rcases List.mem_append.mp hv with q | q
      · exact nm.2.2 v q
      · rw [List.mem_singleton.mp q]; exact hx
  · rw [List.getLast?_append] at hl2
    obtain rfl : z = l2 := by simpa using hl2
    rcases List.mem_append.mp hw with h | h
    · have := c.lst l hl w h (by rw [e, hrz]); omega
    · rw [List.mem_singleton.mp h]; exact Nat.le_refl _
theorem mul_ch (c n : Nat) (h1 : 1 ≤ n) (h2 : n ≤ 2) : MulOk ⟨#[c]⟩ (n : Int) ∧ Txt.mul ⟨#[c]⟩ (n : Int) = ⟨(List.replicate n c).toArray⟩ := by
  have : n = 1 ∨ n = 2 := by omega
  rcases this with rfl | rfl
  · refine ⟨⟨by decide, fun _ h => by simp at h, fun _ h => by simp at h⟩, ?_⟩
    unfold Txt.mul
    rw [if_neg (by decide), if_pos (by simp)]
    rfl
  · refine ⟨⟨by decide, fun _ _ => by show ¬ ((1 : Nat) : Int) > _; decide, fun _ _ => by show Builtin.Str.tooLong (1 * 2) = false; decide⟩, ?_⟩
    unfold Txt.mul
    rw [if_neg (by decide), if_neg (by intro h; simp [Str.length] at h)]
    rfl
theorem cutS_last {z : Str} {y : Nat} (h : z.cps.toList.getLast? = some y) : cutS z (some (-1)) none = ⟨#[y]⟩ := by
  obtain ⟨ini, e⟩ : ∃ ini, z.cps.toList = ini ++ [y] := by
    refine ⟨z.cps.toList.dropLast, ?_⟩
    have n : z.cps.toList ≠ [] := by intro q; rw [q] at h; cases h
    have := List.dropLast_concat_getLast n
    rw [List.getLast?_eq_some_getLast n] at h
    rw [← Option.some.inj h]; exact this.symm
  have hl : z.length = ini.length + 1 := by
    show z.cps.size = _
    rw [← Array.length_toList, e, List.length_append]; rfl
  unfold cutS
  have e1 : HT.sIx z.length 0 (some (-1)) = ini.length := by
    show (if (-1 : Int) < 0 then ((-1 : Int) + (z.length : Int)).toNat else min (-1 : Int).toNat z.length) = _
    rw [if_pos (by decide), hl]; omega
  have e2 : HT.sIx z.length z.length none = z.length := HT.sIx_none _ _
  rw [e1, e2, e, hl]
  simp
end GG
namespace GG
open PySem PySem.Spec L2
theorem LS.mem {H : Hp} : ∀ {Ss : List (List Str)} {vs : List V}, LS H Ss vs → ∀ v ∈ vs, ∃ q o, v = .ref q ∧ H q = some o
  | [], vs, h, v, hv => by subst h; simp at hv
  | S :: Ss, vs, ⟨q, r, e, h1, h2⟩, v, hv => by
    subst e
    rcases List.mem_cons.mp hv with z | z
    · exact ⟨q, _, z, h1⟩
    · exact LS.mem h2 v z
theorem LS.keep {H H' : Hp} {q : Addr} (s : ∀ b o, b ≠ q → H b = some o → H' b = some o) : ∀ {Ss : List (List Str)} {vs : List V}, LS H Ss vs → V.ref q ∉ vs → LS H' Ss vs
  | [], vs, h, _ => h
  | S :: Ss, vs, ⟨b, r, e, h1, h2⟩, n => by
    subst e
    have n1 : b ≠ q := fun z => n (by rw [z]; exact List.mem_cons_self ..)
    exact ⟨b, r, rfl, s _ _ n1 h1, LS.keep s h2 fun z => n (List.mem_cons_of_mem _ z)⟩
theorem LS.put {H H' : Hp} {q : Addr} {S : List Str} (s : ∀ b o, b ≠ q → H b = some o → H' b = some o) (hq : H' q = some (.lst (S.map V.str))) :
    ∀ {Ss : List (List Str)} {vs : List V} {j : Nat}, LS H Ss vs → vs.Nodup → vs[j]? = some (.ref q) → LS H' (Ss.set j S) vs
  | [], vs, j, h, _, e => by subst h; simp at e
  | R :: Ss, vs, 0, ⟨b, r, e, h1, h2⟩, nd, hj => by
    subst e
    simp at hj; subst hj
    exact ⟨b, r, rfl, hq, h2.keep s (List.nodup_cons.mp nd).1⟩
  | R :: Ss, vs, j + 1, ⟨b, r, e, h1, h2⟩, nd, hj => by
    subst e
    have hj' : r[j]? = some (.ref q) := by simpa using hj
    have n1 : b ≠ q := fun z => (List.nodup_cons.mp nd).1 (by rw [z]; exact List.mem_of_getElem? hj')
    exact ⟨b, r, rfl, s _ _ n1 h1, LS.put s hq h2 (List.nodup_cons.mp nd).2 hj'⟩
theorem flat_put {n : Str} : ∀ {Ss : List (List Str)} {j : Nat} {R : List Str}, Ss[j]? = some R → (Ss.set j (R ++ [n])).flatten.Perm (Ss.flatten ++ [n])
  | [], j, R, h => by simp at h
  | S :: Ss, 0, R, h => by
    simp at h; subst h
    rw [List.set_cons_zero, List.flatten_cons, List.flatten_cons, List.append_assoc, List.append_assoc]
    exact (List.perm_append_left_iff _).mpr List.perm_append_comm
  | S :: Ss, j + 1, R, h => by
    rw [List.set_cons_succ, List.flatten_cons, List.flatten_cons, List.append_assoc]
    exact (List.perm_append_left_iff _).mpr (flat_put (by simpa using h))
theorem flat_filter : ∀ Ss : List (List Str), (Ss.filter fun R => !R.isEmpty).flatten = Ss.flatten
  | [] => rfl
  | [] :: Ss => by rw [List.filter_cons]; simpa using flat_filter Ss
  | (a :: l) :: Ss => by rw [List.filter_cons]; simpa using flat_filter Ss
theorem flat_rep (n : Nat) : (List.replicate n ([] : List Str)).flatten = [] := by
  induction n with
  | zero => rfl
  | succ n ih => rw [List.replicate_succ, List.flatten_cons, ih]; rfl
theorem flat_len : ∀ {Ss : List (List Str)}, (∀ R ∈ Ss, R ≠ []) → Ss.length ≤ Ss.flatten.length
  | [], _ => Nat.le_refl _
  | R :: Ss, h => by
    have := flat_len (Ss := Ss) fun R hR => h R (List.mem_cons_of_mem _ hR)
    have n := h R (List.mem_cons_self ..)
    have : 0 < R.length := by
      rcases Nat.eq_zero_or_pos R.length with z | z
      · exact absurd (List.length_eq_zero_iff.mp z) n
      · exact z
    rw [List.flatten_cons, List.length_append, List.length_cons]; omega
theorem flat_lt : ∀ {Ss : List (List Str)}, (∀ R ∈ Ss, R ≠ []) → 2 ≤ Ss.length → ∀ R ∈ Ss, R.length < Ss.flatten.length
  | [], _, h, R, hR => by simp at hR
  | S :: Ss, hn, h2, R, hR => by
    have fl := flat_len (Ss := Ss) fun R hR => hn R (List.mem_cons_of_mem _ hR)
    rw [List.length_cons] at h2
    rw [List.flatten_cons, List.length_append]
    rcases List.mem_cons.mp hR with z | z
    · subst z; omega
    · have ns := hn S (List.mem_cons_self ..)
      have : 0 < S.length := by
        rcases Nat.eq_zero_or_pos S.length with z | z
        · exact absurd (List.length_eq_zero_iff.mp z) ns
        · exact z
      have : R.length ≤ Ss.flatten.length := (List.sublist_flatten_of_mem z).length_le
      omega
theorem cutV_take1 {xs : List V} : cutV xs none (some 1) = xs.take 1 := by
  unfold cutV
  rw [HT.sIx_none, show (1 : Int) = ((1 : Nat) : Int) from rfl, HT.sIx_nat, List.drop_zero]
  cases xs with
  | nil => rfl
  | cons a l => simp
theorem cutV_drop1 {xs : List V} : cutV xs (some 1) none = xs.drop 1 := by
  unfold cutV
  rw [HT.sIx_none, show (1 : Int) = ((1 : Nat) : Int) from rfl, HT.sIx_nat]
  cases xs with
  | nil => rfl
  | cons a l => simp
end GG
namespace GG
open PySem PySem.Spec L2
theorem depth_ints : ∀ ns : List Int, PyData.depth (.list (ns.map .int)) ≤ 2 ∧ PyData.depth (.tuple (ns.map .int)) ≤ 2 := by
  intro ns
  have h : ∀ ns : List Int, PyData.depthAll (ns.map .int) ≤ 1 := by
    intro ns
    induction ns with
    | nil => simp [PyData.depthAll]
    | cons a l ih => simp only [List.map_cons, PyData.depthAll, PyData.depth]; omega
  have := h ns
  constructor <;> simp only [PyData.depth] <;> omega
theorem can_ints (ns : List Int) : PyData.canLay0 (.list (ns.map .int)) = true ∧ PyData.canLay0 (.tuple (ns.map .int)) = true := by
  constructor <;> simp only [PyData.canLay0] <;> exact PyProof.Rows.canLayAll_ints ns
theorem shaped_ints (ns : List Int) : SeqAt.shaped (.list (ns.map .int)) = true ∧ SeqAt.shaped (.tuple (ns.map .int)) = true := by
  have := depth_ints ns
  constructor
  · exact Bool.and_eq_true_iff.mpr ⟨(can_ints ns).1, decide_eq_true (by omega)⟩
  · exact Bool.and_eq_true_iff.mpr ⟨(can_ints ns).2, decide_eq_true (by omega)⟩
theorem dpa_ints {K : PySem.W.Frag} {H : Hp} : ∀ ns : List Int, DpAll K H (ns.map V.int) (ns.map .int)
  | [] => .nil
  | a :: l => .cons (.int a) (dpa_ints l)
theorem dp_lst {K : PySem.W.Frag} {H : Hp} {a : Addr} {ns : List Int} (h : H a = some (.lst (ns.map V.int))) : Dp K H (.ref a) (.list (ns.map .int)) := .lst (SqL.of h) (dpa_ints ns)
theorem dp_tup {K : PySem.W.Frag} {H : Hp} {a : Addr} {ns : List Int} (h : H a = some (.tup (ns.map V.int))) : Dp K H (.ref a) (.tuple (ns.map .int)) := .tup (SqT.of h) (dpa_ints ns)
theorem eqv_ints (ns : List Int) : PyData.eqv (.list (ns.map .int)) (.list (ns.map .int)) = true ∧ PyData.eqv (.tuple (ns.map .int)) (.tuple (ns.map .int)) = true :=
  ⟨SeqAt.eqv_refl _ (can_ints ns).1, SeqAt.eqv_refl _ (can_ints ns).2⟩
end GG
/-! the plain law of the counts -/
namespace GG
open PySem L2
theorem setsOf_mem : ∀ {ns : List Str} {S : List Str}, S ∈ setsOf ns ↔ S.Sublist ns := by
  have key : ∀ (k : Nat) (ns : List Str), ns.length = k → ∀ S, S ∈ setsOf ns ↔ S.Sublist ns := by
    intro k
    induction k with
    | zero =>
      intro ns h S
      rw [List.length_eq_zero_iff.mp h]
      constructor
      · intro q
        have : S ∈ ([[]] : List (List Str)) := q
        rw [List.mem_singleton.mp this]
        exact List.Sublist.slnil
      · intro q
        rw [List.sublist_nil.mp q]
        exact List.mem_singleton.mpr rfl
    | succ k ih =>
      intro ns h S
      have hne : ns ≠ [] := by rintro rfl; simp at h
      obtain ⟨i, x, e⟩ : ∃ i x, ns = i ++ [x] := ⟨ns.dropLast, ns.getLast hne, (List.dropLast_concat_getLast hne).symm⟩
      subst e
      have hi : i.length = k := by rw [List.length_append] at h; simpa using h
      rw [setsOf_snoc, addTo_mem, ih i hi, List.sublist_append_iff]
      constructor
      · rintro (q | ⟨R, q, rfl⟩)
        · exact ⟨S, [], by simp, q, List.nil_sublist _⟩
        · exact ⟨R, [x], rfl, (ih i hi R).mp q, List.Sublist.refl _⟩
      · rintro ⟨a, b, rfl, h1, h2⟩
        rcases b with _ | ⟨y, b⟩
        · left; simpa using h1
        · have hl := h2.length_le
          have b0 : b = [] := by
            rw [List.length_cons, List.length_singleton] at hl
            exact List.length_eq_zero_iff.mp (by omega)
          have yx := List.mem_singleton.mp (h2.subset (List.mem_cons_self ..))
          right; exact ⟨a, (ih i hi a).mpr h1, by rw [b0, yx]⟩
  intro ns S
  exact key _ ns rfl S
mutual
theorem T.low_congr {S S' : List Str} : ∀ (t : T), (∀ x ∈ t.names, x ∈ S ↔ x ∈ S') → t.low S = t.low S'
  | .leaf n, h => by
    have := h n (List.mem_cons_self ..)
    rw [T.low, T.low]
    by_cases q : n ∈ S
    · rw [if_pos q, if_pos (this.mp q)]
    · rw [if_neg q, if_neg (fun z => q (this.mpr z))]
  | .grp rk ps, h => by
    rw [T.low, T.low, T.lowL_congr ps fun x hx => h x (by rw [T.names]; exact hx)]
theorem T.lowL_congr {S S' : List Str} : ∀ (ts : List T), (∀ x ∈ T.namesL ts, x ∈ S ↔ x ∈ S') → T.lowL S ts = T.lowL S' ts
  | [], _ => rfl
  | t :: ts, h => by
    rw [T.lowL, T.lowL, T.low_congr t fun x hx => h x (by rw [T.namesL]; exact List.mem_append_left _ hx), T.lowL_congr ts fun x hx => h x (by rw [T.namesL]; exact List.mem_append_right _ hx)]
end
mutual
theorem T.low_le {S : List Str} : ∀ t : T, t.low S ≤ t.width
  | .leaf n => by rw [T.low, T.width]; split <;> omega
  | .grp rk ps => by rw [T.low, T.width]; exact List.length_filter_le _ _
theorem T.lowL_le {S : List Str} : ∀ ts : List T, T.lowL S ts ≤ T.taken ts
  | [] => Nat.le_refl _
  | t :: ts => by rw [T.lowL, T.taken]; have := T.low_le (S := S) t; have := T.lowL_le (S := S) ts; omega
end
theorem cnt_mono {l : List Int} {a b : Int} (h : a ≤ b) : (l.filter fun r => decide (r ≤ a)).length ≤ (l.filter fun r => decide (r ≤ b)).length := by
  rw [← List.countP_eq_length_filter, ← List.countP_eq_length_filter]
  exact List.countP_mono_left fun x _ hx => decide_eq_true (by have := of_decide_eq_true hx; omega)
theorem cnt_step : ∀ {l : List Int} {a : Int}, l.Pairwise (· < ·) → (l.filter fun r => decide (r ≤ a + 1)).length ≤ (l.filter fun r => decide (r ≤ a)).length + 1
  | [], a, _ => by simp
  | x :: l, a, p => by
    have q := List.pairwise_cons.mp p
    rw [List.filter_cons, List.filter_cons]
    by_cases h : x ≤ a
    · have h' : x ≤ a + 1 := by omega
      rw [if_pos (decide_eq_true h), if_pos (decide_eq_true h'), List.length_cons, List.length_cons]
      have := cnt_step (l := l) (a := a) q.2
      omega
    · have rest : l.filter (fun r => decide (r ≤ a + 1)) = [] := by
        rw [List.filter_eq_nil_iff]
        intro y hy
        have := q.1 y hy
        simp only [decide_eq_true_eq]
        omega
      split
      · rw [rest, List.length_cons, List.length_nil]; omega
      · rw [rest, List.length_nil]; omega
mutual
theorem T.low_step {S : List Str} {x : Str} : ∀ (t : T), t.Sh → t.names.Nodup → t.low S ≤ t.low (x :: S) ∧ t.low (x :: S) ≤ t.low S + (if x ∈ t.names then 1 else 0)
  | .leaf n, _, _ => by
    rw [T.low, T.low, T.names]
    by_cases q : n ∈ S
    · rw [if_pos q, if_pos (List.mem_cons_of_mem _ q)]
      constructor
      · omega
      · split <;> omega
    · rw [if_neg q]
      by_cases z : n = x
      · subst z
        rw [if_pos (List.mem_cons_self ..), if_pos (List.mem_cons_self ..)]
        omega
      · rw [if_neg (by intro w; rcases List.mem_cons.mp w with w | w; exact z w; exact q w)]
        omega
  | .grp rk ps, sh, nd => by
    rw [T.Sh] at sh
    rw [T.names] at nd ⊢
    obtain ⟨a, b⟩ := T.lowL_step (S := S) (x := x) ps sh.2.2 nd
    rw [T.low, T.low]
    refine ⟨cnt_mono (by omega), ?_⟩
    split
    · rename_i hx
      rw [if_pos hx] at b
      have h1 := cnt_mono (l := rk) (a := (T.lowL (x :: S) ps : Int)) (b := (T.lowL S ps : Int) + 1) (by omega)
      have h2 := cnt_step (l := rk) (a := (T.lowL S ps : Int)) sh.2.1.asc
      omega
    · rename_i hx
      rw [if_neg hx] at b
      have h1 := cnt_mono (l := rk) (a := (T.lowL (x :: S) ps : Int)) (b := (T.lowL S ps : Int)) (by omega)
      omega
theorem T.lowL_step {S : List Str} {x : Str} : ∀ (ts : List T), T.ShL ts → (T.namesL ts).Nodup → T.lowL S ts ≤ T.lowL (x :: S) ts ∧ T.lowL (x :: S) ts ≤ T.lowL S ts + (if x ∈ T.namesL ts then 1 else 0)
  | [], _, _ => by rw [T.lowL, T.lowL]; omega
  | t :: ts, sh, nd => by
    rw [T.ShL] at sh
    rw [T.namesL] at nd ⊢
    obtain ⟨n1, n2, n3⟩ := List.nodup_append.mp nd
    obtain ⟨a, b⟩ := T.low_step (S := S) (x := x) t sh.1 n1
    obtain ⟨c, d⟩ := T.lowL_step (S := S) (x := x) ts sh.2 n2
    rw [T.lowL, T.lowL]
    refine ⟨by omega, ?_⟩
    by_cases h1 : x ∈ t.names
    · have h2 : x ∉ T.namesL ts := fun h2 => n3 x h1 x h2 rfl
      rw [if_pos h1] at b
      rw [if_neg h2] at d
      rw [if_pos (List.mem_append_left _ h1)]
      omega
    · rw [if_neg h1] at b
      by_cases h2 : x ∈ T.namesL ts
      · rw [if_pos h2] at d
        rw [if_pos (List.mem_append_right _ h2)]
        omega
      · rw [if_neg h2] at d
        rw [if_neg (by intro w; rcases List.mem_append.mp w with w | w; exact h1 w; exact h2 w)]
        omega
end
mutual
theorem T.low_nil : ∀ t : T, t.Sh → t.low [] = 0
  | .leaf n, _ => by rw [T.low]; simp
  | .grp rk ps, sh => by
    rw [T.Sh] at sh
    rw [T.low, T.lowL_nil ps sh.2.2, List.length_eq_zero_iff, List.filter_eq_nil_iff]
    intro r hr
    have := sh.2.1.lo r hr
    simp only [decide_eq_true_eq]
    omega
theorem T.lowL_nil : ∀ ts : List T, T.ShL ts → T.lowL [] ts = 0
  | [], _ => rfl
  | t :: ts, sh => by rw [T.ShL] at sh; rw [T.lowL, T.low_nil t sh.1, T.lowL_nil ts sh.2]
end
/-- some sublist has just so many low ends -/
theorem T.exact {t : T} (sh : t.Sh) (nd : t.names.Nodup) {q : Nat} : ∀ (S : List Str), q ≤ t.low S → ∃ S', S'.Sublist S ∧ t.low S' = q
  | [], h => ⟨[], List.Sublist.slnil, by rw [T.low_nil t sh] at h ⊢; omega⟩
  | x :: S, h => by
    by_cases c : q ≤ t.low S
    · obtain ⟨S', a, b⟩ := T.exact sh nd S c
      exact ⟨S', a.cons _, b⟩
    · have st := (T.low_step (S := S) (x := x) t sh nd).2
      have : (if x ∈ t.names then 1 else 0) ≤ 1 := by split <;> omega
      exact ⟨x :: S, List.Sublist.refl _, by omega⟩
/-- c tells the least sizes of sublists with at least so many -/
def Lst (f : List Str → Nat) (ns : List Str) (c : List Int) : Prop :=
  ∀ q, q < c.length → (∀ S, S.Sublist ns → q ≤ f S → c.getD q 0 ≤ (S.length : Int)) ∧ ∃ S, S.Sublist ns ∧ q ≤ f S ∧ (S.length : Int) = c.getD q 0
theorem conv_at {a b : List Int} {k : Nat} (h : k < a.length + b.length - 1) : (conv a b).getD k 0 = minl (sumsAt a b k) := by
  unfold conv
  rw [List.getD_eq_getElem?_getD, List.getElem?_map, List.getElem?_range h]
  rfl
theorem Lst.conv {f1 f2 : List Str → Nat} {n1 n2 : List Str} {c1 c2 : List Int} (h1 : Lst f1 n1 c1) (h2 : Lst f2 n2 c2) (l1 : ∀ S, f1 S < c1.length) (l2 : ∀ S, f2 S < c2.length)
    (g1 : ∀ S S', (∀ x ∈ n1, x ∈ S ↔ x ∈ S') → f1 S = f1 S') (g2 : ∀ S S', (∀ x ∈ n2, x ∈ S ↔ x ∈ S') → f2 S = f2 S') (dj : ∀ x ∈ n1, ∀ y ∈ n2, x ≠ y) : Lst (fun S => f1 S + f2 S) (n1 ++ n2) (conv c1 c2) := by
  have p1 := l1 []
  have p2 := l2 []
  intro k hk
  rw [conv_len] at hk
  rw [conv_at hk]
  have ne := sums_ne (a := c1) (b := c2) (k := k) (List.ne_nil_of_length_pos (by omega)) (List.ne_nil_of_length_pos (by omega)) hk
  obtain ⟨mm, ml⟩ := minl_spec ne
  have loc : ∀ S1 S2 : List Str, S1.Sublist n1 → S2.Sublist n2 → f1 (S1 ++ S2) = f1 S1 ∧ f2 (S1 ++ S2) = f2 S2 := fun S1 S2 a b => by
    refine ⟨g1 _ _ fun x hx => ?_, g2 _ _ fun x hx => ?_⟩
    · rw [List.mem_append]
      exact ⟨fun z => z.elim id fun z => absurd rfl (dj x hx x (b.subset z)), Or.inl⟩
    · rw [List.mem_append]
      exact ⟨fun z => z.elim (fun z => absurd rfl (dj x (a.subset z) x hx)) id, Or.inr⟩
  constructor
  · intro S hS hf
    obtain ⟨S1, S2, rfl, a, b⟩ := List.sublist_append_iff.mp hS
    obtain ⟨e1, e2⟩ := loc S1 S2 a b
    simp only [e1, e2] at hf
    have k1 := l1 S1
    have k2 := l2 S2
    have i1 := (h1 (min (f1 S1) k) (by omega)).1 S1 a (by omega)
    have i2 := (h2 (k - min (f1 S1) k) (by omega)).1 S2 b (by omega)
    have := ml _ (sums_mem.mpr ⟨min (f1 S1) k, by omega, by omega, by omega, rfl⟩)
    rw [List.length_append]
    omega
  · obtain ⟨i, hi, hik, hj, e⟩ := sums_mem.mp mm
    obtain ⟨S1, a, fa, la⟩ := (h1 i hi).2
    obtain ⟨S2, b, fb, lb⟩ := (h2 (k - i) hj).2
    obtain ⟨e1, e2⟩ := loc S1 S2 a b
    refine ⟨S1 ++ S2, a.append b, ?_, ?_⟩
    · simp only [e1, e2]; omega
    · rw [List.length_append, e]; omega
theorem cnt_ge : ∀ {l : List Int} {m : Int} {q : Nat}, l.Pairwise (· < ·) → q < l.length → (q + 1 ≤ (l.filter fun r => decide (r ≤ m)).length ↔ l.getD q 0 ≤ m)
  | [], m, q, _, h => by simp at h
  | x :: l, m, 0, p, _ => by
    rw [List.filter_cons]
    have q := List.pairwise_cons.mp p
    by_cases h : x ≤ m
    · rw [if_pos (decide_eq_true h), List.length_cons]
      constructor
      · intro _; exact h
      · intro _; omega
    · have rest : l.filter (fun r => decide (r ≤ m)) = [] := by
        rw [List.filter_eq_nil_iff]
        intro y hy
        have := q.1 y hy
        simp only [decide_eq_true_eq]
        omega
      rw [if_neg (by simpa using h), rest]
      constructor
      · intro z; simp at z
      · intro z; exact absurd z h
  | x :: l, m, q + 1, p, hq => by
    have pc := List.pairwise_cons.mp p
    rw [List.length_cons] at hq
    have ih := cnt_ge (l := l) (m := m) (q := q) pc.2 (by omega)
    rw [List.filter_cons, List.getD_cons_succ, ← ih]
    by_cases h : x ≤ m
    · rw [if_pos (decide_eq_true h), List.length_cons]; omega
    · have rest : l.filter (fun r => decide (r ≤ m)) = [] := by
        rw [List.filter_eq_nil_iff]
        intro y hy
        have := pc.1 y hy
        simp only [decide_eq_true_eq]
        omega
      rw [if_neg (by simpa using h), rest]
      simp
theorem T.lowL_append (S : List Str) : ∀ (as bs : List T), T.lowL S (as ++ bs) = T.lowL S as + T.lowL S bs
  | [], bs => by rw [List.nil_append, T.lowL]; omega
  | a :: as, bs => by rw [List.cons_append, T.lowL, T.lowL, T.lowL_append S as bs]; omega
theorem T.namesL_append (as bs : List T) : T.namesL (as ++ bs) = T.namesL as ++ T.namesL bs := by
  rw [T.namesL_eq, T.namesL_eq, T.namesL_eq, List.flatMap_append]
theorem T.taken_append : ∀ (as bs : List T), T.taken (as ++ bs) = T.taken as + T.taken bs
  | [], bs => by rw [List.nil_append, T.taken]; omega
  | a :: as, bs => by rw [List.cons_append, T.taken, T.taken, T.taken_append as bs]; omega
theorem cntL_ok : ∀ (ts pre : List T) (acc : List Int), Lst (fun S => T.lowL S pre) (T.namesL pre) acc → acc.length = T.taken pre + 1 → (T.namesL (pre ++ ts)).Nodup → (∀ t ∈ ts, Lst (fun S => t.low S) t.names t.cnt) →
    Lst (fun S => T.lowL S (pre ++ ts)) (T.namesL (pre ++ ts)) (T.cntL ts acc)
  | [], pre, acc, h, _, _, _ => by rw [T.cntL, List.append_nil]; exact h
  | t :: ts, pre, acc, h, hl, nd, hts => by
    have e : pre ++ t :: ts = (pre ++ [t]) ++ ts := by simp
    rw [T.cntL, e]
    rw [e] at nd
    have nd' := nd
    rw [T.namesL_append] at nd'
    obtain ⟨n1, _, _⟩ := List.nodup_append.mp nd'
    rw [T.namesL_append] at n1
    obtain ⟨_, _, n3⟩ := List.nodup_append.mp n1
    have one : T.namesL [t] = t.names := by rw [T.namesL, T.namesL, List.append_nil]
    rw [one] at n3
    have cl := conv_len acc t.cnt
    have tl := T.cnt_len t
    refine cntL_ok ts (pre ++ [t]) (conv acc t.cnt) ?_ ?_ nd fun u hu => hts u (List.mem_cons_of_mem _ hu)
    · have := Lst.conv h (hts t (List.mem_cons_self ..)) (fun S => by have := T.lowL_le (S := S) pre; omega) (fun S => by have := T.low_le (S := S) t; omega)
        (fun S S' g => T.lowL_congr pre g) (fun S S' g => T.low_congr t g) n3
      rw [T.namesL_append, one]
      have ef : (fun S => T.lowL S (pre ++ [t])) = fun S => T.lowL S pre + t.low S := by
        funext S
        rw [T.lowL_append, T.lowL, T.lowL]; rfl
      rw [ef]
      exact this
    · rw [cl, tl, hl, T.taken_append, T.taken, T.taken]; omega
mutual
theorem cnt_ok : ∀ t : T, t.Sh → t.names.Nodup → Lst (fun S => t.low S) t.names t.cnt
  | .leaf n, _, _ => by
    intro q hq
    rw [T.cnt] at hq ⊢
    rw [T.names]
    have : q = 0 ∨ q = 1 := by simp at hq; omega
    rcases this with rfl | rfl
    · exact ⟨fun S _ _ => by show (0 : Int) ≤ _; omega, [], List.nil_sublist _, Nat.zero_le _, rfl⟩
    · refine ⟨fun S hS hf => ?_, [n], List.Sublist.refl _, by show 1 ≤ T.low [n] (.leaf n); rw [T.low, if_pos (List.mem_cons_self ..)]; exact Nat.le_refl _, rfl⟩
      show (1 : Int) ≤ _
      have hf : 1 ≤ T.low S (.leaf n) := hf
      rw [T.low] at hf
      split at hf
      · rename_i hm
        have := List.length_pos_of_mem hm
        omega
      · omega
  | .grp rk ps, sh, nd => by
    have sh' := sh
    rw [T.Sh] at sh
    rw [T.names] at nd
    have base : Lst (fun S => T.lowL S []) (T.namesL []) [0] := by
      intro q hq
      obtain rfl : q = 0 := by simp at hq; omega
      exact ⟨fun S _ _ => by show (0 : Int) ≤ _; omega, [], List.nil_sublist _, Nat.zero_le _, rfl⟩
    have L := cntL_ok ps [] [0] base rfl (by simpa using nd) (cntAll_ok ps sh.2.2 nd)
    simp only [List.nil_append] at L
    have ll := (T.cntL_len ps [0] (by simp)).1
    intro q hq
    rw [T.cnt] at hq ⊢
    rw [T.names]
    cases q with
    | zero => exact ⟨fun S _ _ => by show (0 : Int) ≤ _; omega, [], List.nil_sublist _, Nat.zero_le _, rfl⟩
    | succ q =>
      rw [List.length_cons, List.length_map] at hq
      have hq' : q < rk.length := by omega
      have eg : (List.map (fun r => (T.cntL ps [0]).getD r.toNat 0) rk).getD q 0 = (T.cntL ps [0]).getD (rk.getD q 0).toNat 0 := by
        simp only [List.getD_eq_getElem?_getD, List.getElem?_map, List.getElem?_eq_getElem hq']
        rfl
      rw [List.getD_cons_succ, eg]
      have hm : rk.getD q 0 ∈ rk := by
        rw [List.getD_eq_getElem?_getD, List.getElem?_eq_getElem hq']
        exact List.getElem_mem hq'
      have lo := sh.2.1.lo _ hm
      have hi := sh.2.1.hi _ hm
      have cg := fun S => cnt_ge (m := (T.lowL S ps : Int)) sh.2.1.asc hq'
      obtain ⟨a, S0, s1, s2, s3⟩ := L (rk.getD q 0).toNat (by rw [ll, List.length_singleton]; omega)
      have s2 : (rk.getD q 0).toNat ≤ T.lowL S0 ps := s2
      refine ⟨fun S hS hf => a S hS ?_, S0, s1, ?_, s3⟩
      · have hf : q + 1 ≤ T.low S (.grp rk ps) := hf
        rw [T.low] at hf
        have := (cg S).mp hf
        show (rk.getD q 0).toNat ≤ T.lowL S ps
        omega
      · show q + 1 ≤ T.low S0 (.grp rk ps)
        rw [T.low]
        exact (cg S0).mpr (by omega)
theorem cntAll_ok : ∀ ts : List T, T.ShL ts → (T.namesL ts).Nodup → ∀ t ∈ ts, Lst (fun S => t.low S) t.names t.cnt
  | [], _, _, t, ht => by simp at ht
  | u :: ts, sh, nd, t, ht => by
    rw [T.ShL] at sh
    rw [T.namesL] at nd
    obtain ⟨n1, n2, _⟩ := List.nodup_append.mp nd
    rcases List.mem_cons.mp ht with z | z
    · rw [z]; exact cnt_ok u sh.1 n1
    · exact cntAll_ok ts sh.2 n2 t z
end
/-- the least number of low leaves for just so many low ends -/
theorem cnt_exact {t : T} (sh : t.Sh) (nd : t.names.Nodup) {k : Nat} (hk : k ≤ t.width) :
    (∀ S, S.Sublist t.names → t.low S = k → t.cnt.getD k 0 ≤ (S.length : Int)) ∧ ∃ S, S.Sublist t.names ∧ t.low S = k ∧ (S.length : Int) = t.cnt.getD k 0 := by
  have l := T.cnt_len t
  obtain ⟨a, S, s1, s2, s3⟩ := cnt_ok t sh nd k (by omega)
  refine ⟨fun S hS e => a S hS (by show k ≤ t.low S; omega), ?_⟩
  obtain ⟨S', b1, b2⟩ := T.exact sh nd S s2
  refine ⟨S', b1.trans s1, b2, ?_⟩
  have h1 := a S' (b1.trans s1) (by show k ≤ t.low S'; omega)
  have h2 := b1.length_le
  omega
mutual
theorem T.low_mirror {S C : List Str} : ∀ (t : T), (∀ x ∈ t.names, x ∈ C ↔ x ∉ S) → t.mirror.low C + t.low S = t.width
  | .leaf n, h => by
    have := h n (List.mem_cons_self ..)
    rw [T.mirror, T.low, T.low, T.width]
    by_cases q : n ∈ S
    · rw [if_pos q, if_neg (fun z => this.mp z q)]
    · rw [if_neg q, if_pos (this.mpr q)]
  | .grp rk ps, h => by
    have ih := T.lowL_mirror ps fun x hx => h x (by rw [T.names]; exact hx)
    rw [T.mirror, T.low, T.low, T.width]
    rw [← List.countP_eq_length_filter, ← List.countP_eq_length_filter, List.countP_map, List.countP_reverse]
    have e : List.countP ((fun r => decide (r ≤ (T.lowL C (T.mirrorL ps) : Int))) ∘ fun r => (T.taken ps : Int) + 1 - r) rk = List.countP (fun r => !decide (r ≤ (T.lowL S ps : Int))) rk := by
      refine List.countP_congr fun r _ => ?_
      simp only [Function.comp, decide_eq_true_eq, Bool.not_eq_true', decide_eq_false_iff_not]
      omega
    rw [e]
    have := List.length_eq_countP_add_countP (fun r => decide (r ≤ (T.lowL S ps : Int))) (l := rk)
    have e2 : List.countP (fun r => !decide (r ≤ (T.lowL S ps : Int))) rk = List.countP (fun a => decide (¬ decide (a ≤ (T.lowL S ps : Int)) = true)) rk := by
      refine List.countP_congr fun r _ => ?_
      simp
    omega
theorem T.lowL_mirror {S C : List Str} : ∀ (ts : List T), (∀ x ∈ T.namesL ts, x ∈ C ↔ x ∉ S) → T.lowL C (T.mirrorL ts) + T.lowL S ts = T.taken ts
  | [], _ => rfl
  | t :: ts, h => by
    have a := T.low_mirror t fun x hx => h x (by rw [T.namesL]; exact List.mem_append_left _ hx)
    have b := T.lowL_mirror ts fun x hx => h x (by rw [T.namesL]; exact List.mem_append_right _ hx)
    rw [T.mirrorL, T.lowL, T.lowL, T.taken]; omega
end
theorem sub_len : ∀ {ns S : List Str}, S.Sublist ns → ns.Nodup → (ns.filter fun x => decide (x ∈ S)).length = S.length
  | _, _, .slnil, _ => rfl
  | _, _, @List.Sublist.cons _ S ns a h, nd => by
    obtain ⟨n1, n2⟩ := List.nodup_cons.mp nd
    rw [List.filter_cons, if_neg (by simpa using fun z => n1 (h.subset z)), sub_len h n2]
  | _, _, @List.Sublist.cons_cons _ S ns a h, nd => by
    obtain ⟨n1, n2⟩ := List.nodup_cons.mp nd
    rw [List.filter_cons, if_pos (by simp), List.length_cons, List.length_cons]
    have e : ns.filter (fun x => decide (x ∈ a :: S)) = ns.filter fun x => decide (x ∈ S) := by
      refine List.filter_congr fun x hx => ?_
      have : x ≠ a := by rintro rfl; exact n1 hx
      simp [this]
    rw [e, sub_len h n2]
def compl (ns S : List Str) : List Str := ns.filter fun x => !decide (x ∈ S)
theorem compl_len {ns S : List Str} (h : S.Sublist ns) (nd : ns.Nodup) : (compl ns S).length + S.length = ns.length := by
  have a := sub_len h nd
  unfold compl
  rw [← List.countP_eq_length_filter] at a ⊢
  have := List.length_eq_countP_add_countP (fun x => decide (x ∈ S)) (l := ns)
  have e2 : List.countP (fun x => !decide (x ∈ S)) ns = List.countP (fun a => decide (¬ decide (a ∈ S) = true)) ns := by
    refine List.countP_congr fun r _ => ?_
    simp
  omega
theorem compl_mem {ns S : List Str} {x : Str} (h : x ∈ ns) : x ∈ compl ns S ↔ x ∉ S := by
  unfold compl
  rw [List.mem_filter]
  simp [h]
theorem compl_sub (ns S : List Str) : (compl ns S).Sublist ns := List.filter_sublist
/-- the greatest number -/
theorem cnt_great {t : T} (sh : t.Sh) (nd : t.names.Nodup) {k : Nat} (hk : k ≤ t.width) :
    (∀ S, S.Sublist t.names → t.low S = k → (S.length : Int) ≤ (t.names.length : Int) - t.mirror.cnt.getD (t.width - k) 0) ∧ ∃ S, S.Sublist t.names ∧ t.low S = k ∧ (S.length : Int) = (t.names.length : Int) - t.mirror.cnt.getD (t.width - k) 0 := by
  have nm := T.names_mirror t
  have wm := T.width_mirror t
  obtain ⟨a, C, c1, c2, c3⟩ := cnt_exact (T.sh_mirror sh) (by rw [nm]; exact nd) (k := t.width - k) (by omega)
  rw [nm] at a c1
  constructor
  · intro S hS e
    have m := T.low_mirror (S := S) (C := compl t.names S) t fun x hx => compl_mem hx
    have := a (compl t.names S) (compl_sub _ _) (by omega)
    have := compl_len hS nd
    omega
  · have m := T.low_mirror (S := compl t.names C) (C := C) t fun x hx => by
      have := compl_mem (S := C) hx
      constructor
      · intro z w; exact this.mp w z
      · intro z
        by_cases q : x ∈ C
        · exact q
        · exact absurd (this.mpr q) z
    have := compl_len c1 nd
    exact ⟨compl t.names C, compl_sub _ _, by omega, by omega⟩
end GG
namespace GG
open PySem L2
theorem Lst.mono {f : List Str → Nat} {ns : List Str} {c : List Int} (h : Lst f ns c) {i j : Nat} (hij : i ≤ j) (hj : j < c.length) : c.getD i 0 ≤ c.getD j 0 := by
  obtain ⟨S, a, b, e⟩ := (h j hj).2
  have := (h i (by omega)).1 S a (by omega)
  omega
theorem cntL_lst {ps : List T} (sh : T.ShL ps) (nd : (T.namesL ps).Nodup) : Lst (fun S => T.lowL S ps) (T.namesL ps) (T.cntL ps [0]) := by
  have base : Lst (fun S => T.lowL S []) (T.namesL []) [0] := by
    intro q hq
    obtain rfl : q = 0 := by simp at hq; omega
    exact ⟨fun S _ _ => by show (0 : Int) ≤ _; omega, [], List.nil_sublist _, Nat.zero_le _, rfl⟩
  have L := cntL_ok ps [] [0] base rfl (by simpa using nd) (cntAll_ok ps sh nd)
  simp only [List.nil_append] at L
  exact L
theorem min_drop {c : List Int} (h : ∀ i j, i ≤ j → j < c.length → c.getD i 0 ≤ c.getD j 0) {r : Nat} (hr : r < c.length) {m : Int} (h1 : m ∈ c.drop r) (h2 : ∀ y ∈ c.drop r, m ≤ y) : m = c.getD r 0 := by
  obtain ⟨i, hi, e⟩ := List.mem_iff_getElem.mp h1
  rw [List.length_drop] at hi
  rw [List.getElem_drop] at e
  have a := h r (r + i) (by omega) (by omega)
  have e2 : c.getD (r + i) 0 = m := by rw [List.getD_eq_getElem?_getD, List.getElem?_eq_getElem (by omega)]; exact e
  have m2 : c.getD r 0 ∈ c.drop r := by
    rw [List.mem_iff_getElem]
    refine ⟨0, by rw [List.length_drop]; omega, ?_⟩
    rw [List.getElem_drop, List.getD_eq_getElem?_getD, List.getElem?_eq_getElem (by omega)]
    rfl
  have := h2 _ m2
  omega
theorem cutV_from {xs : List V} {r : Nat} (h : r ≤ xs.length) : cutV xs (some (r : Int)) none = xs.drop r := by
  unfold cutV
  rw [HT.sIx_none, HT.sIx_nat, Nat.min_eq_left h]
  exact List.take_of_length_le (by rw [List.length_drop]; exact Nat.le_refl _)
theorem asc_uniq : ∀ {a b : List Int}, a.Pairwise (· < ·) → b.Pairwise (· < ·) → (∀ x, x ∈ a ↔ x ∈ b) → a = b
  | [], [], _, _, _ => rfl
  | [], y :: b, _, _, h => absurd ((h y).mpr (List.mem_cons_self ..)) (by simp)
  | x :: a, [], _, _, h => absurd ((h x).mp (List.mem_cons_self ..)) (by simp)
  | x :: a, y :: b, p, q, h => by
    obtain ⟨p1, p2⟩ := List.pairwise_cons.mp p
    obtain ⟨q1, q2⟩ := List.pairwise_cons.mp q
    have e : x = y := by
      rcases List.mem_cons.mp ((h x).mp (List.mem_cons_self ..)) with z | z
      · exact z
      · rcases List.mem_cons.mp ((h y).mpr (List.mem_cons_self ..)) with w | w
        · exact w.symm
        · have := q1 x z; have := p1 y w; omega
    subst e
    rw [asc_uniq p2 q2 fun z => ⟨fun hz => ?_, fun hz => ?_⟩]
    · rcases List.mem_cons.mp ((h z).mp (List.mem_cons_of_mem _ hz)) with w | w
      · subst w; have := p1 _ hz; omega
      · exact w
    · rcases List.mem_cons.mp ((h z).mpr (List.mem_cons_of_mem _ hz)) with w | w
      · subst w; have := q1 _ hz; omega
      · exact w
/-- with all ends low every leaf may be -/
theorem mirror0 (t : T) : t.mirror.cnt.getD 0 0 = 0 := by
  cases t with
  | leaf z => rfl
  | grp rk ps => rw [T.mirror, T.cnt]; rfl
end GG
/-! a head's look at the heap that sees getters, too -/
namespace GG
open PySem PySem.Spec L2
/-- a def by a path to it -/
structure GD where
  adr : PySem.W.Frag → Addr
  nm : Str
  qn : Str
  pr : Arguments
  bd : List Stmt
  sc : Scope
def fnA (K : PySem.W.Frag) (a : Addr) : He.FnW :=
  (K.lookup a).bind fun o => match o.data with
    | .func fd => some (fd.name, fd.qualname, fd.params, fd.body, fd.scope, fd.globals, fd.closure, fd.builtins)
    | _ => none
def GD.val (d : GD) : He.FnW := some (d.nm, d.qn, d.pr, .stmts d.bd, d.sc, mainGlobals, [], builtinsNs)
def fdB (K : PySem.W.Frag) (a : Addr) (qn : Str) : Bool := match (K.lookup a).map Obj.data with
  | some (.func fd) => PySem.W.codeIn K fd.code qn && He.dflB K fd.defaults [] && He.kwdB K fd.kwdefaults []
  | _ => false
def GD.ok (K : PySem.W.Frag) (d : GD) : Bool := fdB K (d.adr K) d.qn && PySem.W.keepIn K (.ref (d.adr K))
theorem GD.funD {K : PySem.W.Frag} {d : GD} (e : fnA K (d.adr K) = d.val) (c : d.ok K = true) : ∃ fd, FunD K d.nm d.qn d.pr d.bd d.sc [] [] (d.adr K) fd := by
  unfold GD.ok at c
  obtain ⟨c1, kp⟩ := Bool.and_eq_true_iff.mp c
  unfold fdB at c1
  unfold fnA at e
  rcases hL : K.lookup (d.adr K) with _ | ⟨oc, od, dat, sl⟩
  · rw [hL] at c1; exact absurd (show false = true from c1) (by decide)
  rw [hL] at c1 e
  cases dat with
  | func fd =>
    have c3 : (PySem.W.codeIn K fd.code d.qn && He.dflB K fd.defaults [] && He.kwdB K fd.kwdefaults []) = true := c1
    obtain ⟨k1, k2⟩ := Bool.and_eq_true_iff.mp c3
    obtain ⟨k3, k4⟩ := Bool.and_eq_true_iff.mp k1
    have e2 : some (fd.name, fd.qualname, fd.params, fd.body, fd.scope, fd.globals, fd.closure, fd.builtins) = some (d.nm, d.qn, d.pr, FuncBody.stmts d.bd, d.sc, mainGlobals, [], builtinsNs) := e
    refine ⟨fd, ⟨oc, od, fd.defaults, fd.kwdefaults, fd.doc, fd.pyModule, fd.annotations, fd.code, fd.closureTuple, sl, ?_, hL, k3, He.dflB_ok k4, He.kwdB_ok k2⟩, kp⟩
    obtain ⟨m1, m2, m3, m4, m5, m6, m7, m8, m9, m10, m11, m12, m13, m14, m15⟩ := fd
    injection e2 with e3
    injection e3 with z1 e3; injection e3 with z2 e3; injection e3 with z3 e3; injection e3 with z4 e3; injection e3 with z5 e3; injection e3 with z6 e3; injection e3 with z7 z8
    dsimp only at z1 z2 z3 z4 z5 z6 z7 z8
    rw [z1, z2, z3, z4, z5, z6, z7, z8]; try rfl
  | _ => exact absurd (show false = true from c1) (by decide)
/-- the getter of the property x of the class C -/
def gt (K : PySem.W.Frag) (C x : Str) : Addr := match PySem.W.recIn K (He.ma K (He.ga K C) x) "property" with
  | some (.ref g :: _) => g
  | _ => 0
inductive Fx where
  | ins (C : Str)
  | mk (C : Str)
  | kit (C D : Str) (b : Bool)
  | prop (C x : Str)
  | obj (C : Str)
def Fx.ok (K : PySem.W.Frag) : Fx → Bool
  | .ins C => (He.Fa.cls C).ok K && He.eqO (PySem.W.findIn K (.ref (He.ga K C)) "__class__") (some (some (.builtin "object.__class__"))) && He.eqO (PySem.W.specialIn K (.builtin "object.__class__") "__get__") (some (some (.builtin "getset_descriptor.__get__"))) &&
      decide (PySem.W.takesIn K (.builtin "object.__class__") = some true) && decide (PySem.W.mroIn K (He.ga K C) (.type "object") = some true)
  | .mk C => PySem.W.makesIn K (He.ga K C) && PySem.W.keepIn K (.ref (He.ga K C))
  | .kit C D b => decide (PySem.W.kitOne K (.ref (He.ga K C)) (.ref (He.ga K D)) = some b)
  | .prop C x => He.eqO (PySem.W.findIn K (.ref (He.ga K C)) x) (some (some (.ref (He.ma K (He.ga K C) x)))) && He.eqO (PySem.W.specialIn K (.ref (He.ma K (He.ga K C) x)) "__get__") (some (some (.builtin "property.__get__"))) &&
      decide (PySem.W.takesIn K (.ref (He.ma K (He.ga K C) x)) = some true) && (match PySem.W.recIn K (He.ma K (He.ga K C) x) "property" with
      | some (.ref _ :: _) => true
      | _ => false)
  | .obj C => (He.Fa.cls C).ok K && decide (PySem.W.mroIn K (He.ga K C) (.type "object") = some true) && He.eqO (PySem.W.findIn K (.ref (He.ga K C)) "__eq__") (some (some (.builtin "object.__eq__"))) && He.eqO (PySem.W.findIn K (.ref (He.ga K C)) "__ne__") (some (some (.builtin "object.__ne__")))
section
variable {K : PySem.W.Frag} {C D x : Str} {b : Bool}
theorem ins_ok (c : (Fx.ins C).ok K = true) : InsF K (He.ga K C) := by
  obtain ⟨c, c5⟩ := Bool.and_eq_true_iff.mp c
  obtain ⟨c, c4⟩ := Bool.and_eq_true_iff.mp c
  obtain ⟨c, c3⟩ := Bool.and_eq_true_iff.mp c
  obtain ⟨c1, c2⟩ := Bool.and_eq_true_iff.mp c
  exact ⟨He.cls_ok c1, He.eqO_ok c2, He.eqO_ok c3, of_decide_eq_true c4, of_decide_eq_true c5⟩
theorem obj_ok (c : (Fx.obj C).ok K = true) : ObjF K (He.ga K C) := by
  obtain ⟨c, c4⟩ := Bool.and_eq_true_iff.mp c
  obtain ⟨c, c3⟩ := Bool.and_eq_true_iff.mp c
  obtain ⟨c1, c2⟩ := Bool.and_eq_true_iff.mp c
  exact ⟨He.cls_ok c1, of_decide_eq_true c2, He.eqO_ok c3, He.eqO_ok c4⟩
theorem mkc_ok (c : (Fx.mk C).ok K = true) : PySem.W.makesIn K (He.ga K C) = true ∧ PySem.W.keepIn K (.ref (He.ga K C)) = true := Bool.and_eq_true_iff.mp c
theorem kit_ok (c : (Fx.kit C D b).ok K = true) : PySem.W.kitOne K (.ref (He.ga K C)) (.ref (He.ga K D)) = some b := of_decide_eq_true c
theorem prop_ok (c : (Fx.prop C x).ok K = true) : PropOf K (He.ga K C) x (He.ma K (He.ga K C) x) (gt K C x) := by
  obtain ⟨c, c4⟩ := Bool.and_eq_true_iff.mp c
  obtain ⟨c, c3⟩ := Bool.and_eq_true_iff.mp c
  obtain ⟨c1, c2⟩ := Bool.and_eq_true_iff.mp c
  refine ⟨He.eqO_ok c1, He.eqO_ok c2, of_decide_eq_true c3, ?_⟩
  unfold gt
  split at c4
  · rename_i g r e
    exact ⟨r, by rw [e]⟩
  · cases c4
end
def obsX (fa : List He.Fa) (fx : List Fx) (ds : List GD) (K : PySem.W.Frag) : He.AlD := (fa.all (fun f => f.ok K) && fx.all (fun f => f.ok K) && ds.all (fun d => d.ok K), ds.map fun d => fnA K (d.adr K))
def valX (ds : List GD) : He.AlD := (true, ds.map GD.val)
def SaysX (fa : List He.Fa) (fx : List Fx) (ds : List GD) (K : PySem.W.Frag) : Prop := obsX fa fx ds K = valX ds
def lookX (n : Nat) (g : Addr → Option Obj) : PySem.W.Frag := He.frG g (He.asD g n)
def hookX (n : Nat) (fa : List He.Fa) (fx : List Fx) (ds : List GD) : PySem.W.Hook where
  α := He.AlD
  obs := fun s => obsX fa fx ds (lookX n s.heap.get?)
  val := fun _ => valX ds
  says := fun _ h => ∃ K : PySem.W.Frag, K.In h ∧ SaysX fa fx ds K
  of := fun _ _ e => ⟨_, He.frG_in, e⟩
  keeps := fun _ _ _ ⟨K, hK, c⟩ k => ⟨K, PySem.W.Frag.In.keeps hK k, c⟩
theorem obsX_eq {n : Nat} {fa : List He.Fa} {fx : List Fx} {ds : List GD} {g : Addr → Option Obj} {s : Shared} (h : ∀ a, g a = s.heap.get? a) : obsX fa fx ds (lookX n g) = (hookX n fa fx ds).obs s := by
  rw [show g = s.heap.get? from funext h]; rfl
section
variable {fa : List He.Fa} {fx : List Fx} {ds : List GD} {K : PySem.W.Frag}
theorem SaysX.a (c : SaysX fa fx ds K) (i : Nat) {f : He.Fa} (h : fa[i]? = some f := by rfl) : f.ok K = true := by
  have q : (fa.all (fun f => f.ok K) && fx.all (fun f => f.ok K) && ds.all (fun d => d.ok K)) = true := congrArg Prod.fst c
  exact List.all_eq_true.mp (Bool.and_eq_true_iff.mp (Bool.and_eq_true_iff.mp q).1).1 f (List.mem_of_getElem? h)
theorem SaysX.x (c : SaysX fa fx ds K) (i : Nat) {f : Fx} (h : fx[i]? = some f := by rfl) : f.ok K = true := by
  have q : (fa.all (fun f => f.ok K) && fx.all (fun f => f.ok K) && ds.all (fun d => d.ok K)) = true := congrArg Prod.fst c
  exact List.all_eq_true.mp (Bool.and_eq_true_iff.mp (Bool.and_eq_true_iff.mp q).1).2 f (List.mem_of_getElem? h)
theorem SaysX.d (c : SaysX fa fx ds K) (i : Nat) {d : GD} (h : ds[i]? = some d := by rfl) : ∃ fd, FunD K d.nm d.qn d.pr d.bd d.sc [] [] (d.adr K) fd := by
  have q : (fa.all (fun f => f.ok K) && fx.all (fun f => f.ok K) && ds.all (fun d => d.ok K)) = true := congrArg Prod.fst c
  have v : ds.map (fun d => fnA K (d.adr K)) = ds.map GD.val := congrArg Prod.snd c
  have v2 := congrArg (fun l => l[i]?) v
  simp only [List.getElem?_map, h, Option.map_some] at v2
  exact GD.funD (Option.some.inj v2) (List.all_eq_true.mp (Bool.and_eq_true_iff.mp q).2 d (List.mem_of_getElem? h))
end
end GG
local macro_rules
  | `(tactic| walk_at "w") => `(tactic| conv => whnf)
  | `(tactic| walk_at "sm") => `(tactic| first | exact Same.refl _ | assumption | exact Same.trans (by walk_at "sm") (by assumption))

namespace LW
open PySem PySem.Spec L2 GG
def topS (i : Nat) : Stmt := PySem.Challenge.pw_rankpicks_k68_kth_worths.main.body.getD i (.Pass ⟨0, 0, 0, 0⟩)
abbrev s__law_called : Stmt := (topS 38)
theorem sc__law_called : FnScope (["purse", "many", "found", "shift", "k", "letter", "tail", "name"] : List Str) (["purse", "many"] : List Str) (defScope s__law_called) := ⟨rfl, rfl, rfl, by decide +kernel, rfl, by decide +kernel, by decide +kernel⟩

abbrev s__law_costs : Stmt := (topS 47)
theorem sc__law_costs : FnScope (["tree", "costs", "sums", "part", "rank"] : List Str) (["tree", "costs"] : List Str) (defScope s__law_costs) := ⟨rfl, rfl, rfl, by decide +kernel, rfl, by decide +kernel, by decide +kernel⟩

abbrev s__law_counts : Stmt := (topS 49)
theorem sc__law_counts : FnScope (["tree", "costs", "name"] : List Str) (["tree"] : List Str) (defScope s__law_counts) := ⟨rfl, rfl, rfl, by decide +kernel, rfl, by decide +kernel, by decide +kernel⟩

abbrev s__law_draw : Stmt := (topS 37)
theorem sc__law_draw : FnScope (["purse", "many", "digit", "number"] : List Str) (["purse", "many"] : List Str) (defScope s__law_draw) := ⟨rfl, rfl, rfl, by decide +kernel, rfl, by decide +kernel, by decide +kernel⟩

abbrev s__law_due : Stmt := (topS 53)
theorem sc__law_due : FnScope (["rows", "rank", "bounds", "tree", "told", "low", "high", "bound", "row"] : List Str) (["rows", "rank"] : List Str) (defScope s__law_due) := ⟨rfl, rfl, rfl, by decide +kernel, rfl, by decide +kernel, by decide +kernel⟩

abbrev s__law_grown : Stmt := (topS 41)
theorem sc__law_grown : FnScope (["purse", "names", "most", "parts", "taken", "row", "part"] : List Str) (["purse", "names", "most"] : List Str) (defScope s__law_grown) := ⟨rfl, rfl, rfl, by decide +kernel, rfl, by decide +kernel, by decide +kernel⟩

abbrev s__law_made : Stmt := (topS 45)
theorem sc__law_made : FnScope (["tree", "part"] : List Str) (["tree"] : List Str) (defScope s__law_made) := ⟨rfl, rfl, rfl, by decide +kernel, rfl, by decide +kernel, by decide +kernel⟩

abbrev s__law_mirror : Stmt := (topS 44)
theorem sc__law_mirror : FnScope (["tree", "taken", "part", "rank"] : List Str) (["tree"] : List Str) (defScope s__law_mirror) := ⟨rfl, rfl, rfl, by decide +kernel, rfl, by decide +kernel, by decide +kernel⟩

abbrev s__law_names : Stmt := (topS 43)
theorem sc__law_names : FnScope (["tree", "found", "part"] : List Str) (["tree"] : List Str) (defScope s__law_names) := ⟨rfl, rfl, rfl, by decide +kernel, rfl, by decide +kernel, by decide +kernel⟩

abbrev s__law_purse : Stmt := (topS 36)
theorem sc__law_purse : FnScope (["script", "at", "cell"] : List Str) (["script", "at"] : List Str) (defScope s__law_purse) := ⟨rfl, rfl, rfl, by decide +kernel, rfl, by decide +kernel, by decide +kernel⟩

abbrev s__law_ranks : Stmt := (topS 40)
theorem sc__law_ranks : FnScope (["purse", "taken", "most", "ranks", "turn", "rank"] : List Str) (["purse", "taken", "most"] : List Str) (defScope s__law_ranks) := ⟨rfl, rfl, rfl, by decide +kernel, rfl, by decide +kernel, by decide +kernel⟩

abbrev s__law_split : Stmt := (topS 39)
theorem sc__law_split : FnScope (["purse", "names", "rows", "name", "k", "row"] : List Str) (["purse", "names"] : List Str) (defScope s__law_split) := ⟨rfl, rfl, rfl, by decide +kernel, rfl, by decide +kernel, by decide +kernel⟩

abbrev s__law_sums : Stmt := (topS 46)
theorem sc__law_sums : FnScope (["one", "other", "found", "at", "some", "k"] : List Str) (["one", "other"] : List Str) (defScope s__law_sums) := ⟨rfl, rfl, rfl, by decide +kernel, rfl, by decide +kernel, by decide +kernel⟩

abbrev s__law_told : Stmt := (topS 51)
theorem sc__law_told : FnScope (["purse", "wide", "many", "turn"] : List Str) (["purse", "wide"] : List Str) (defScope s__law_told) := ⟨rfl, rfl, rfl, by decide +kernel, rfl, by decide +kernel, by decide +kernel⟩

abbrev s__law_tree : Stmt := (topS 50)
theorem sc__law_tree : FnScope (["purse", "leaves", "most", "names"] : List Str) (["purse", "leaves", "most"] : List Str) (defScope s__law_tree) := ⟨rfl, rfl, rfl, by decide +kernel, rfl, by decide +kernel, by decide +kernel⟩

abbrev s__law_upto : Stmt := (topS 52)
theorem sc__law_upto : FnScope (["row", "bound", "tree", "told", "passed", "size", "worth"] : List Str) (["row", "bound"] : List Str) (defScope s__law_upto) := ⟨rfl, rfl, rfl, by decide +kernel, rfl, by decide +kernel, by decide +kernel⟩

abbrev s__law_whole : Stmt := (topS 48)
theorem sc__law_whole : FnScope (["value"] : List Str) (["value"] : List Str) (defScope s__law_whole) := ⟨rfl, rfl, rfl, by decide +kernel, rfl, by decide +kernel, by decide +kernel⟩

abbrev s__law_width : Stmt := (topS 42)
theorem sc__law_width : FnScope (["tree"] : List Str) (["tree"] : List Str) (defScope s__law_width) := ⟨rfl, rfl, rfl, by decide +kernel, rfl, by decide +kernel, by decide +kernel⟩

abbrev s__wall : Stmt := (topS 0)
theorem sc__wall : FnScope (["k"] : List Str) (["k"] : List Str) (defScope s__wall) := ⟨rfl, rfl, rfl, by decide +kernel, rfl, by decide +kernel, by decide +kernel⟩

abbrev s_all_counts : Stmt := (topS 32)
theorem sc_all_counts : FnScope (["reports", "worth", "ranges", "report", "least", "greatest"] : List Str) (["reports", "worth"] : List Str) (defScope s_all_counts) := ⟨rfl, rfl, rfl, by decide +kernel, rfl, by decide +kernel, by decide +kernel⟩

abbrev s_are_names : Stmt := (topS 12)
theorem sc_are_names : FnScope (["value", "name"] : List Str) (["value"] : List Str) (defScope s_are_names) := ⟨rfl, rfl, rfl, by decide +kernel, rfl, by decide +kernel, by decide +kernel⟩

abbrev s_are_parts : Stmt := (topS 19)
theorem sc_are_parts : FnScope (["value", "names", "part", "name"] : List Str) (["value"] : List Str) (defScope s_are_parts) := ⟨rfl, rfl, rfl, by decide +kernel, rfl, by decide +kernel, by decide +kernel⟩

abbrev s_are_told : Stmt := (topS 29)
theorem sc_are_told : FnScope (["tree", "value", "worth", "at"] : List Str) (["tree", "value"] : List Str) (defScope s_are_told) := ⟨rfl, rfl, rfl, by decide +kernel, rfl, by decide +kernel, by decide +kernel⟩

abbrev s_check_name : Stmt := (topS 14)
theorem sc_check_name : FnScope (["value"] : List Str) (["value"] : List Str) (defScope s_check_name) := ⟨rfl, rfl, rfl, by decide +kernel, rfl, by decide +kernel, by decide +kernel⟩

abbrev s_check_reports : Stmt := (topS 31)
theorem sc_check_reports : FnScope (["value", "one"] : List Str) (["value"] : List Str) (defScope s_check_reports) := ⟨rfl, rfl, rfl, by decide +kernel, rfl, by decide +kernel, by decide +kernel⟩

abbrev s_check_some : Stmt := (topS 21)
theorem sc_check_some : FnScope (["value", "names", "name"] : List Str) (["value", "names"] : List Str) (defScope s_check_some) := ⟨rfl, rfl, rfl, by decide +kernel, rfl, by decide +kernel, by decide +kernel⟩

abbrev s_check_tree : Stmt := (topS 24)
theorem sc_check_tree : FnScope (["value"] : List Str) (["value"] : List Str) (defScope s_check_tree) := ⟨rfl, rfl, rfl, by decide +kernel, rfl, by decide +kernel, by decide +kernel⟩

abbrev s_check_whole : Stmt := (topS 15)
theorem sc_check_whole : FnScope (["value"] : List Str) (["value"] : List Str) (defScope s_check_whole) := ⟨rfl, rfl, rfl, by decide +kernel, rfl, by decide +kernel, by decide +kernel⟩

abbrev s_check_within : Stmt := (topS 16)
theorem sc_check_within : FnScope (["value", "first", "last"] : List Str) (["value", "first", "last"] : List Str) (defScope s_check_within) := ⟨rfl, rfl, rfl, by decide +kernel, rfl, by decide +kernel, by decide +kernel⟩

abbrev s_is_ascending : Stmt := (topS 13)
theorem sc_is_ascending : FnScope (["value", "number", "at"] : List Str) (["value"] : List Str) (defScope s_is_ascending) := ⟨rfl, rfl, rfl, by decide +kernel, rfl, by decide +kernel, by decide +kernel⟩

abbrev s_is_group : Stmt := (topS 20)
theorem sc_is_group : FnScope (["ranks", "parts", "part"] : List Str) (["ranks", "parts"] : List Str) (defScope s_is_group) := ⟨rfl, rfl, rfl, by decide +kernel, rfl, by decide +kernel, by decide +kernel⟩

abbrev s_is_name : Stmt := (topS 11)
theorem sc_is_name : FnScope (["value", "letter"] : List Str) (["value"] : List Str) (defScope s_is_name) := ⟨rfl, rfl, rfl, by decide +kernel, rfl, by decide +kernel, by decide +kernel⟩

abbrev s_is_whole : Stmt := (topS 10)
theorem sc_is_whole : FnScope (["value"] : List Str) (["value"] : List Str) (defScope s_is_whole) := ⟨rfl, rfl, rfl, by decide +kernel, rfl, by decide +kernel, by decide +kernel⟩

abbrev s_known_counts : Stmt := (topS 33)
theorem sc_known_counts : FnScope (["reports", "worth"] : List Str) (["reports", "worth"] : List Str) (defScope s_known_counts) := ⟨rfl, rfl, rfl, by decide +kernel, rfl, by decide +kernel, by decide +kernel⟩

abbrev s_kth : Stmt := (topS 34)
theorem sc_kth : FnScope (["reports", "rank", "worths", "low", "highs", "report", "worth"] : List Str) (["reports", "rank"] : List Str) (defScope s_kth) := ⟨rfl, rfl, rfl, by decide +kernel, rfl, by decide +kernel, by decide +kernel⟩

abbrev s_law : Stmt := (topS 54)
theorem sc_law : FnScope (["script", "rows", "at", "purse", "tree", "some", "reports", "kept", "many", "rank", "told", "one"] : List Str) (["script"] : List Str) (defScope s_law) := ⟨rfl, rfl, rfl, by decide +kernel, rfl, by decide +kernel, by decide +kernel⟩

abbrev s_least_counts : Stmt := (topS 27)
theorem sc_least_counts : FnScope (["tree", "sums", "part", "rank"] : List Str) (["tree"] : List Str) (defScope s_least_counts) := ⟨rfl, rfl, rfl, by decide +kernel, rfl, by decide +kernel, by decide +kernel⟩

abbrev s_summed : Stmt := (topS 26)
theorem sc_summed : FnScope (["one", "other", "found", "at", "sums", "k"] : List Str) (["one", "other"] : List Str) (defScope s_summed) := ⟨rfl, rfl, rfl, by decide +kernel, rfl, by decide +kernel, by decide +kernel⟩

abbrev s_Leaf___init__ : Stmt := (inClass (topS 22) 0)
theorem sc_Leaf___init__ : FnScope (["self", "name"] : List Str) (["self", "name"] : List Str) (defScope s_Leaf___init__) := ⟨rfl, rfl, rfl, by decide +kernel, rfl, by decide +kernel, by decide +kernel⟩

abbrev s_Leaf_name : Stmt := (inClass (topS 22) 1)
theorem sc_Leaf_name : FnScope (["self"] : List Str) (["self"] : List Str) (defScope s_Leaf_name) := ⟨rfl, rfl, rfl, by decide +kernel, rfl, by decide +kernel, by decide +kernel⟩

abbrev s_Leaf_width : Stmt := (inClass (topS 22) 2)
theorem sc_Leaf_width : FnScope (["self"] : List Str) (["self"] : List Str) (defScope s_Leaf_width) := ⟨rfl, rfl, rfl, by decide +kernel, rfl, by decide +kernel, by decide +kernel⟩

abbrev s_Leaf___len__ : Stmt := (inClass (topS 22) 3)
theorem sc_Leaf___len__ : FnScope (["self"] : List Str) (["self"] : List Str) (defScope s_Leaf___len__) := ⟨rfl, rfl, rfl, by decide +kernel, rfl, by decide +kernel, by decide +kernel⟩

abbrev s_Leaf___contains__ : Stmt := (inClass (topS 22) 4)
theorem sc_Leaf___contains__ : FnScope (["self", "name"] : List Str) (["self", "name"] : List Str) (defScope s_Leaf___contains__) := ⟨rfl, rfl, rfl, by decide +kernel, rfl, by decide +kernel, by decide +kernel⟩

abbrev s_Leaf___eq__ : Stmt := (inClass (topS 22) 5)
theorem sc_Leaf___eq__ : FnScope (["self", "other"] : List Str) (["self", "other"] : List Str) (defScope s_Leaf___eq__) := ⟨rfl, rfl, rfl, by decide +kernel, rfl, by decide +kernel, by decide +kernel⟩

abbrev s_Leaf_names : Stmt := (inClass (topS 22) 6)
theorem sc_Leaf_names : FnScope (["self"] : List Str) (["self"] : List Str) (defScope s_Leaf_names) := ⟨rfl, rfl, rfl, by decide +kernel, rfl, by decide +kernel, by decide +kernel⟩

abbrev s_Leaf_low_ends : Stmt := (inClass (topS 22) 8)
theorem sc_Leaf_low_ends : FnScope (["self", "low"] : List Str) (["self", "low"] : List Str) (defScope s_Leaf_low_ends) := ⟨rfl, rfl, rfl, by decide +kernel, rfl, by decide +kernel, by decide +kernel⟩

abbrev s_Leaf_passes : Stmt := (inClass (topS 22) 9)
theorem sc_Leaf_passes : FnScope (["self", "names"] : List Str) (["self", "names"] : List Str) (defScope s_Leaf_passes) := ⟨rfl, rfl, rfl, by decide +kernel, rfl, by decide +kernel, by decide +kernel⟩

abbrev s_Leaf_mirror : Stmt := (inClass (topS 22) 10)
theorem sc_Leaf_mirror : FnScope (["self"] : List Str) (["self"] : List Str) (defScope s_Leaf_mirror) := ⟨rfl, rfl, rfl, by decide +kernel, rfl, by decide +kernel, by decide +kernel⟩

abbrev s_Group___init__ : Stmt := (inClass (topS 23) 0)
theorem sc_Group___init__ : FnScope (["self", "ranks", "parts", "part"] : List Str) (["self", "ranks", "parts"] : List Str) (defScope s_Group___init__) := ⟨rfl, rfl, rfl, by decide +kernel, rfl, by decide +kernel, by decide +kernel⟩

abbrev s_Group_ranks : Stmt := (inClass (topS 23) 1)
theorem sc_Group_ranks : FnScope (["self"] : List Str) (["self"] : List Str) (defScope s_Group_ranks) := ⟨rfl, rfl, rfl, by decide +kernel, rfl, by decide +kernel, by decide +kernel⟩

abbrev s_Group_parts : Stmt := (inClass (topS 23) 2)
theorem sc_Group_parts : FnScope (["self"] : List Str) (["self"] : List Str) (defScope s_Group_parts) := ⟨rfl, rfl, rfl, by decide +kernel, rfl, by decide +kernel, by decide +kernel⟩

abbrev s_Group_width : Stmt := (inClass (topS 23) 4)
theorem sc_Group_width : FnScope (["self"] : List Str) (["self"] : List Str) (defScope s_Group_width) := ⟨rfl, rfl, rfl, by decide +kernel, rfl, by decide +kernel, by decide +kernel⟩

abbrev s_Group___len__ : Stmt := (inClass (topS 23) 5)
theorem sc_Group___len__ : FnScope (["self"] : List Str) (["self"] : List Str) (defScope s_Group___len__) := ⟨rfl, rfl, rfl, by decide +kernel, rfl, by decide +kernel, by decide +kernel⟩

abbrev s_Group___getitem__ : Stmt := (inClass (topS 23) 7)
theorem sc_Group___getitem__ : FnScope (["self", "k"] : List Str) (["self", "k"] : List Str) (defScope s_Group___getitem__) := ⟨rfl, rfl, rfl, by decide +kernel, rfl, by decide +kernel, by decide +kernel⟩

abbrev s_Group___contains__ : Stmt := (inClass (topS 23) 8)
theorem sc_Group___contains__ : FnScope (["self", "name"] : List Str) (["self", "name"] : List Str) (defScope s_Group___contains__) := ⟨rfl, rfl, rfl, by decide +kernel, rfl, by decide +kernel, by decide +kernel⟩

abbrev s_Group___eq__ : Stmt := (inClass (topS 23) 9)
theorem sc_Group___eq__ : FnScope (["self", "other"] : List Str) (["self", "other"] : List Str) (defScope s_Group___eq__) := ⟨rfl, rfl, rfl, by decide +kernel, rfl, by decide +kernel, by decide +kernel⟩

abbrev s_Group_names : Stmt := (inClass (topS 23) 10)
theorem sc_Group_names : FnScope (["self", "part", "name"] : List Str) (["self"] : List Str) (defScope s_Group_names) := ⟨rfl, rfl, rfl, by decide +kernel, rfl, by decide +kernel, by decide +kernel⟩

abbrev s_Group_low_ends : Stmt := (inClass (topS 23) 12)
theorem sc_Group_low_ends : FnScope (["self", "low", "total", "part", "rank"] : List Str) (["self", "low"] : List Str) (defScope s_Group_low_ends) := ⟨rfl, rfl, rfl, by decide +kernel, rfl, by decide +kernel, by decide +kernel⟩

abbrev s_Group_passes : Stmt := (inClass (topS 23) 13)
theorem sc_Group_passes : FnScope (["self", "names", "name"] : List Str) (["self", "names"] : List Str) (defScope s_Group_passes) := ⟨rfl, rfl, rfl, by decide +kernel, rfl, by decide +kernel, by decide +kernel⟩

abbrev s_Group_mirror : Stmt := (inClass (topS 23) 14)
theorem sc_Group_mirror : FnScope (["self", "rank", "part"] : List Str) (["self"] : List Str) (defScope s_Group_mirror) := ⟨rfl, rfl, rfl, by decide +kernel, rfl, by decide +kernel, by decide +kernel⟩

abbrev s_Report___init__ : Stmt := (inClass (topS 30) 0)
theorem sc_Report___init__ : FnScope (["self", "tree", "told"] : List Str) (["self", "tree", "told"] : List Str) (defScope s_Report___init__) := ⟨rfl, rfl, rfl, by decide +kernel, rfl, by decide +kernel, by decide +kernel⟩

abbrev s_Report_tree : Stmt := (inClass (topS 30) 1)
theorem sc_Report_tree : FnScope (["self"] : List Str) (["self"] : List Str) (defScope s_Report_tree) := ⟨rfl, rfl, rfl, by decide +kernel, rfl, by decide +kernel, by decide +kernel⟩

abbrev s_Report_told : Stmt := (inClass (topS 30) 2)
theorem sc_Report_told : FnScope (["self"] : List Str) (["self"] : List Str) (defScope s_Report_told) := ⟨rfl, rfl, rfl, by decide +kernel, rfl, by decide +kernel, by decide +kernel⟩

abbrev s_Report_low_told : Stmt := (inClass (topS 30) 3)
theorem sc_Report_low_told : FnScope (["self", "worth", "one"] : List Str) (["self", "worth"] : List Str) (defScope s_Report_low_told) := ⟨rfl, rfl, rfl, by decide +kernel, rfl, by decide +kernel, by decide +kernel⟩

abbrev s_Report_upto : Stmt := (inClass (topS 30) 4)
theorem sc_Report_upto : FnScope (["self", "worth", "low", "high"] : List Str) (["self", "worth"] : List Str) (defScope s_Report_upto) := ⟨rfl, rfl, rfl, by decide +kernel, rfl, by decide +kernel, by decide +kernel⟩

structure Top (K : PySem.W.Frag) (mg : Str → Option Value) : Prop where
  f__law_called : FnF K mg "_law_called" s__law_called ["purse", "many"]
  f__law_costs : FnF K mg "_law_costs" s__law_costs ["tree", "costs"]
  f__law_counts : FnF K mg "_law_counts" s__law_counts ["tree"]
  f__law_draw : FnF K mg "_law_draw" s__law_draw ["purse", "many"]
  f__law_due : FnF K mg "_law_due" s__law_due ["rows", "rank"]
  f__law_grown : FnF K mg "_law_grown" s__law_grown ["purse", "names", "most"]
  f__law_made : FnF K mg "_law_made" s__law_made ["tree"]
  f__law_mirror : FnF K mg "_law_mirror" s__law_mirror ["tree"]
  f__law_names : FnF K mg "_law_names" s__law_names ["tree"]
  f__law_purse : FnF K mg "_law_purse" s__law_purse ["script", "at"]
  f__law_ranks : FnF K mg "_law_ranks" s__law_ranks ["purse", "taken", "most"]
  f__law_split : FnF K mg "_law_split" s__law_split ["purse", "names"]
  f__law_sums : FnF K mg "_law_sums" s__law_sums ["one", "other"]
  f__law_told : FnF K mg "_law_told" s__law_told ["purse", "wide"]
  f__law_tree : FnF K mg "_law_tree" s__law_tree ["purse", "leaves", "most"]
  f__law_upto : FnF K mg "_law_upto" s__law_upto ["row", "bound"]
  f__law_whole : FnF K mg "_law_whole" s__law_whole ["value"]
  f__law_width : FnF K mg "_law_width" s__law_width ["tree"]
  f__wall : FnF K mg "_wall" s__wall ["k"]
  f_all_counts : FnF K mg "all_counts" s_all_counts ["reports", "worth"]
  f_are_names : FnF K mg "are_names" s_are_names ["value"]
  f_are_parts : FnF K mg "are_parts" s_are_parts ["value"]
  f_are_told : FnF K mg "are_told" s_are_told ["tree", "value"]
  f_check_name : FnF K mg "check_name" s_check_name ["value"]
  f_check_reports : FnF K mg "check_reports" s_check_reports ["value"]
  f_check_some : FnF K mg "check_some" s_check_some ["value", "names"]
  f_check_tree : FnF K mg "check_tree" s_check_tree ["value"]
  f_check_whole : FnF K mg "check_whole" s_check_whole ["value"]
  f_check_within : FnF K mg "check_within" s_check_within ["value", "first", "last"]
  f_is_ascending : FnF K mg "is_ascending" s_is_ascending ["value"]
  f_is_group : FnF K mg "is_group" s_is_group ["ranks", "parts"]
  f_is_name : FnF K mg "is_name" s_is_name ["value"]
  f_is_whole : FnF K mg "is_whole" s_is_whole ["value"]
  f_known_counts : FnF K mg "known_counts" s_known_counts ["reports", "worth"]
  f_kth : FnF K mg "kth" s_kth ["reports", "rank"]
  f_law : FnF K mg "law" s_law ["script"]
  f_least_counts : FnF K mg "least_counts" s_least_counts ["tree"]
  f_summed : FnF K mg "summed" s_summed ["one", "other"]
  c_Tree : mg "Tree" = some (.ref (He.ga K "Tree"))
  i_Tree : InsF K (He.ga K "Tree")
  c_Leaf : mg "Leaf" = some (.ref (He.ga K "Leaf"))
  i_Leaf : InsF K (He.ga K "Leaf")
  m_Leaf___init__ : MtF K (He.ga K "Leaf") "__init__" "Leaf.__init__" s_Leaf___init__ ["self", "name"]
  k_Leaf : PySem.W.makesIn K (He.ga K "Leaf") = true ∧ PySem.W.keepIn K (.ref (He.ga K "Leaf")) = true
  m_Leaf_name : PrF K (He.ga K "Leaf") "name" "Leaf.name" s_Leaf_name ["self"]
  m_Leaf_width : PrF K (He.ga K "Leaf") "width" "Leaf.width" s_Leaf_width ["self"]
  m_Leaf___len__ : MtF K (He.ga K "Leaf") "__len__" "Leaf.__len__" s_Leaf___len__ ["self"]
  m_Leaf___contains__ : MtF K (He.ga K "Leaf") "__contains__" "Leaf.__contains__" s_Leaf___contains__ ["self", "name"]
  m_Leaf___eq__ : MtF K (He.ga K "Leaf") "__eq__" "Leaf.__eq__" s_Leaf___eq__ ["self", "other"]
  m_Leaf_names : MtF K (He.ga K "Leaf") "names" "Leaf.names" s_Leaf_names ["self"]
  m_Leaf_low_ends : MtF K (He.ga K "Leaf") "low_ends" "Leaf.low_ends" s_Leaf_low_ends ["self", "low"]
  m_Leaf_passes : MtF K (He.ga K "Leaf") "passes" "Leaf.passes" s_Leaf_passes ["self", "names"]
  m_Leaf_mirror : MtF K (He.ga K "Leaf") "mirror" "Leaf.mirror" s_Leaf_mirror ["self"]
  n_Leaf_label : NoAttr K (He.ga K "Leaf") "label"
  c_Group : mg "Group" = some (.ref (He.ga K "Group"))
  i_Group : InsF K (He.ga K "Group")
  m_Group___init__ : MtF K (He.ga K "Group") "__init__" "Group.__init__" s_Group___init__ ["self", "ranks", "parts"]
  k_Group : PySem.W.makesIn K (He.ga K "Group") = true ∧ PySem.W.keepIn K (.ref (He.ga K "Group")) = true
  m_Group_ranks : PrF K (He.ga K "Group") "ranks" "Group.ranks" s_Group_ranks ["self"]
  m_Group_parts : PrF K (He.ga K "Group") "parts" "Group.parts" s_Group_parts ["self"]
  m_Group_width : PrF K (He.ga K "Group") "width" "Group.width" s_Group_width ["self"]
  m_Group___len__ : MtF K (He.ga K "Group") "__len__" "Group.__len__" s_Group___len__ ["self"]
  m_Group___getitem__ : MtF K (He.ga K "Group") "__getitem__" "Group.__getitem__" s_Group___getitem__ ["self", "k"]
  m_Group___contains__ : MtF K (He.ga K "Group") "__contains__" "Group.__contains__" s_Group___contains__ ["self", "name"]
  m_Group___eq__ : MtF K (He.ga K "Group") "__eq__" "Group.__eq__" s_Group___eq__ ["self", "other"]
  m_Group_names : MtF K (He.ga K "Group") "names" "Group.names" s_Group_names ["self"]
  m_Group_low_ends : MtF K (He.ga K "Group") "low_ends" "Group.low_ends" s_Group_low_ends ["self", "low"]
  m_Group_passes : MtF K (He.ga K "Group") "passes" "Group.passes" s_Group_passes ["self", "names"]
  m_Group_mirror : MtF K (He.ga K "Group") "mirror" "Group.mirror" s_Group_mirror ["self"]
  n_Group_picks : NoAttr K (He.ga K "Group") "picks"
  n_Group_rows : NoAttr K (He.ga K "Group") "rows"
  n_Group_taken : NoAttr K (He.ga K "Group") "taken"
  c_Report : mg "Report" = some (.ref (He.ga K "Report"))
  i_Report : InsF K (He.ga K "Report")
  m_Report___init__ : MtF K (He.ga K "Report") "__init__" "Report.__init__" s_Report___init__ ["self", "tree", "told"]
  k_Report : PySem.W.makesIn K (He.ga K "Report") = true ∧ PySem.W.keepIn K (.ref (He.ga K "Report")) = true
  m_Report_tree : PrF K (He.ga K "Report") "tree" "Report.tree" s_Report_tree ["self"]
  m_Report_told : PrF K (He.ga K "Report") "told" "Report.told" s_Report_told ["self"]
  m_Report_low_told : MtF K (He.ga K "Report") "low_told" "Report.low_told" s_Report_low_told ["self", "worth"]
  m_Report_upto : MtF K (He.ga K "Report") "upto" "Report.upto" s_Report_upto ["self", "worth"]
  o_Report : ObjF K (He.ga K "Report")
  n_Report_plan : NoAttr K (He.ga K "Report") "plan"
  n_Report_heard : NoAttr K (He.ga K "Report") "heard"
  kit_Leaf_Tree : PySem.W.kitOne K (.ref (He.ga K "Leaf")) (.ref (He.ga K "Tree")) = some true
  kit_Leaf_Leaf : PySem.W.kitOne K (.ref (He.ga K "Leaf")) (.ref (He.ga K "Leaf")) = some true
  kit_Leaf_Group : PySem.W.kitOne K (.ref (He.ga K "Leaf")) (.ref (He.ga K "Group")) = some false
  kit_Leaf_Report : PySem.W.kitOne K (.ref (He.ga K "Leaf")) (.ref (He.ga K "Report")) = some false
  kit_Group_Tree : PySem.W.kitOne K (.ref (He.ga K "Group")) (.ref (He.ga K "Tree")) = some true
  kit_Group_Leaf : PySem.W.kitOne K (.ref (He.ga K "Group")) (.ref (He.ga K "Leaf")) = some false
  kit_Group_Group : PySem.W.kitOne K (.ref (He.ga K "Group")) (.ref (He.ga K "Group")) = some true
  kit_Group_Report : PySem.W.kitOne K (.ref (He.ga K "Group")) (.ref (He.ga K "Report")) = some false
  kit_Report_Tree : PySem.W.kitOne K (.ref (He.ga K "Report")) (.ref (He.ga K "Tree")) = some false
  kit_Report_Leaf : PySem.W.kitOne K (.ref (He.ga K "Report")) (.ref (He.ga K "Leaf")) = some false
  kit_Report_Group : PySem.W.kitOne K (.ref (He.ga K "Report")) (.ref (He.ga K "Group")) = some false
  kit_Report_Report : PySem.W.kitOne K (.ref (He.ga K "Report")) (.ref (He.ga K "Report")) = some true
  b_len : mg "len" = none
  b_sum : mg "sum" = none
  b_min : mg "min" = none
  b_max : mg "max" = none
  b_sorted : mg "sorted" = none
  b_isinstance : mg "isinstance" = none
  b_int : mg "int" = none
  b_list : mg "list" = none
  b_tuple : mg "tuple" = none
  b_str : mg "str" = none
  b_bool : mg "bool" = none
  b_set : mg "set" = none
  b_range : mg "range" = none
  b_enumerate : mg "enumerate" = none
  b_dict : mg "dict" = none
  g_ALPHABET : ∃ t, mg "ALPHABET" = some (.str "abcdefghijklmnopqrstuvwxyz" t)
variable {P : Program} {w : World} {K : PySem.W.Frag} {mg : Str → Option Value} {base : Heap}
def sp_is_whole : Sp := fun vs H Q _ => match vs with
  | [.int _] => Q (.bl true) H
  | _ => False
theorem ok_is_whole (tp : Top K mg) : FnN P w K mg base 1 "is_whole" [] sp_is_whole := by
  refine fn_by tp.f_is_whole sc_is_whole (fun vs H Q E h => by unfold sp_is_whole at h; split at h <;> first | rfl | exact h.elim) (fun f cdv A outer s H vs Q E hr h => ⟨_, (pss_one (ps_ret (g_andV (pe_callB (k_isi K rfl) (by rfl) tp.b_isinstance (by decide +kernel) (pa_cons (gv 0) (pa_cons (pe_bltn (v := .ty "int") rfl tp.b_int (by decide +kernel) rfl) pa_nil))) (pe_one (g_notV (pe_callB (k_isi K rfl) (by rfl) tp.b_isinstance (by decide +kernel) (pa_cons (gv 0) (pa_cons (pe_bltn (v := .ty "bool") rfl tp.b_bool (by decide +kernel) rfl) pa_nil)))))))), ?_⟩)
  unfold sp_is_whole at h
  split at h
  · walk_at "w"
    refine ⟨_, is_ii, way_t ?_⟩
    walk_at "w"
    exact ⟨_, is_ib, h⟩
  · exact h.elim

instance {z : Str} : Decidable (IsNm z) := by unfold IsNm; infer_instance
def sp_is_name : Sp := fun vs H Q _ => match vs with
  | [.str z] => z.length ≤ 1000 ∧ ∀ H', Same H H' → Q (.bl (decide (IsNm z))) H'
  | _ => False
theorem ok_is_name (tp : Top K mg) : FnN P w K mg base 1 "is_name" [] sp_is_name := by
  refine fn_by tp.f_is_name sc_is_name (fun vs H Q E h => by unfold sp_is_name at h; split at h <;> first | rfl | exact h.elim) (fun f cdv A outer s H vs Q E hr h => ⟨_, (pss_cons (g_if (PW.pt (g_or (pt_not (g_val (pe_callB (k_isi K rfl) (by rfl) tp.b_isinstance (by decide +kernel) (pa_cons (gv 0) (pa_cons (pe_bltn (v := .ty "str") rfl tp.b_str (by decide +kernel) rfl) pa_nil))))) (pw_or1 (pt_not (g_chainT op_leG op_leG pe_int (pe_callB (k_len K rfl) (by rfl) tp.b_len (by decide +kernel) (pa_cons (gv 0) pa_nil)) pe_int))))) (pss_one (ps_ret pe_bl)) pss_nil) (pss_one (ps_ret (g_cmpV (k_eqG K rfl hr.units) (g_lc rfl sc_is_name.nd (w_str (gv 0)) (blkOk_by (own := [("letter", 1)]) (N := (["value", "letter"] : List Str)) (sc := defScope s_is_name) (by decide +kernel)) (fun _ _ _ _ _ => pg_name (i := 1) sc_is_name.nd rfl (Or.inl rfl)) (fun _ _ _ _ _ => (pts_one (g_cmp (k_ninG K rfl) (gv 1) (pe_glob (v := .str _) rfl (Classical.choose_spec tp.g_ALPHABET) ⟨_, rfl⟩) (by with_unfolding_all rfl)))) (fun _ _ _ _ _ => (gv 1))) (g_lst pa_nil) (nomark _))))), ?_⟩)
  unfold sp_is_name at h
  split at h
  next z =>
    obtain ⟨hz, h⟩ := h
    have hz2 : z.length ≤ sizeLine := Nat.le_trans hz (by decide)
    walk_at "w"
    refine ⟨_, is_ss, way_f ?_⟩
    walk_at "w"
    refine ⟨hz2, ?_⟩
    walk_at "w"
    refine way_d (fun h1 => ?_) (fun h1 => ?_)
    · walk_at "w"
      refine way_nd (fun h8 => ?_) (fun h8 => ?_)
      · walk_at "w"
        have q := h H (Same.refl _)
        rw [decide_eq_false (by intro q; exact h8 (by have := q.2.1; omega))] at q
        exact q
      · walk_at "w"
        refine ⟨hz2, comp_str (F := fun i acc G => Same H G ∧ (acc = [] ↔ ∀ c ∈ z.cps.toList.take i, c ∈ alph)) (Nat.lt_of_le_of_lt hz (by decide)) ⟨Same.refl _, by simp⟩ (fun D i c acc H' hc hD hDl hl f => ⟨rfl, ?_⟩) (fun D H' acc hD hDl hl f => ?_)⟩
        · walk_at "w"
          refine ⟨c, rfl, ?_⟩
          have hc' : z.cps.toList[i]? = some c := by rw [Array.getElem?_toList]; exact hc
          have tk : z.cps.toList.take (i + 1) = z.cps.toList.take i ++ [c] := by rw [List.take_add_one, hc']; rfl
          refine way_nd (fun hn => ?_) (fun hn => ?_)
          · walk_at "w"
            refine ⟨hDl, f.1, ?_⟩
            rw [tk]
            constructor
            · intro q; exact absurd q (by simp)
            · intro q; exact absurd (q c (by simp)) hn
          · refine ⟨hDl, f.1, ?_⟩
            rw [tk, f.2]
            constructor
            · intro q d hd
              rcases List.mem_append.mp hd with hd | hd
              · exact q d hd
              · rw [List.mem_singleton.mp hd]; exact hn
            · intro q d hd; exact q d (List.mem_append_left _ hd)
        · walk_at "w"
          refine ⟨by decide, fun p H2 hp s2 h2 => Or.inl ⟨acc, SqL.of (s2 _ _ hDl), h2, ?_⟩⟩
          have sH : Same H H2 := (f.1.trans off_same).trans s2
          have q := h H2 sH
          have e : decide (IsNm z) = acc.isEmpty := by
            rw [Bool.eq_iff_iff, decide_eq_true_eq, List.isEmpty_iff, f.2]
            have tk : z.cps.toList.take z.length = z.cps.toList := List.take_of_length_le (by simp [Str.length])
            rw [tk]
            exact ⟨fun q => q.2.2, fun q => ⟨by omega, by omega, q⟩⟩
          rw [e] at q
          exact q
    · walk_at "w"
      have q := h H (Same.refl _)
      rw [decide_eq_false (by intro q; exact h1 (by have := q.1; omega))] at q
      exact way_t q
  next => exact h.elim

def sp_check_name : Sp := fun vs H Q _ => match vs with
  | [.str z] => IsNm z ∧ ∀ H', Same H H' → Q .non H'
  | _ => False
theorem ok_check_name (tp : Top K mg) : FnN P w K mg base 2 "check_name" [] sp_check_name := by
  refine fn_by tp.f_check_name sc_check_name (fun vs H Q E h => by unfold sp_check_name at h; split at h <;> first | rfl | exact h.elim) (fun f cdv A outer s H vs Q E hr h => ⟨_, (pss_one (g_if (pt_not (g_val (g_call (ok_is_name tp) hr rfl (by omega) (pa_cons (gv 0) pa_nil)))) (pss_one ps_never) pss_nil)), ?_⟩)
  unfold sp_check_name at h
  split at h
  next z =>
    walk_at "w"
    refine ⟨Nat.le_trans h.1.2.1 (by decide), fun H' s' => ?_⟩
    rw [decide_eq_true h.1]
    refine way_f ?_
    exact h.2 H' s'
  next => exact h.elim

def sp_check_whole : Sp := fun vs H Q _ => match vs with
  | [.int _] => Q .non H
  | _ => False
theorem ok_check_whole (tp : Top K mg) : FnN P w K mg base 2 "check_whole" [] sp_check_whole := by
  refine fn_by tp.f_check_whole sc_check_whole (fun vs H Q E h => by unfold sp_check_whole at h; split at h <;> first | rfl | exact h.elim) (fun f cdv A outer s H vs Q E hr h => ⟨_, (pss_one (g_if (pt_not (g_val (g_call (ok_is_whole tp) hr rfl (by omega) (pa_cons (gv 0) pa_nil)))) (pss_one ps_never) pss_nil)), ?_⟩)
  unfold sp_check_whole at h
  split at h
  · walk_at "w"
    exact way_f h
  · exact h.elim

def sp_is_ascending : Sp := fun vs H Q _ => match vs with
  | [.ref p] => ∃ ns : List Int, H p = some (.lst (ns.map V.int)) ∧ ns.Pairwise (· < ·) ∧ ns.length ≤ 1000 ∧ ∀ H', Same H H' → Q (.bl true) H'
  | _ => False
theorem pw_at {ns : List Int} (h : ns.Pairwise (· < ·)) {i : Nat} {a b : Int} (ha : ns[i]? = some a) (hb : ns[i + 1]? = some b) : a < b := by
  obtain ⟨h1, e1⟩ := List.getElem?_eq_some_iff.mp ha
  obtain ⟨h2, e2⟩ := List.getElem?_eq_some_iff.mp hb
  rw [← e1, ← e2]
  exact List.pairwise_iff_getElem.mp h i (i + 1) h1 h2 (by omega)
theorem map_at {ns : List Int} {i : Nat} {x : V} (h : (ns.map V.int)[i]? = some x) : ∃ a, ns[i]? = some a ∧ x = .int a := by
  rw [List.getElem?_map] at h
  cases e : ns[i]? with
  | none => rw [e] at h; simp at h
  | some a => rw [e] at h; simp at h; exact ⟨a, rfl, h.symm⟩
theorem ok_is_ascending (tp : Top K mg) : FnN P w K mg base 2 "is_ascending" [] sp_is_ascending := by
  refine fn_by tp.f_is_ascending sc_is_ascending (fun vs H Q E h => by unfold sp_is_ascending at h; split at h <;> first | rfl | exact h.elim) (fun f cdv A outer s H vs Q E hr h => ⟨_, (pss_cons (g_if (PW.pt (g_or (pt_not (g_val (pe_callB (k_isi K rfl) (by rfl) tp.b_isinstance (by decide +kernel) (pa_cons (gv 0) (pa_cons (pe_bltn (v := .ty "list") rfl tp.b_list (by decide +kernel) rfl) pa_nil))))) (pw_or1 (g_cmp (k_neG K rfl hr.units) (g_lc rfl sc_is_ascending.nd (kw_list K rfl (gv 0)) (blkOk_by (own := [("number", 1)]) (N := (["value", "number", "at"] : List Str)) (sc := defScope s_is_ascending) (by decide +kernel)) (fun _ _ _ _ _ => pg_name (i := 1) sc_is_ascending.nd rfl (Or.inl rfl)) (fun _ _ _ _ _ => (pts_one (pt_not (g_val (g_call (ok_is_whole tp) hr rfl (by omega) (pa_cons (gv 1) pa_nil)))))) (fun _ _ _ _ _ => (gv 1))) (g_lst pa_nil) (nomark _))))) (pss_one (ps_ret pe_bl)) pss_nil) (pss_one (ps_ret (g_cmpV (k_eqG K rfl hr.units) (g_lc rfl sc_is_ascending.nd (w_range2 rfl tp.b_range (pa_cons pe_int (pa_cons (pe_callB (k_len K rfl) (by rfl) tp.b_len (by decide +kernel) (pa_cons (gv 0) pa_nil)) pa_nil))) (blkOk_by (own := [("at", 2)]) (N := (["value", "number", "at"] : List Str)) (sc := defScope s_is_ascending) (by decide +kernel)) (fun _ _ _ _ _ => pg_name (i := 2) sc_is_ascending.nd rfl (Or.inl rfl)) (fun _ _ _ _ _ => (pts_one (g_cmp op_geG (pe_ix (k_ix K rfl) (gv 0) (pe_op op_subG (gv 2) pe_int) (fun _ _ => rfl)) (pe_ix (k_ix K rfl) (gv 0) (gv 2) (fun _ _ => rfl)) (nomark _)))) (fun _ _ _ _ _ => (gv 2))) (g_lst pa_nil) (nomark _))))), ?_⟩)
  unfold sp_is_ascending at h
  split at h
  next p =>
    obtain ⟨ns, hp, asc, hl, h⟩ := h
    have hl2 : (ns.map V.int).length < sizeLine := by rw [List.length_map]; exact Nat.lt_of_le_of_lt hl (by decide)
    walk_at "w"
    refine ⟨_, is_ll hp, way_f ?_⟩
    walk_at "w"
    refine comp_list (xs := ns.map V.int) (fun i acc G => Same H G ∧ acc = []) hl2 ⟨Same.refl _, rfl⟩ (fun i acc G f => SqL.of (f.1 _ _ hp)) (fun D i x acc H' hx hD hDl hq f => ⟨rfl, ?_⟩) (fun D H' acc hD hDl hq f => ?_)
    · obtain ⟨a, ha, rfl⟩ := map_at hx
      walk_at "w"
      exact way_f ⟨hDl, f⟩
    · obtain ⟨s1, rfl⟩ := f
      have s2 : Same H H' := s1.trans off_same
      walk_at "w"
      refine ⟨by decide, fun p2 H2 hp2 s3 h2 => Or.inl ⟨[], SqL.of (s3 _ _ hDl), h2, ?_⟩⟩
      refine way_f ?_
      walk_at "w"
      have s4 : Same H H2 := s2.trans s3
      refine ⟨_, Or.inl (SqL.of (s4 _ _ hp)), ?_⟩
      rw [List.length_map]
      refine ⟨by omega, ?_⟩
      have hn : ((ns.length : Int) - 1).toNat = ns.length - 1 := by omega
      rw [hn]
      refine comp_range (fun i acc G => Same H G ∧ acc = []) (Nat.lt_of_le_of_lt (Nat.le_trans (Nat.sub_le _ _) hl) (by decide)) ⟨s4, rfl⟩ (fun D i acc H' hi hD hDl hq f => ⟨rfl, ?_⟩) (fun D H' acc hD hDl hq f => ?_)
      · obtain ⟨s5, rfl⟩ := f
        have s6 : Same H H' := s5.trans off_same
        obtain ⟨a, ha⟩ : ∃ a, ns[i]? = some a := ⟨ns[i], List.getElem?_eq_getElem (by omega)⟩
        obtain ⟨b, hb⟩ : ∃ b, ns[i + 1]? = some b := ⟨ns[i + 1], List.getElem?_eq_getElem (by omega)⟩
        have hab := pw_at asc ha hb
        walk_at "w"
        refine ⟨ns.map V.int, .int a, Or.inl (SqL.of (s6 _ _ hp)), at_of (j := i) (by omega) (by rw [List.getElem?_map, ha]; rfl), ?_⟩
        walk_at "w"
        refine ⟨ns.map V.int, .int b, Or.inl (SqL.of (s6 _ _ hp)), at_of (j := i + 1) (by omega) (by rw [List.getElem?_map, hb]; rfl), ?_⟩
        walk_at "w"
        rw [decide_eq_false (by omega)]
        exact way_f ⟨hDl, s5, rfl⟩
      · obtain ⟨s5, rfl⟩ := f
        walk_at "w"
        refine ⟨by decide, fun p3 H3 hp3 s6 h3 => Or.inl ⟨[], SqL.of (s6 _ _ hDl), h3, ?_⟩⟩
        exact h H3 ((s5.trans off_same).trans s6)
  next => exact h.elim

def sp_check_within (K : PySem.W.Frag) : Sp := fun vs H Q _ => match vs with
  | [.int a, .int lo, .int hi] => lo ≤ a ∧ a ≤ hi ∧ Q .non H
  | _ => False
theorem ok_check_within (tp : Top K mg) : FnN P w K mg base 2 "check_within" [] (sp_check_within K) := by
  refine fn_by tp.f_check_within sc_check_within (fun vs H Q E h => by unfold sp_check_within at h; split at h <;> first | rfl | exact h.elim) (fun f cdv A outer s H vs Q E hr h => ⟨_, (pss_one (g_if (PW.pt (g_or (pt_not (g_val (g_call (ok_is_whole tp) hr rfl (by omega) (pa_cons (gv 0) pa_nil)))) (pw_or1 (pt_not (g_chainT op_leG op_leG (gv 1) (gv 0) (gv 2)))))) (pss_one ps_never) pss_nil)), ?_⟩)
  unfold sp_check_within at h
  split at h
  next a lo hi =>
    obtain ⟨h1, h2, q⟩ := h
    walk_at "w"
    refine way_f ?_
    walk_at "w"
    rw [decide_eq_true h1]
    refine way_t ?_
    walk_at "w"
    rw [decide_eq_true h2]
    exact way_f q
  next => exact h.elim


abbrev CLf (K : PySem.W.Frag) : Addr := He.ga K "Leaf"
abbrev CGf (K : PySem.W.Frag) : Addr := He.ga K "Group"
abbrev MTk (K : PySem.W.Frag) : Hp → T → V → Prop := MT (CLf K) (CGf K)
abbrev MTsk (K : PySem.W.Frag) : Hp → List T → List V → Prop := MTs (CLf K) (CGf K)
theorem gfs_put (p r : Addr) (m : Nat) : putF "taken" (.int m) (putF "rows" (.ref r) (putF "picks" (.ref p) [])) = gfs p r m := by
  have e1 : ¬ (("picks" : Str) = "rows") := by decide +kernel
  have e2 : ¬ (("picks" : Str) = "taken") := by decide +kernel
  have e3 : ¬ (("rows" : Str) = "taken") := by decide +kernel
  simp only [putF, if_neg e1, if_neg e2, if_neg e3]
  rfl

def sp_Leaf___init__ (K : PySem.W.Frag) : Sp := fun vs H Q _ => match vs with
  | [.ref a, .str z] => ∃ dx, H a = some (.ins (CLf K) dx []) ∧ IsNm z ∧ ∀ H', SameX a H H' → H' a = some (.ins (CLf K) dx (lfs z)) → Q .non H'
  | _ => False
/-- Leaf(name) -/
def sp_Leaf (K : PySem.W.Frag) : Sp := fun vs H Q _ => match vs with
  | [.str z] => IsNm z ∧ ∀ v H', Same H H' → MTk K H' (.leaf z) v → Q v H'
  | _ => False
theorem mk_Leaf (tp : Top K mg) : MkN P w K mg base 3 "Leaf" (sp_Leaf K) := by
  refine mk_by (sp0 := sp_Leaf___init__ K) tp.m_Leaf___init__ tp.k_Leaf.1 tp.k_Leaf.2 tp.c_Leaf sc_Leaf___init__ (fun vs H Q E h => by unfold sp_Leaf___init__ at h; split at h <;> first | rfl | exact h.elim) (fun vs H Q h y dy hy hdy hne => ?_) (fun f cdv A outer s H vs Q E hr h => ⟨_, (pss_cons (ps_expr (g_call (ok_check_name tp) hr rfl (by omega) (pa_cons (gv 1) pa_nil))) (pss_one (k_fldS K rfl (gv 0) (gv 1) rfl))), ?_⟩)
  · unfold sp_Leaf at h
    split at h
    next z =>
      refine ⟨dy, upd_same, h.1, fun H' s1 h1 => ⟨rfl, h.2 _ _ (fun b o e => ?_) ⟨y, dy, rfl, h1⟩⟩⟩
      have n1 : b ≠ y := ne_of_none e hy
      exact s1 b o n1 (by rw [upd_ne n1, upd_ne (ne_of_none e hdy)]; exact e)
    next => exact h.elim
  · unfold sp_Leaf___init__ at h
    split at h
    next a z =>
      obtain ⟨dx, ha, hz, h⟩ := h
      walk_at "w"
      refine ⟨hz, fun H1 s1 => ?_⟩
      walk_at "w"
      refine ⟨_, dx, [], s1 _ _ ha, tp.i_Leaf.cl, tp.n_Leaf_label, (by decide), fun H2 s2 h2 => ?_⟩
      exact h H2 (fun b o n e => s2 b o n (s1 b o e)) h2
    next => exact h.elim

def sp_Leaf_width (K : PySem.W.Frag) : Sp := fun vs H Q _ => match vs with
  | [v] => ∃ z, MTk K H (.leaf z) v ∧ Q (.int 1) H
  | _ => False
theorem ok_Leaf_width (tp : Top K mg) : PrN P w K mg base 1 (CLf K) "width" (sp_Leaf_width K) := by
  refine pr_by tp.m_Leaf_width sc_Leaf_width (fun vs H Q E h => by unfold sp_Leaf_width at h; split at h <;> first | rfl | exact h.elim) (fun f cdv A outer s H vs Q E hr h => ⟨_, (pss_one (ps_ret pe_int)), ?_⟩)
  unfold sp_Leaf_width at h
  split at h
  · exact h.choose_spec.2
  · exact h.elim

def sp_Group_width (K : PySem.W.Frag) : Sp := fun vs H Q _ => match vs with
  | [v] => ∃ rk ps, MTk K H (.grp rk ps) v ∧ Q (.int rk.length) H
  | _ => False
theorem ok_Group_width (tp : Top K mg) : PrN P w K mg base 1 (CGf K) "width" (sp_Group_width K) := by
  refine pr_by tp.m_Group_width sc_Group_width (fun vs H Q E h => by unfold sp_Group_width at h; split at h <;> first | rfl | exact h.elim) (fun f cdv A outer s H vs Q E hr h => ⟨_, (pss_one (ps_ret (pe_callB (k_len K rfl) (by rfl) tp.b_len (by decide +kernel) (pa_cons (k_fld K rfl (gv 0) rfl) pa_nil)))), ?_⟩)
  unfold sp_Group_width at h
  split at h
  next v =>
    obtain ⟨rk, ps, ⟨a, dx, p, r, us, rfl, h1, h2, h3, h4⟩, q⟩ := h
    walk_at "w"
    refine ⟨_, dx, _, .ref p, h1, tp.i_Group.cl, tp.n_Group_picks, rfl, ?_⟩
    walk_at "w"
    refine ⟨_, Or.inr (SqT.of h2), ?_⟩
    rw [List.length_map]
    exact q
  next => exact h.elim
/-- x.width of a variable -/
theorem rd_width {K : PySem.W.Frag} {i : Nat} {σ : L2.St} {H : Hp} {Q : VK} {t : T} {v : V} (hi : σ[i]? = some (some v)) (m : MTk K H t v) (q : Q (.int t.width) H) :
    gProp (CLf K) (sp_Leaf_width K) (gVar i) σ H Q ∨ gProp (CGf K) (sp_Group_width K) (gVar i) σ H Q := by
  cases t with
  | leaf z =>
    have m' := m
    obtain ⟨a, dx, rfl, h⟩ := m
    left; unfold gProp gVar; rw [hi]
    exact ⟨dx, _, h, z, m', q⟩
  | grp rk ps =>
    have m' := m
    obtain ⟨a, dx, p, r, us, rfl, h, _⟩ := m
    right; unfold gProp gVar; rw [hi]
    exact ⟨dx, _, h, rk, ps, m', q⟩

def sp_Leaf_names (K : PySem.W.Frag) : Sp := fun vs H Q _ => match vs with
  | [v] => ∃ z, MTk K H (.leaf z) v ∧ ∀ p H', H p = none → Same H H' → H' p = some (.lst [.str z]) → Q (.ref p) H'
  | _ => False
theorem ok_Leaf_names (tp : Top K mg) : MtN P w K mg base 1 (CLf K) "names" [] (sp_Leaf_names K) := by
  refine mt_by tp.m_Leaf_names sc_Leaf_names (fun vs H Q E h => by unfold sp_Leaf_names at h; split at h <;> first | rfl | exact h.elim) (fun f cdv A outer s H vs Q E hr h => ⟨_, (pss_one (ps_ret (g_lst (pa_cons (k_fld K rfl (gv 0) rfl) pa_nil)))), ?_⟩)
  unfold sp_Leaf_names at h
  split at h
  next v =>
    obtain ⟨z, ⟨a, dx, rfl, h1⟩, q⟩ := h
    walk_at "w"
    refine ⟨_, dx, _, .str z, h1, tp.i_Leaf.cl, tp.n_Leaf_label, rfl, ?_⟩
    exact ⟨(by show 1 ≤ sizeLine; decide), q⟩
  next => exact h.elim

def sp_Group_names (K : PySem.W.Frag) (n : Nat) : Sp := fun vs H Q _ => match vs with
  | [v] => ∃ rk ps, MTk K H (.grp rk ps) v ∧ T.depthL ps < n ∧ (T.namesL ps).length ≤ 1000 ∧ ∀ p H', H p = none → Same H H' → H' p = some (.lst ((T.namesL ps).map V.str)) → Q (.ref p) H'
  | _ => False
theorem T.namesL_take {ts : List T} {i : Nat} {t : T} (h : ts[i]? = some t) : T.namesL (ts.take (i + 1)) = T.namesL (ts.take i) ++ t.names := by
  rw [List.take_add_one, h, T.namesL_eq, T.namesL_eq, List.flatMap_append]
  simp
theorem T.namesL_take_le {ts : List T} (i : Nat) : (T.namesL (ts.take i)).length ≤ (T.namesL ts).length := by
  have : T.namesL ts = T.namesL (ts.take i) ++ T.namesL (ts.drop i) := by
    rw [T.namesL_eq, T.namesL_eq, T.namesL_eq, ← List.flatMap_append, List.take_append_drop]
  rw [this, List.length_append]; omega
theorem ok_Group_names (tp : Top K mg) : ∀ n, MtN P w K mg base (n + 1) (CGf K) "names" [] (sp_Group_names K n)
  | 0 => by
    refine mt_by tp.m_Group_names sc_Group_names (fun vs H Q E h => by unfold sp_Group_names at h; split at h <;> first | rfl | exact h.elim) (fun f cdv A outer s H vs Q E hr h => ?_)
    exfalso
    unfold sp_Group_names at h
    split at h
    next v => obtain ⟨rk, ps, _, h, _⟩ := h; omega
    next => exact h
  | n + 1 => by
    have ih := ok_Group_names tp n
    have okL : MtN P w K mg base (n + 1) (CLf K) "names" [] (sp_Leaf_names K) := (ok_Leaf_names tp).up (by omega)
    refine mt_by tp.m_Group_names sc_Group_names (fun vs H Q E h => by unfold sp_Group_names at h; split at h <;> first | rfl | exact h.elim) (fun f cdv A outer s H vs Q E hr h => ⟨_, (pss_one (ps_ret (g_lc2 rfl sc_Group_names.nd (kw_tup K rfl (k_fld K rfl (gv 0) rfl)) (blkOk_by (own := [("part", 1), ("name", 2)]) (N := (["self", "part", "name"] : List Str)) (sc := defScope s_Group_names) (by decide +kernel)) (vs1 := [2]) (by decide) (fun _ _ _ _ _ => pg_name (i := 1) sc_Group_names.nd rfl (Or.inl rfl)) (fun _ _ _ _ _ => (kw_list K rfl (PEor (g_meth0 (okL) hr (by omega) (gv 1)) (g_meth0 (ih) hr (by omega) (gv 1))))) (fun _ _ _ _ _ => pg_name (i := 2) sc_Group_names.nd rfl (Or.inl rfl)) (fun _ _ _ _ _ => (gv 2))))), ?_⟩)
    unfold sp_Group_names at h
    split at h
    next v =>
      obtain ⟨rk, ps, ⟨a, dx, p, r, us, rfl, h1, h2, h3, h4⟩, hd, hz, q⟩ := h
      have hus := h4.length
      walk_at "w"
      refine ⟨_, dx, _, .ref r, h1, tp.i_Group.cl, tp.n_Group_rows, rfl, ?_⟩
      walk_at "w"
      refine comp2_tup (xs := us) (fun i acc G => Same H G ∧ acc = (T.namesL (ps.take i)).map V.str) ⟨Same.refl _, rfl⟩ (fun i acc G f => SqT.of (f.1 _ _ h3)) (fun D i x acc H' hx hD hDl f => ⟨rfl, ?_⟩) (fun D H' acc hD hDl f => ?_)
      · obtain ⟨s1, rfl⟩ := f
        obtain ⟨t, ht, mt⟩ := (h4.mono (s1.trans off_same)).at_ hx
        have tl := T.namesL_take ht
        have le1 := T.namesL_take_le (ts := ps) (i + 1)
        have main : ∀ b H4, H' b = none → Same H' H4 → H4 b = some (.lst (t.names.map V.str)) → (∃ ys, SqL K H4 b ys) ∧ Inner 2 (gVar 2) [2] [some (.ref a), some x, none] D ((T.namesL (ps.take i)).map V.str) (fun acc G => Same H G ∧ acc = (T.namesL (ps.take (i + 1))).map V.str) (Itl K b) H4 := fun b H4 hb s2 h5 => by
          have hne : b ≠ D := (ne_of_none hDl hb).symm
          refine inner_flat (s2 _ _ hDl) (SqL.of (by rw [off_at hne]; exact h5)) ?_ (fun z => rfl) (fun z => rfl) (fun G s3 => ⟨s1.trans ((off_mono s2).trans s3), by rw [tl, List.map_append]⟩)
          rw [List.length_map, List.length_map]
          rw [tl, List.length_append] at le1
          exact Nat.lt_of_le_of_lt (Nat.le_trans le1 hz) (by decide)
        cases t with
        | leaf z =>
          obtain ⟨b, dy, rfl, hb⟩ := mt
          left
          exact ⟨dy, _, hb, rfl, z, ⟨b, dy, rfl, hb⟩, main⟩
        | grp rk2 ps2 =>
          have mt' := mt
          obtain ⟨b, dy, p2, r2, us2, rfl, hb, _⟩ := mt
          have hdt := T.depthL_le (List.mem_of_getElem? ht)
          rw [T.depth] at hdt
          right
          refine ⟨dy, _, hb, rfl, rk2, ps2, mt', by omega, ?_, ?_⟩
          · rw [tl, List.length_append, T.names] at le1; omega
          · exact main
      · obtain ⟨s1, rfl⟩ := f
        refine q D H' hD (s1.trans off_same) ?_
        rw [hDl, hus, List.take_length]
    next => exact h.elim

/-- parts that may stand in one group -/
structure PtsOk (ts : List T) : Prop where
  ne : ts ≠ []
  nd : (T.namesL ts).Nodup
  dp : T.depthL ts < 45
  sz : (T.namesL ts).length ≤ 1000
  tk : T.taken ts ≤ 1000
  ln : ts.length ≤ 1000
def sp_are_parts (K : PySem.W.Frag) : Sp := fun vs H Q _ => match vs with
  | [.ref p] => ∃ us ts, H p = some (.lst us) ∧ MTsk K H ts us ∧ PtsOk ts ∧ ∀ H', Same H H' → Q (.bl true) H'
  | _ => False
theorem lt1000 {n : Nat} (h : n ≤ 1000) : n < sizeLine := Nat.lt_of_le_of_lt h (by decide)
/-- x.names() of a variable, as a list to be walked -/
theorem rd_names {K : PySem.W.Frag} {i : Nat} {σ : L2.St} {H : Hp} {Q : VK} {t : T} {v : V} {n : Nat} (hi : σ[i]? = some (some v)) (m : MTk K H t v) (hd : t.depth ≤ n) (hz : t.names.length ≤ 1000) (q : ∀ p H', H p = none → Same H H' → H' p = some (.lst (t.names.map V.str)) → Q (.ref p) H') :
    gMeth (CLf K) "names" (sp_Leaf_names K) [] (gVar i) tNil σ H Q ∨ gMeth (CGf K) "names" (sp_Group_names K n) [] (gVar i) tNil σ H Q := by
  cases t with
  | leaf z =>
    have m' := m
    obtain ⟨a, dx, rfl, h⟩ := m
    left; unfold gMeth gVar; rw [hi]
    exact ⟨dx, _, h, rfl, z, m', q⟩
  | grp rk ps =>
    have m' := m
    obtain ⟨a, dx, p, r, us, rfl, h, _⟩ := m
    right; unfold gMeth gVar; rw [hi]
    rw [T.depth] at hd
    rw [T.names] at hz
    exact ⟨dx, _, h, rfl, rk, ps, m', by omega, hz, q⟩
theorem is_tree {K : PySem.W.Frag} {mg : Str → Option Value} (tp : Top K mg) {H : Hp} {t : T} {v : V} (m : MTk K H t v) : IsT K H v (.ref (He.ga K "Tree")) true := by
  cases t with
  | leaf z => obtain ⟨a, dx, rfl, h⟩ := m; exact is_own h tp.i_Leaf tp.kit_Leaf_Tree
  | grp rk ps => obtain ⟨a, dx, p, r, us, rfl, h, _⟩ := m; exact is_own h tp.i_Group tp.kit_Group_Tree
theorem ok_are_parts (tp : Top K mg) : FnN P w K mg base 47 "are_parts" [] (sp_are_parts K) := by
  refine fn_by tp.f_are_parts sc_are_parts (fun vs H Q E h => by unfold sp_are_parts at h; split at h <;> first | rfl | exact h.elim) (fun f cdv A outer s H vs Q E hr h => ⟨_, (pss_cons (g_if (PW.pt (g_or (pt_not (g_val (pe_callB (k_isi K rfl) (by rfl) tp.b_isinstance (by decide +kernel) (pa_cons (gv 0) (pa_cons (pe_bltn (v := .ty "list") rfl tp.b_list (by decide +kernel) rfl) pa_nil))))) (g_or (g_cmp (k_eqG K rfl hr.units) (gv 0) (g_lst pa_nil) (nomark _)) (pw_or1 (g_cmp (k_neG K rfl hr.units) (g_lc rfl sc_are_parts.nd (kw_list K rfl (gv 0)) (blkOk_by (own := [("part", 2)]) (N := (["value", "names", "part", "name"] : List Str)) (sc := defScope s_are_parts) (by decide +kernel)) (fun _ _ _ _ _ => pg_name (i := 2) sc_are_parts.nd rfl (Or.inl rfl)) (fun _ _ _ _ _ => (pts_one (pt_not (g_val (pe_callB (k_isi K rfl) (by rfl) tp.b_isinstance (by decide +kernel) (pa_cons (gv 2) (pa_cons (pe_glob (v := .ref _) rfl tp.c_Tree rfl) pa_nil))))))) (fun _ _ _ _ _ => (gv 2))) (g_lst pa_nil) (nomark _)))))) (pss_one (ps_ret pe_bl)) pss_nil) (pss_cons (g_setLc2 (i := 1) rfl sc_are_parts.nd rfl rfl (sw_true rfl rfl rfl (by decide +kernel)) (kw_list K rfl (gv 0)) (blkOk_by (own := [("part", 2), ("name", 3)]) (N := (["value", "names", "part", "name"] : List Str)) (sc := defScope s_are_parts) (by decide +kernel)) (vs1 := [3]) (by decide) (fun _ _ _ _ _ => pg_name (i := 2) sc_are_parts.nd rfl (Or.inl rfl)) (fun _ _ _ _ _ => (kw_list K rfl (PEor (g_meth0 (ok_Leaf_names tp) hr (by omega) (gv 2)) (g_meth0 (ok_Group_names tp 45) hr (by omega) (gv 2))))) (fun _ _ _ _ _ => pg_name (i := 3) sc_are_parts.nd rfl (Or.inl rfl)) (fun _ _ _ _ _ => (gv 3))) (pss_one (ps_ret (g_cmpV (k_eqG K rfl hr.units) (k_lenSet K rfl rfl tp.b_len rfl tp.b_set (gv 1) rfl) (pe_callB (k_len K rfl) (by rfl) tp.b_len (by decide +kernel) (pa_cons (gv 1) pa_nil)) (nomark _)))))), ?_⟩)
  unfold sp_are_parts at h
  split at h
  next p =>
    obtain ⟨us, ts, hp, hm, ok, q⟩ := h
    have hl := hm.length
    have hne : us ≠ [] := by rintro rfl; exact ok.ne (List.length_eq_zero_iff.mp (by simpa using hl.symm))
    walk_at "w"
    refine ⟨_, is_ll hp, way_f ?_⟩
    walk_at "w"
    refine ⟨(by show 0 ≤ sizeLine; decide), fun p1 H1 hp1 s1 h1 => Or.inl ⟨us, SqL.of (s1 _ _ hp), h1, ?_⟩⟩
    rw [List.isEmpty_eq_false_iff.mpr hne]
    refine way_f ?_
    walk_at "w"
    refine comp_list (xs := us) (fun i acc G => Same H1 G ∧ acc = []) (by rw [hl]; exact lt1000 ok.ln) ⟨Same.refl _, rfl⟩ (fun i acc G f => SqL.of (f.1 _ _ (s1 _ _ hp))) (fun D i x acc H' hx hD hDl hq f => ⟨rfl, ?_⟩) (fun D H' acc hD hDl hq f => ?_)
    · obtain ⟨s2, rfl⟩ := f
      obtain ⟨t, ht, mt⟩ := (hm.mono (s1.trans (s2.trans off_same))).at_ hx
      walk_at "w"
      exact ⟨_, is_tree tp mt, way_f ⟨hDl, s2, rfl⟩⟩
    · obtain ⟨s2, rfl⟩ := f
      have s3 : Same H H' := s1.trans (s2.trans off_same)
      walk_at "w"
      refine ⟨(by show 0 ≤ sizeLine; decide), fun p2 H2 hp2 s4 h2 => Or.inl ⟨[], SqL.of (s4 _ _ hDl), h2, ?_⟩⟩
      refine way_f ?_
      have s5 : Same H H2 := s3.trans s4
      walk_at "w"
      refine comp2_list (xs := us) (fun i acc G => Same H2 G ∧ acc = (T.namesL (ts.take i)).map V.str) ⟨Same.refl _, rfl⟩ (fun i acc G f => SqL.of (f.1 _ _ (s5 _ _ hp))) (fun D i x acc H' hx hD hDl f => ⟨rfl, ?_⟩) (fun D H' acc hD hDl f => ?_)
      · obtain ⟨s6, rfl⟩ := f
        obtain ⟨t, ht, mt⟩ := (hm.mono (s5.trans (s6.trans off_same))).at_ hx
        have tl := T.namesL_take ht
        have le1 := T.namesL_take_le (ts := ts) (i + 1)
        rw [tl, List.length_append] at le1
        have hz := ok.sz
        have hd := T.depthL_le (List.mem_of_getElem? ht)
        have dp := ok.dp
        refine rd_names (i := 2) (n := 45) rfl mt (by omega) (by omega) fun b H4 hb s7 h5 => ?_
        have hbD : b ≠ D := (ne_of_none hDl hb).symm
        refine inner_flat (s7 _ _ hDl) (SqL.of (by rw [off_at hbD]; exact h5)) ?_ (fun z => rfl) (fun z => rfl) (fun G s8 => ⟨s6.trans ((off_mono s7).trans s8), by rw [tl, List.map_append]⟩)
        rw [List.length_map, List.length_map]
        exact lt1000 (by omega)
      · obtain ⟨s6, rfl⟩ := f
        have s7 : Same H H' := s5.trans (s6.trans off_same)
        rw [hl, List.take_length] at hDl
        walk_at "w"
        refine ⟨T.namesL ts, SqL.of hDl, Nat.le_trans ok.sz (by decide), ?_⟩
        walk_at "w"
        refine ⟨_, Or.inl (SqL.of hDl), ?_⟩
        rw [List.length_map, dd_nodup_eq _ _ rfl ok.nd]
        have e : decide (((T.namesL ts).length : Int) = ((T.namesL ts).length : Int)) = true := decide_eq_true rfl
        have z := q H' s7
        rw [← e] at z
        exact z
  next => exact h.elim

def sp_is_group (K : PySem.W.Frag) : Sp := fun vs H Q _ => match vs with
  | [.ref rp, .ref pp] => ∃ rk us ts, H rp = some (.lst (rk.map V.int)) ∧ H pp = some (.lst us) ∧ MTsk K H ts us ∧ PtsOk ts ∧ RkOk rk (T.taken ts) ∧ rk.length ≤ 1000 ∧ ∀ H', Same H H' → Q (.bl true) H'
  | _ => False
theorem last_at {α : Type} {xs : List α} (h : xs ≠ []) : ∃ v, v ∈ xs ∧ atI xs (-1) = some v :=
  ⟨xs.getLast h, List.getLast_mem h, by
    have e := atI_last xs.dropLast (xs.getLast h)
    rw [List.dropLast_concat_getLast] at e
    exact e⟩
theorem ok_is_group (tp : Top K mg) : FnN P w K mg base 48 "is_group" [] (sp_is_group K) := by
  refine fn_by tp.f_is_group sc_is_group (fun vs H Q E h => by unfold sp_is_group at h; split at h <;> first | rfl | exact h.elim) (fun f cdv A outer s H vs Q E hr h => ⟨_, (pss_cons (g_if (PW.pt (g_or (pt_not (g_val (g_call (ok_are_parts tp) hr rfl (by omega) (pa_cons (gv 1) pa_nil)))) (g_or (pt_not (g_val (g_call (ok_is_ascending tp) hr rfl (by omega) (pa_cons (gv 0) pa_nil)))) (pw_or1 (g_cmp (k_eqG K rfl hr.units) (gv 0) (g_lst pa_nil) (nomark _)))))) (pss_one (ps_ret pe_bl)) pss_nil) (pss_one (ps_ret (g_andV (g_cmpV op_geG (pe_ix (k_ix K rfl) (gv 0) pe_int (fun _ _ => rfl)) pe_int (nomark _)) (pe_one (g_cmpV op_leG (pe_ix (k_ix K rfl) (gv 0) (pe_un un_negG pe_int) (fun _ _ => rfl)) (pe_callB (k_sum K rfl rfl) (by rfl) tp.b_sum (by decide +kernel) (pa_cons (g_lc rfl sc_is_group.nd (kw_list K rfl (gv 1)) (blkOk_by (own := [("part", 2)]) (N := (["ranks", "parts", "part"] : List Str)) (sc := defScope s_is_group) (by decide +kernel)) (fun _ _ _ _ _ => pg_name (i := 2) sc_is_group.nd rfl (Or.inl rfl)) (fun _ _ _ _ _ => pts_nil) (fun _ _ _ _ _ => (PEor (g_prop (ok_Leaf_width tp) hr (by omega) (gv 2) rfl) (g_prop (ok_Group_width tp) hr (by omega) (gv 2) rfl)))) pa_nil)) (nomark _))))))), ?_⟩)
  unfold sp_is_group at h
  split at h
  next rp pp =>
    obtain ⟨rk, us, ts, hr1, hp, hm, ok, rok, hrl, q⟩ := h
    have hl := hm.length
    walk_at "w"
    refine ⟨us, ts, hp, hm, ok, fun H1 s1 => ?_⟩
    refine way_f ?_
    walk_at "w"
    refine ⟨rk, s1 _ _ hr1, rok.asc, hrl, fun H2 s2 => ?_⟩
    refine way_f ?_
    have s3 := s1.trans s2
    walk_at "w"
    refine ⟨(by show 0 ≤ sizeLine; decide), fun p1 H3 hp1 s4 h3 => Or.inl ⟨rk.map V.int, SqL.of (s4 _ _ (s3 _ _ hr1)), h3, ?_⟩⟩
    have s5 := s3.trans s4
    have rne : (rk.map V.int).isEmpty = false := by
      rw [List.isEmpty_eq_false_iff]
      intro z; exact rok.ne (List.map_eq_nil_iff.mp z)
    rw [rne]
    refine way_f ?_
    obtain ⟨r0, rs, e⟩ : ∃ r0 rs, rk = r0 :: rs := by
      cases rk with
      | nil => exact absurd rfl rok.ne
      | cons a b => exact ⟨a, b, rfl⟩
    have h0 : (1 : Int) ≤ r0 := rok.lo r0 (by rw [e]; exact List.mem_cons_self ..)
    walk_at "w"
    refine ⟨rk.map V.int, .int r0, Or.inl (SqL.of (s5 _ _ hr1)), at_of (j := 0) rfl (by rw [e]; rfl), ?_⟩
    walk_at "w"
    rw [decide_eq_true h0]
    refine way_t ?_
    obtain ⟨rl, hrm, hlast⟩ := last_at (xs := rk.map V.int) (by intro z; exact rok.ne (List.map_eq_nil_iff.mp z))
    obtain ⟨r1, hr1m, rfl⟩ := List.mem_map.mp hrm
    walk_at "w"
    refine ⟨rk.map V.int, .int r1, Or.inl (SqL.of (s5 _ _ hr1)), hlast, ?_⟩
    walk_at "w"
    refine comp_list (xs := us) (fun i acc G => Same H3 G ∧ acc = (ts.take i).map fun t => V.int t.width) (by rw [hl]; exact lt1000 ok.ln) ⟨Same.refl _, rfl⟩ (fun i acc G f => SqL.of (f.1 _ _ (s5 _ _ hp))) (fun D i x acc H' hx hD hDl hq f => ⟨rfl, ?_⟩) (fun D H' acc hD hDl hq f => ?_)
    · obtain ⟨s6, rfl⟩ := f
      obtain ⟨t, ht, mt⟩ := (hm.mono (s5.trans (s6.trans off_same))).at_ hx
      refine way_t (rd_width (i := 2) rfl mt ⟨hDl, s6, ?_⟩)
      rw [List.take_add_one, ht, List.map_append]
      rfl
    · obtain ⟨s6, rfl⟩ := f
      rw [hl, List.take_length] at hDl
      walk_at "w"
      refine ⟨ts.map fun t => (t.width : Int), SqL.of (by rw [List.map_map]; exact hDl), ?_⟩
      have z := q H' (s5.trans (s6.trans off_same))
      have e2 : decide (r1 ≤ (ts.map fun t => (t.width : Int)).sum) = true := decide_eq_true (by rw [← T.taken_eq]; exact rok.hi r1 hr1m)
      rw [← e2] at z
      exact z
  next => exact h.elim

/-- Group(ranks, parts) -/
def sp_Group (K : PySem.W.Frag) : Sp := fun vs H Q _ => match vs with
  | [.ref rp, .ref pp] => ∃ rk us ts, H rp = some (.lst (rk.map V.int)) ∧ H pp = some (.lst us) ∧ MTsk K H ts us ∧ PtsOk ts ∧ RkOk rk (T.taken ts) ∧ rk.length ≤ 1000 ∧ ∀ v H', Same H H' → MTk K H' (.grp rk ts) v → Q v H'
  | _ => False
def sp_Group___init__ (K : PySem.W.Frag) : Sp := fun vs H Q _ => match vs with
  | [.ref a, .ref rp, .ref pp] => ∃ dx H0 rk us ts, H a = some (.ins (CGf K) dx []) ∧ H0 a = none ∧ Same H0 H ∧ H0 rp = some (.lst (rk.map V.int)) ∧ H0 pp = some (.lst us) ∧ MTsk K H0 ts us ∧ PtsOk ts ∧ RkOk rk (T.taken ts) ∧ rk.length ≤ 1000 ∧
    ∀ H', Same H0 H' → MTk K H' (.grp rk ts) (.ref a) → Q .non H'
  | _ => False
theorem mk_Group (tp : Top K mg) : MkN P w K mg base 49 "Group" (sp_Group K) := by
  refine mk_by (sp0 := sp_Group___init__ K) tp.m_Group___init__ tp.k_Group.1 tp.k_Group.2 tp.c_Group sc_Group___init__ (fun vs H Q E h => by unfold sp_Group___init__ at h; split at h <;> first | rfl | exact h.elim) (fun vs H Q h y dy hy hdy hne => ?_) (fun f cdv A outer s H vs Q E hr h => ⟨_, (pss_cons (g_if (pt_not (g_val (g_call (ok_is_group tp) hr rfl (by omega) (pa_cons (gv 1) (pa_cons (gv 2) pa_nil))))) (pss_one ps_never) pss_nil) (pss_cons (k_fldS K rfl (gv 0) (pe_callTy (k_tuple K rfl) (by rfl) tp.b_tuple (by decide +kernel) (pa_cons (gv 1) pa_nil)) rfl) (pss_cons (k_fldS K rfl (gv 0) (pe_callTy (k_tuple K rfl) (by rfl) tp.b_tuple (by decide +kernel) (pa_cons (gv 2) pa_nil)) rfl) (pss_one (k_fldS K rfl (gv 0) (pe_callB (k_sum K rfl rfl) (by rfl) tp.b_sum (by decide +kernel) (pa_cons (g_lc rfl sc_Group___init__.nd (kw_list K rfl (gv 2)) (blkOk_by (own := [("part", 3)]) (N := (["self", "ranks", "parts", "part"] : List Str)) (sc := defScope s_Group___init__) (by decide +kernel)) (fun _ _ _ _ _ => pg_name (i := 3) sc_Group___init__.nd rfl (Or.inl rfl)) (fun _ _ _ _ _ => pts_nil) (fun _ _ _ _ _ => (PEor (g_prop (ok_Leaf_width tp) hr (by omega) (gv 3) rfl) (g_prop (ok_Group_width tp) hr (by omega) (gv 3) rfl)))) pa_nil)) rfl))))), ?_⟩)
  · unfold sp_Group at h
    split at h
    next rp pp =>
      obtain ⟨rk, us, ts, h1, h2, h3, h4, h5, h6, q⟩ := h
      exact ⟨dy, H, rk, us, ts, upd_same, hy, fun b o e => by rw [upd_ne (ne_of_none e hy), upd_ne (ne_of_none e hdy)]; exact e, h1, h2, h3, h4, h5, h6, fun H' s1 m => ⟨rfl, q _ H' s1 m⟩⟩
    next => exact h.elim
  · unfold sp_Group___init__ at h
    split at h
    next a rp pp =>
      obtain ⟨dx, H0, rk, us, ts, ha, h0a, s0, h1, h2, h3, ok, rok, hrl, q⟩ := h
      have hl := h3.length
      walk_at "w"
      refine ⟨rk, us, ts, s0 _ _ h1, s0 _ _ h2, h3.mono s0, ok, rok, hrl, fun H1 s1 => ?_⟩
      refine way_f ?_
      have s2 := s0.trans s1
      walk_at "w"
      refine ⟨_, SqL.of (s2 _ _ h1), fun p2 H2 hp2 s3 e2 => ?_⟩
      have n0 : ∀ {H' : Hp} {b : Addr}, Same H1 H' → H' b = none → b ≠ a := fun {H' b} s hb => by
        rintro rfl
        rw [s _ _ (s1 _ _ ha)] at hb; cases hb
      refine ⟨_, dx, [], s3 _ _ (s1 _ _ ha), tp.i_Group.cl, tp.n_Group_picks, (by decide), fun H3 s4 e3 => ?_⟩
      have s5 : Same H0 H3 := SameX.un (s2.trans s3) h0a s4
      have n2 : p2 ≠ a := n0 (Same.refl _) hp2
      have e2' : H3 p2 = some (.tup (rk.map V.int)) := s4 _ _ n2 e2
      walk_at "w"
      refine ⟨_, SqL.of (s5 _ _ h2), fun p4 H4 hp4 s6 e4 => ?_⟩
      have n4 : p4 ≠ a := by rintro rfl; rw [e3] at hp4; cases hp4
      refine ⟨_, dx, _, s6 _ _ e3, tp.i_Group.cl, tp.n_Group_rows, (by show 1 < 1000; decide), fun H5 s7 e5 => ?_⟩
      have s8 : Same H0 H5 := SameX.un (s5.trans s6) h0a s7
      have e2'' : H5 p2 = some (.tup (rk.map V.int)) := s7 _ _ n2 (s6 _ _ e2')
      have e4' : H5 p4 = some (.tup us) := s7 _ _ n4 e4
      walk_at "w"
      refine comp_list (xs := us) (fun i acc G => Same H5 G ∧ acc = (ts.take i).map fun t => V.int t.width) (by rw [hl]; exact lt1000 ok.ln) ⟨Same.refl _, rfl⟩ (fun i acc G f => SqL.of (f.1 _ _ (s8 _ _ h2))) (fun D i x acc H' hx hD hDl hq f => ⟨rfl, ?_⟩) (fun D H' acc hD hDl hq f => ?_)
      · obtain ⟨s9, rfl⟩ := f
        obtain ⟨t, ht, mt⟩ := (h3.mono (s8.trans (s9.trans off_same))).at_ hx
        refine way_t (rd_width (i := 3) rfl mt ⟨hDl, s9, ?_⟩)
        rw [List.take_add_one, ht, List.map_append]
        rfl
      · obtain ⟨s9, rfl⟩ := f
        rw [hl, List.take_length] at hDl
        have s10 : Same H5 H' := s9.trans off_same
        walk_at "w"
        refine ⟨ts.map fun t => (t.width : Int), SqL.of (by rw [List.map_map]; exact hDl), ?_⟩
        refine ⟨_, dx, _, s10 _ _ e5, tp.i_Group.cl, tp.n_Group_taken, ?_, fun H6 s11 e6 => ?_⟩
        · have e1 : ¬ (("picks" : Str) = "rows") := by decide +kernel
          simp only [putF, if_neg e1]
          show 2 < 1000
          decide
        · have s12 : Same H0 H6 := SameX.un (s8.trans s10) h0a s11
          refine q H6 s12 ⟨a, dx, p2, p4, us, rfl, ?_, s11 _ _ n2 (s10 _ _ e2''), s11 _ _ n4 (s10 _ _ e4'), h3.mono s12⟩
          rw [← gfs_put, e6, T.taken_eq]
    next => exact h.elim

end LW
namespace LW
open PySem PySem.Spec L2 GG
variable {P : Program} {w : World} {K : PySem.W.Frag} {mg : Str → Option Value} {base : Heap}

theorem _root_.GG.T.Gd.pts {rk : List Int} {ps : List T} (g : (T.grp rk ps).Gd) : PtsOk ps ∧ RkOk rk (T.taken ps) ∧ rk.length ≤ 1000 := by
  have s := g.sh
  rw [T.Sh] at s
  have n := g.nd
  rw [T.names] at n
  have z := g.sz
  rw [T.names] at z
  have d := g.dp
  rw [T.depth] at d
  have t := T.taken_le s.2.2
  have r := s.2.1.len
  exact ⟨⟨s.1, n, by omega, z, by omega, by omega⟩, s.2.1, by omega⟩

def sp_Leaf___len__ (K : PySem.W.Frag) : Sp := fun vs H Q _ => match vs with
  | [v] => ∃ z, MTk K H (.leaf z) v ∧ Q (.int 1) H
  | _ => False
theorem ok_Leaf___len__ (tp : Top K mg) : MtN P w K mg base 1 (CLf K) "__len__" [] (sp_Leaf___len__ K) := by
  refine mt_by tp.m_Leaf___len__ sc_Leaf___len__ (fun vs H Q E h => by unfold sp_Leaf___len__ at h; split at h <;> first | rfl | exact h.elim) (fun f cdv A outer s H vs Q E hr h => ⟨_, (pss_one (ps_ret pe_int)), ?_⟩)
  unfold sp_Leaf___len__ at h
  split at h
  · exact h.choose_spec.2
  · exact h.elim

def sp_Group___len__ (K : PySem.W.Frag) : Sp := fun vs H Q _ => match vs with
  | [v] => ∃ rk ps, MTk K H (.grp rk ps) v ∧ (T.grp rk ps).Gd ∧ ∀ H', Same H H' → Q (.int (T.namesL ps).length) H'
  | _ => False
theorem ok_Group___len__ (tp : Top K mg) : MtN P w K mg base 47 (CGf K) "__len__" [] (sp_Group___len__ K) := by
  refine mt_by tp.m_Group___len__ sc_Group___len__ (fun vs H Q E h => by unfold sp_Group___len__ at h; split at h <;> first | rfl | exact h.elim) (fun f cdv A outer s H vs Q E hr h => ⟨_, (pss_one (ps_ret (pe_callB (k_len K rfl) (by rfl) tp.b_len (by decide +kernel) (pa_cons (g_meth0 (ok_Group_names tp 45) hr (by omega) (gv 0)) pa_nil)))), ?_⟩)
  unfold sp_Group___len__ at h
  split at h
  next v =>
    obtain ⟨rk, ps, m, g, q⟩ := h
    have m' := m
    obtain ⟨a, dx, p, r, us, rfl, h1, h2, h3, h4⟩ := m
    have ok := g.pts.1
    walk_at "w"
    refine ⟨dx, _, h1, rfl, rk, ps, m', ok.dp, ok.sz, fun b H1 hb s1 e1 => ?_⟩
    walk_at "w"
    refine ⟨_, Or.inl (SqL.of e1), ?_⟩
    rw [List.length_map]
    exact q H1 s1
  next => exact h.elim
/-- len(x) of a tree -/
theorem rd_len {K : PySem.W.Frag} {H : Hp} {Q : VK} {t : T} {v : V} (m : MTk K H t v) (g : t.Gd) (q : ∀ H', Same H H' → Q (.int t.names.length) H') :
    rLenO (CLf K) (sp_Leaf___len__ K) [v] H Q ∨ rLenO (CGf K) (sp_Group___len__ K) [v] H Q := by
  cases t with
  | leaf z =>
    have m' := m
    obtain ⟨a, dx, rfl, h⟩ := m
    exact Or.inl ⟨dx, _, h, z, m', 1, rfl, by decide, q H (Same.refl _)⟩
  | grp rk ps =>
    have m' := m
    obtain ⟨a, dx, p, r, us, rfl, h, _⟩ := m
    have z := g.sz
    exact Or.inr ⟨dx, _, h, rk, ps, m', g, fun H' s => ⟨_, rfl, by rw [T.names] at z; omega, q H' s⟩⟩
theorem c_lenT {X : Cx} {j : Nat} (tp : Top X.K X.mg) (hr : Room j X.A) (hj : 48 ≤ j) : CallR X (.builtin "len") (fun vs H Q => rLenO (CLf X.K) (sp_Leaf___len__ X.K) vs H Q ∨ rLenO (CGf X.K) (sp_Group___len__ X.K) vs H Q) :=
  (c_lenO (k := 47) (((ok_Leaf___len__ tp).up (by omega)).sp') (hr.mono hj)).or (c_lenO (k := 47) ((ok_Group___len__ tp).sp') (hr.mono hj))

def sp_Group_ranks (K : PySem.W.Frag) : Sp := fun vs H Q _ => match vs with
  | [v] => ∃ rk ps, MTk K H (.grp rk ps) v ∧ ∀ p H', H p = none → Same H H' → H' p = some (.lst (rk.map V.int)) → Q (.ref p) H'
  | _ => False
theorem ok_Group_ranks (tp : Top K mg) : PrN P w K mg base 1 (CGf K) "ranks" (sp_Group_ranks K) := by
  refine pr_by tp.m_Group_ranks sc_Group_ranks (fun vs H Q E h => by unfold sp_Group_ranks at h; split at h <;> first | rfl | exact h.elim) (fun f cdv A outer s H vs Q E hr h => ⟨_, (pss_one (ps_ret (pe_callTy (k_list K rfl) (by rfl) tp.b_list (by decide +kernel) (pa_cons (k_fld K rfl (gv 0) rfl) pa_nil)))), ?_⟩)
  unfold sp_Group_ranks at h
  split at h
  next v =>
    obtain ⟨rk, ps, ⟨a, dx, p, r, us, rfl, h1, h2, h3, h4⟩, q⟩ := h
    walk_at "w"
    refine ⟨_, dx, _, .ref p, h1, tp.i_Group.cl, tp.n_Group_picks, rfl, ?_⟩
    exact ⟨_, Or.inr (SqT.of h2), q⟩
  next => exact h.elim

def sp_Group_parts (K : PySem.W.Frag) : Sp := fun vs H Q _ => match vs with
  | [v] => ∃ rk ps, MTk K H (.grp rk ps) v ∧ ∀ p us H', H p = none → Same H H' → MTsk K H ps us → H' p = some (.lst us) → Q (.ref p) H'
  | _ => False
theorem ok_Group_parts (tp : Top K mg) : PrN P w K mg base 1 (CGf K) "parts" (sp_Group_parts K) := by
  refine pr_by tp.m_Group_parts sc_Group_parts (fun vs H Q E h => by unfold sp_Group_parts at h; split at h <;> first | rfl | exact h.elim) (fun f cdv A outer s H vs Q E hr h => ⟨_, (pss_one (ps_ret (pe_callTy (k_list K rfl) (by rfl) tp.b_list (by decide +kernel) (pa_cons (k_fld K rfl (gv 0) rfl) pa_nil)))), ?_⟩)
  unfold sp_Group_parts at h
  split at h
  next v =>
    obtain ⟨rk, ps, ⟨a, dx, p, r, us, rfl, h1, h2, h3, h4⟩, q⟩ := h
    walk_at "w"
    refine ⟨_, dx, _, .ref r, h1, tp.i_Group.cl, tp.n_Group_rows, rfl, ?_⟩
    exact ⟨_, Or.inr (SqT.of h3), fun p2 H2 a b c => q p2 us H2 a b h4 c⟩
  next => exact h.elim

def sp_Leaf_mirror (K : PySem.W.Frag) : Sp := fun vs H Q _ => match vs with
  | [v] => ∃ z, MTk K H (.leaf z) v ∧ IsNm z ∧ ∀ v H', Same H H' → MTk K H' (.leaf z) v → Q v H'
  | _ => False
theorem ok_Leaf_mirror (tp : Top K mg) : MtN P w K mg base 5 (CLf K) "mirror" [] (sp_Leaf_mirror K) := by
  refine mt_by tp.m_Leaf_mirror sc_Leaf_mirror (fun vs H Q E h => by unfold sp_Leaf_mirror at h; split at h <;> first | rfl | exact h.elim) (fun f cdv A outer s H vs Q E hr h => ⟨_, (pss_one (ps_ret (g_make (mk_Leaf tp) hr rfl (by omega) (pa_cons (k_fld K rfl (gv 0) rfl) pa_nil)))), ?_⟩)
  unfold sp_Leaf_mirror at h
  split at h
  next v =>
    obtain ⟨z, ⟨a, dx, rfl, h1⟩, hz, q⟩ := h
    walk_at "w"
    refine ⟨_, dx, _, .str z, h1, tp.i_Leaf.cl, tp.n_Leaf_label, rfl, ?_⟩
    exact ⟨hz, q⟩
  next => exact h.elim

def sp_Group_mirror (K : PySem.W.Frag) (n : Nat) : Sp := fun vs H Q _ => match vs with
  | [v] => ∃ rk ps, MTk K H (.grp rk ps) v ∧ (T.grp rk ps).Gd ∧ T.depthL ps < n ∧ ∀ v H', Same H H' → MTk K H' (T.mirror (.grp rk ps)) v → Q v H'
  | _ => False
theorem rd_mirror {K : PySem.W.Frag} {i : Nat} {σ : L2.St} {H : Hp} {Q : VK} {t : T} {v : V} {n : Nat} (hi : σ[i]? = some (some v)) (m : MTk K H t v) (g : t.Gd) (hd : t.depth ≤ n) (q : ∀ v H', Same H H' → MTk K H' t.mirror v → Q v H') :
    gMeth (CLf K) "mirror" (sp_Leaf_mirror K) [] (gVar i) tNil σ H Q ∨ gMeth (CGf K) "mirror" (sp_Group_mirror K n) [] (gVar i) tNil σ H Q := by
  cases t with
  | leaf z =>
    have m' := m
    obtain ⟨a, dx, rfl, h⟩ := m
    left; unfold gMeth gVar; rw [hi]
    exact ⟨dx, _, h, rfl, z, m', g.sh, q⟩
  | grp rk ps =>
    have m' := m
    obtain ⟨a, dx, p, r, us, rfl, h, _⟩ := m
    right; unfold gMeth gVar; rw [hi]
    rw [T.depth] at hd
    exact ⟨dx, _, h, rfl, rk, ps, m', g, by omega, q⟩
theorem ok_Group_mirror (tp : Top K mg) : ∀ n, MtN P w K mg base (n + 51) (CGf K) "mirror" [] (sp_Group_mirror K n)
  | 0 => by
    refine mt_by tp.m_Group_mirror sc_Group_mirror (fun vs H Q E h => by unfold sp_Group_mirror at h; split at h <;> first | rfl | exact h.elim) (fun f cdv A outer s H vs Q E hr h => ?_)
    exfalso
    unfold sp_Group_mirror at h
    split at h
    next v => obtain ⟨rk, ps, _, _, h, _⟩ := h; omega
    next => exact h
  | n + 1 => by
    have ih := ok_Group_mirror tp n
    have okL : MtN P w K mg base (n + 51) (CLf K) "mirror" [] (sp_Leaf_mirror K) := (ok_Leaf_mirror tp).up (by omega)
    refine mt_by tp.m_Group_mirror sc_Group_mirror (fun vs H Q E h => by unfold sp_Group_mirror at h; split at h <;> first | rfl | exact h.elim) (fun f cdv A outer s H vs Q E hr h => ⟨_, (pss_one (ps_ret (g_make (mk_Group tp) hr rfl (by omega) (pa_cons (g_lc rfl sc_Group_mirror.nd (kw_tup K rfl (k_revT K rfl (k_fld K rfl (gv 0) rfl))) (blkOk_by (own := [("rank", 1)]) (N := (["self", "rank", "part"] : List Str)) (sc := defScope s_Group_mirror) (by decide +kernel)) (fun _ _ _ _ _ => pg_name (i := 1) sc_Group_mirror.nd rfl (Or.inl rfl)) (fun _ _ _ _ _ => pts_nil) (fun _ _ _ _ _ => (pe_op op_subG (pe_op op_addG (k_fld K rfl (gv 0) rfl) pe_int) (gv 1)))) (pa_cons (g_lc rfl sc_Group_mirror.nd (kw_tup K rfl (k_fld K rfl (gv 0) rfl)) (blkOk_by (own := [("part", 2)]) (N := (["self", "rank", "part"] : List Str)) (sc := defScope s_Group_mirror) (by decide +kernel)) (fun _ _ _ _ _ => pg_name (i := 2) sc_Group_mirror.nd rfl (Or.inl rfl)) (fun _ _ _ _ _ => pts_nil) (fun _ _ _ _ _ => (PEor (g_meth0 (okL) hr (by omega) (gv 2)) (g_meth0 (ih) hr (by omega) (gv 2))))) pa_nil))))), ?_⟩)
    unfold sp_Group_mirror at h
    split at h
    next v =>
      obtain ⟨rk, ps, ⟨a, dx, p, r, us, rfl, h1, h2, h3, h4⟩, g, hd, q⟩ := h
      have hus := h4.length
      obtain ⟨ok, rok, hrl⟩ := g.pts
      have okM := (g.mirror).pts
      rw [T.taken_mirror] at okM
      walk_at "w"
      refine ⟨_, dx, _, .ref p, h1, tp.i_Group.cl, tp.n_Group_picks, rfl, ?_⟩
      walk_at "w"
      refine ⟨_, SqT.of h2, fun p1 H1 hp1 s1 e1 => ?_⟩
      rw [← List.map_reverse] at e1
      walk_at "w"
      refine comp_tup (xs := rk.reverse.map V.int) (fun i acc G => Same H1 G ∧ acc = ((rk.reverse.take i).map fun r => V.int ((T.taken ps : Int) + 1 - r))) (by rw [List.length_map, List.length_reverse]; exact lt1000 hrl) ⟨Same.refl _, rfl⟩ (fun i acc G f => SqT.of (f.1 _ _ e1)) (fun D i x acc H' hx hD hDl hq f => ⟨rfl, ?_⟩) (fun D H' acc hD hDl hq f => ?_)
      · obtain ⟨s2, rfl⟩ := f
        obtain ⟨r0, hr0, rfl⟩ := map_at hx
        refine way_t ?_
        walk_at "w"
        refine ⟨_, dx, _, .int _, (s2.trans off_same) _ _ (s1 _ _ h1), tp.i_Group.cl, tp.n_Group_taken, rfl, ?_⟩
        refine ⟨hDl, s2, ?_⟩
        rw [List.take_add_one, hr0, List.map_append]
        rfl
      · obtain ⟨s2, rfl⟩ := f
        rw [List.length_map, List.take_length] at hDl
        have s3 : Same H H' := s1.trans (s2.trans off_same)
        walk_at "w"
        refine ⟨_, dx, _, .ref r, s3 _ _ h1, tp.i_Group.cl, tp.n_Group_rows, rfl, ?_⟩
        walk_at "w"
        refine comp_tup (xs := us) (fun i acc G => Same H' G ∧ MTsk K G ((T.mirrorL ps).take i) acc) (by rw [hus]; exact lt1000 ok.ln) ⟨Same.refl _, rfl⟩ (fun i acc G f => SqT.of (f.1 _ _ (s3 _ _ h3))) (fun D2 i x acc H2 hx hD2 hDl2 hq f => ⟨rfl, ?_⟩) (fun D2 H2 acc hD2 hDl2 hq f => ?_)
        · obtain ⟨s4, hm⟩ := f
          obtain ⟨t, ht, mt⟩ := (h4.mono (s3.trans (s4.trans off_same))).at_ hx
          have hdt := T.depthL_le (List.mem_of_getElem? ht)
          refine way_t (rd_mirror (n := n) (i := 2) rfl mt (g.part (List.mem_of_getElem? ht)) (by omega) fun v5 H5 s5 m5 => ?_)
          refine ⟨s5 _ _ hDl2, s4.trans (off_mono s5), ?_⟩
          have e : (T.mirrorL ps)[i]? = some t.mirror := by rw [T.mirrorL_eq, List.getElem?_map, ht]; rfl
          rw [List.take_add_one, e]
          exact MTs.snoc (m5.monoT (SameT.off (s5 _ _ hDl2))) (hm.monoT (SameT.of (off_mono s5)))
        · obtain ⟨s4, hm⟩ := f
          have s5 : Same H' H2 := s4.trans off_same
          have em : (T.mirrorL ps).take us.length = T.mirrorL ps := by
            rw [hus, List.take_of_length_le]
            rw [T.mirrorL_eq, List.length_map]
            exact Nat.le_refl _
          rw [em] at hm
          refine ⟨_, acc, T.mirrorL ps, s5 _ _ ?_, hDl2, hm.mono off_same, okM.1, ?_, okM.2.2, fun v6 H6 s6 m6 => q v6 H6 (s3.trans (s5.trans s6)) m6⟩
          · rw [hDl, List.map_map]
            rfl
          · rw [T.taken_mirror]; exact okM.2.1
    next => exact h.elim

def sp_summed (K : PySem.W.Frag) : Sp := fun vs H Q _ => match vs with
  | [.ref p, .ref q] => ∃ a b : List Int, H p = some (.lst (a.map V.int)) ∧ H q = some (.lst (b.map V.int)) ∧ a ≠ [] ∧ b ≠ [] ∧ a.length + b.length ≤ 4000 ∧ ∀ r H', H r = none → Same H H' → H' r = some (.lst ((conv a b).map V.int)) → Q (.ref r) H'
  | _ => False
theorem getD_map {l : List Int} {i : Nat} (h : i < l.length) : (l.map V.int)[i]? = some (.int (l.getD i 0)) := by
  rw [List.getElem?_map, List.getElem?_eq_getElem h]
  simp [List.getD_eq_getElem?_getD, h]
theorem pos_len {α : Type} {l : List α} (h : l ≠ []) : 0 < l.length := by
  rcases Nat.eq_zero_or_pos l.length with z | z
  · exact absurd (List.length_eq_zero_iff.mp z) h
  · exact z
/-- the list found behind i turns -/
def fndAt (a b : List Int) (i : Nat) : List Int := (List.range (a.length + b.length - 1)).map fun k => if k < i then minl (sumsAt a b k) else a.getD 0 0 + b.getD 0 0
theorem fndAt_set {a b : List Int} {i : Nat} (h : i < a.length + b.length - 1) : (fndAt a b i).set i (minl (sumsAt a b i)) = fndAt a b (i + 1) := by
  apply List.ext_getElem?
  intro k
  unfold fndAt
  by_cases e : k = i
  · subst e
    rw [List.getElem?_set_self (by simp; omega), List.getElem?_map, List.getElem?_range h]
    simp
  · rw [List.getElem?_set_ne (Ne.symm e), List.getElem?_map, List.getElem?_map]
    by_cases hk : k < a.length + b.length - 1
    · rw [List.getElem?_range hk]
      simp only [Option.map_some, Option.some.injEq]
      by_cases h1 : k < i
      · rw [if_pos h1, if_pos (by omega)]
      · rw [if_neg h1, if_neg (by omega)]
    · rw [List.getElem?_eq_none (by simp; omega)]
      rfl
theorem fndAt_end (a b : List Int) : fndAt a b (a.length + b.length - 1) = conv a b := by
  unfold fndAt conv
  refine List.map_congr_left fun k hk => ?_
  rw [if_pos (List.mem_range.mp hk)]
theorem sums_take {a b : List Int} {at_ k : Nat} : ((List.range (k + 1)).filter (fits a b at_)).map (fun i => a.getD i 0 + b.getD (at_ - i) 0) = ((List.range k).filter (fits a b at_)).map (fun i => a.getD i 0 + b.getD (at_ - i) 0) ++ (if fits a b at_ k = true then [a.getD k 0 + b.getD (at_ - k) 0] else []) := by
  rw [List.range_succ, List.filter_append, List.map_append]
  congr 1
  by_cases h : fits a b at_ k = true
  · rw [if_pos h, List.filter_cons, if_pos h]; rfl
  · rw [if_neg h, List.filter_cons, if_neg h]; rfl
theorem ok_summed (tp : Top K mg) : FnN P w K mg base 1 "summed" [] (sp_summed K) := by
  refine fn_by tp.f_summed sc_summed (fun vs H Q E h => by unfold sp_summed at h; split at h <;> first | rfl | exact h.elim) (fun f cdv A outer s H vs Q E hr h => ⟨_, (pss_cons (g_setLc (i := 2) rfl sc_summed.nd rfl rfl (sw_true rfl rfl rfl (by decide +kernel)) (w_range1 rfl tp.b_range (pa_cons (pe_op op_subG (pe_op op_addG (pe_callB (k_len K rfl) (by rfl) tp.b_len (by decide +kernel) (pa_cons (gv 0) pa_nil)) (pe_callB (k_len K rfl) (by rfl) tp.b_len (by decide +kernel) (pa_cons (gv 1) pa_nil))) pe_int) pa_nil)) (blkOk_by (own := [("at", 3)]) (N := (["one", "other", "found", "at", "sums", "k"] : List Str)) (sc := defScope s_summed) (by decide +kernel)) (fun _ _ _ _ _ => pg_name (i := 3) sc_summed.nd rfl (Or.inl rfl)) (fun _ _ _ _ _ => pts_nil) (fun _ _ _ _ _ => (pe_op op_addG (pe_ix (k_ix K rfl) (gv 0) pe_int (fun _ _ => rfl)) (pe_ix (k_ix K rfl) (gv 1) pe_int (fun _ _ => rfl))))) (pss_cons (g_for PassesOwn.never rfl (w_range1 rfl tp.b_range (pa_cons (pe_callB (k_len K rfl) (by rfl) tp.b_len (by decide +kernel) (pa_cons (gv 2) pa_nil)) pa_nil)) (pg_name (i := 3) sc_summed.nd rfl (by first | exact Or.inl rfl | exact Or.inr rfl)) (pss_cons (g_setLc (i := 4) rfl sc_summed.nd rfl rfl (sw_true rfl rfl rfl (by decide +kernel)) (w_range1 rfl tp.b_range (pa_cons (pe_callB (k_len K rfl) (by rfl) tp.b_len (by decide +kernel) (pa_cons (gv 0) pa_nil)) pa_nil)) (blkOk_by (own := [("k", 5)]) (N := (["one", "other", "found", "at", "sums", "k"] : List Str)) (sc := defScope s_summed) (by decide +kernel)) (fun _ _ _ _ _ => pg_name (i := 5) sc_summed.nd rfl (Or.inl rfl)) (fun _ _ _ _ _ => (pts_one (g_chainT op_leG op_ltG pe_int (pe_op op_subG (gv 3) (gv 5)) (pe_callB (k_len K rfl) (by rfl) tp.b_len (by decide +kernel) (pa_cons (gv 1) pa_nil))))) (fun _ _ _ _ _ => (pe_op op_addG (pe_ix (k_ix K rfl) (gv 0) (gv 5) (fun _ _ => rfl)) (pe_ix (k_ix K rfl) (gv 1) (pe_op op_subG (gv 3) (gv 5)) (fun _ _ => rfl))))) (pss_one (ps_asg (pe_callB (k_min K rfl rfl) (by rfl) tp.b_min (by decide +kernel) (pa_cons (gv 4) pa_nil)) (pg_sub (gv 2) (gv 3) s_set))))) (pss_one (ps_ret (gv 2))))), ?_⟩)
  unfold sp_summed at h
  split at h
  next p q =>
    obtain ⟨a, b, hp, hq, ha, hb, hl, k⟩ := h
    have la := pos_len ha
    have lb := pos_len hb
    have h4 : ∀ n, n ≤ 4000 → n < sizeLine := fun n h => Nat.lt_of_le_of_lt h (by decide)
    walk_at "w"
    refine ⟨_, Or.inl (SqL.of hp), ?_⟩
    walk_at "w"
    refine ⟨_, Or.inl (SqL.of hq), ?_⟩
    walk_at "w"
    rw [List.length_map, List.length_map]
    refine ⟨by omega, ?_⟩
    have en : ((a.length : Int) + (b.length : Int) - 1).toNat = a.length + b.length - 1 := by omega
    rw [en]
    refine comp_range (fun i acc G => Same H G ∧ acc = (List.range i).map fun _ => V.int (a.getD 0 0 + b.getD 0 0)) (h4 _ (by omega)) ⟨Same.refl _, rfl⟩ (fun D i acc H' hi hD hDl hq' f => ⟨rfl, ?_⟩) (fun D H' acc hD hDl hq' f => ?_)
    · obtain ⟨s1, rfl⟩ := f
      refine way_t ?_
      walk_at "w"
      refine ⟨_, _, Or.inl (SqL.of ((s1.trans off_same) _ _ hp)), at_of (j := 0) rfl (getD_map la), ?_⟩
      walk_at "w"
      refine ⟨_, _, Or.inl (SqL.of ((s1.trans off_same) _ _ hq)), at_of (j := 0) rfl (getD_map lb), ?_⟩
      refine ⟨hDl, s1, ?_⟩
      rw [List.range_succ, List.map_append]
      rfl
    · obtain ⟨s1, rfl⟩ := f
      have s2 : Same H H' := s1.trans off_same
      have e0 : (List.range (a.length + b.length - 1)).map (fun _ => V.int (a.getD 0 0 + b.getD 0 0)) = (fndAt a b 0).map V.int := by
        unfold fndAt
        rw [List.map_map]
        exact List.map_congr_left fun x _ => by simp
      rw [e0] at hDl
      walk_at "w"
      refine ⟨_, Or.inl (SqL.of hDl), ?_⟩
      have lf : (((fndAt a b 0).map V.int).length : Int) = ((a.length + b.length - 1 : Nat) : Int) := by unfold fndAt; simp
      rw [lf]
      refine ⟨by omega, ?_⟩
      have en2 : (((a.length + b.length - 1 : Nat) : Int)).toNat = a.length + b.length - 1 := by omega
      rw [en2]
      refine forw_range (fun i σ H2 => ∃ v4 v5, σ = [some (.ref p), some (.ref q), some (.ref D), v4, v5, none] ∧ Same H H2 ∧ H2 D = some (.lst ((fndAt a b i).map V.int))) ⟨none, none, rfl, s2, hDl⟩ ?_ ?_
      · rintro i σ H2 hi ⟨v4, v5, rfl, s3, h2⟩
        walk_at "w"
        refine ⟨_, Or.inl (SqL.of (s3 _ _ hp)), ?_⟩
        walk_at "w"
        rw [List.length_map]
        refine ⟨by omega, ?_⟩
        have en3 : ((a.length : Int)).toNat = a.length := by omega
        rw [en3]
        refine comp_range (fun j acc G => Same H2 G ∧ acc = (((List.range j).filter (fits a b i)).map fun k => a.getD k 0 + b.getD (i - k) 0).map V.int) (h4 _ (by omega)) ⟨Same.refl _, rfl⟩ (fun D2 j acc H3 hj hD2 hDl2 hq2 f => ⟨rfl, ?_⟩) (fun D2 H3 acc hD2 hDl2 hq2 f => ?_)
        · obtain ⟨s4, rfl⟩ := f
          have s5 : Same H H3 := s3.trans (s4.trans off_same)
          have st := sums_take (a := a) (b := b) (at_ := i) (k := j)
          walk_at "w"
          refine way_d (fun c1 => ?_) (fun c1 => ?_)
          · walk_at "w"
            refine ⟨_, Or.inl (SqL.of (s5 _ _ hq)), ?_⟩
            rw [List.length_map]
            walk_at "w"
            refine way_d (fun c2 => ?_) (fun c2 => ?_)
            · have hf : fits a b i j = true := by unfold fits; exact decide_eq_true ⟨by omega, by omega⟩
              have ej : ((0 : Int) + (i : Int)) - ((0 : Int) + (j : Int)) = ((i - j : Nat) : Int) := by omega
              walk_at "w"
              refine ⟨_, _, Or.inl (SqL.of (s5 _ _ hp)), at_of (j := j) (by omega) (getD_map hj), ?_⟩
              walk_at "w"
              refine ⟨_, _, Or.inl (SqL.of (s5 _ _ hq)), at_of (j := i - j) ej (getD_map (by omega)), ?_⟩
              refine ⟨hDl2, s4, ?_⟩
              rw [st, if_pos hf, List.map_append]
              rfl
            · have hf : ¬ fits a b i j = true := by unfold fits; intro q; have := of_decide_eq_true q; omega
              refine ⟨hDl2, s4, ?_⟩
              rw [st, if_neg hf, List.append_nil]
          · have hf : ¬ fits a b i j = true := by unfold fits; intro q; have := of_decide_eq_true q; omega
            refine way_f ⟨hDl2, s4, ?_⟩
            rw [st, if_neg hf, List.append_nil]
        · obtain ⟨s4, rfl⟩ := f
          have s5 : Same H2 H3 := s4.trans off_same
          have sne := sums_ne ha hb hi
          walk_at "w"
          refine ⟨sumsAt a b i, SqL.of hDl2, pos_len sne, fun m hm hm2 => ?_⟩
          have em := minl_eq hm hm2
          subst em
          walk_at "w"
          refine ⟨_, i, s5 _ _ h2, ?_, fun H4 s6 h5 => ?_⟩
          · unfold ixN fndAt
            simp only [List.length_map, List.length_range]
            rw [if_pos (by omega), if_pos (by omega)]
            congr 1
            omega
          · refine ⟨_, _, rfl, SameX.un (s3.trans s5) ?_ s6, ?_⟩
            · exact hD
            · rw [h5, ← fndAt_set hi, List.map_set]
      · rintro σ H2 ⟨v4, v5, rfl, s3, h2⟩
        rw [fndAt_end] at h2
        exact k D H2 hD s3 h2
  next => exact h.elim

def sp_least_counts (K : PySem.W.Frag) (n : Nat) : Sp := fun vs H Q _ => match vs with
  | [v] => ∃ t, MTk K H t v ∧ t.Gd ∧ t.depth < n ∧ ∀ r H', H r = none → Same H H' → H' r = some (.lst (t.cnt.map V.int)) → Q (.ref r) H'
  | _ => False
theorem T.cntL_take {ts : List T} {i : Nat} {t : T} (h : ts[i]? = some t) : T.cntL (ts.take (i + 1)) [0] = conv (T.cntL (ts.take i) [0]) t.cnt := by
  rw [List.take_add_one, h]
  exact T.cntL_snoc _ _ _
theorem T.taken_take_le : ∀ (ts : List T) (i : Nat), T.taken (ts.take i) ≤ T.taken ts
  | [], i => by rw [List.take_nil]; exact Nat.le_refl _
  | t :: ts, 0 => Nat.zero_le _
  | t :: ts, i + 1 => by
    have := T.taken_take_le ts i
    rw [List.take_succ_cons, T.taken, T.taken]; omega
theorem is_leafT {K : PySem.W.Frag} {mg : Str → Option Value} (tp : Top K mg) {H : Hp} {t : T} {v : V} (m : MTk K H t v) : IsT K H v (.ref (He.ga K "Leaf")) (match t with | .leaf _ => true | .grp _ _ => false) := by
  cases t with
  | leaf z => obtain ⟨a, dx, rfl, h⟩ := m; exact is_own h tp.i_Leaf tp.kit_Leaf_Leaf
  | grp rk ps => obtain ⟨a, dx, p, r, us, rfl, h, _⟩ := m; exact is_own h tp.i_Group tp.kit_Group_Leaf
theorem ok_least_counts (tp : Top K mg) : ∀ n, FnN P w K mg base (n + 10) "least_counts" [] (sp_least_counts K n)
  | 0 => by
    refine fn_by tp.f_least_counts sc_least_counts (fun vs H Q E h => by unfold sp_least_counts at h; split at h <;> first | rfl | exact h.elim) (fun f cdv A outer s H vs Q E hr h => ?_)
    exfalso
    unfold sp_least_counts at h
    split at h
    next v => obtain ⟨t, _, _, h, _⟩ := h; omega
    next => exact h
  | n + 1 => by
    have ih := ok_least_counts tp n
    refine fn_by tp.f_least_counts sc_least_counts (fun vs H Q E h => by unfold sp_least_counts at h; split at h <;> first | rfl | exact h.elim) (fun f cdv A outer s H vs Q E hr h => ⟨_, (pss_cons (g_if (g_val (pe_callB (k_isi K rfl) (by rfl) tp.b_isinstance (by decide +kernel) (pa_cons (gv 0) (pa_cons (pe_glob (v := .ref _) rfl tp.c_Leaf rfl) pa_nil)))) (pss_one (ps_ret (g_lst (pa_cons pe_int (pa_cons pe_int pa_nil))))) pss_nil) (pss_cons (ps_set (i := 1) sc_least_counts.nd rfl (by first | exact Or.inl rfl | exact Or.inr rfl) (g_lst (pa_cons pe_int pa_nil))) (pss_cons (g_for PassesOwn.never rfl (kw_list K rfl (g_prop (ok_Group_parts tp) hr (by omega) (gv 0) rfl)) (pg_name (i := 2) sc_least_counts.nd rfl (by first | exact Or.inl rfl | exact Or.inr rfl)) (pss_one (ps_set (i := 1) sc_least_counts.nd rfl (by first | exact Or.inl rfl | exact Or.inr rfl) (g_call (ok_summed tp) hr rfl (by omega) (pa_cons (gv 1) (pa_cons (g_call (ih) hr rfl (by omega) (pa_cons (gv 2) pa_nil)) pa_nil)))))) (pss_one (ps_ret (pe_op op_addG (g_lst (pa_cons pe_int pa_nil)) (g_lc rfl sc_least_counts.nd (kw_list K rfl (g_prop (ok_Group_ranks tp) hr (by omega) (gv 0) rfl)) (blkOk_by (own := [("rank", 3)]) (N := (["tree", "sums", "part", "rank"] : List Str)) (sc := defScope s_least_counts) (by decide +kernel)) (fun _ _ _ _ _ => pg_name (i := 3) sc_least_counts.nd rfl (Or.inl rfl)) (fun _ _ _ _ _ => pts_nil) (fun _ _ _ _ _ => (pe_ix (k_ix K rfl) (gv 1) (gv 3) (fun _ _ => rfl)))))))))), ?_⟩)
    unfold sp_least_counts at h
    split at h
    next v =>
      obtain ⟨t, m, g, hd, k⟩ := h
      walk_at "w"
      refine ⟨_, is_leafT tp m, ?_⟩
      cases t with
      | leaf z =>
        refine way_t ?_
        walk_at "w"
        exact ⟨(by show 2 ≤ sizeLine; decide), k⟩
      | grp rk ps =>
        have m' := m
        obtain ⟨a, dx, p, r, us, rfl, h1, h2, h3, h4⟩ := m
        obtain ⟨ok, rok, hrl⟩ := g.pts
        refine way_f ?_
        walk_at "w"
        refine ⟨(by show 1 ≤ sizeLine; decide), fun p1 H1 hp1 s1 e1 => ?_⟩
        walk_at "w"
        refine ⟨dx, _, s1 _ _ h1, rk, ps, m'.mono s1, fun p2 us2 H2 hp2 s2 hm2 e2 => ?_⟩
        have hus := hm2.length
        refine forw_list (xs := us2) (fun i σ H3 => ∃ p3 v3, σ = [some (.ref a), some (.ref p3), v3, none] ∧ Same H2 H3 ∧ H3 p3 = some (.lst ((T.cntL (ps.take i) [0]).map V.int))) ⟨p1, none, rfl, Same.refl _, s2 _ _ e1⟩ (fun i σ H3 _ ⟨_, _, _, s3, _⟩ => SqL.of (s3 _ _ e2)) ?_ ?_
        · rintro i x σ H3 hx ⟨p3, v3, rfl, s3, e3⟩
          obtain ⟨t, ht, mt⟩ := (hm2.mono (s2.trans s3)).at_ hx
          have hdt := T.depthL_le (List.mem_of_getElem? ht)
          rw [T.depth] at hd
          walk_at "w"
          refine ⟨t, mt, g.part (List.mem_of_getElem? ht), by omega, fun p4 H4 hp4 s4 e4 => ?_⟩
          have l1 := T.cntL_len (ps.take i) [0] (by simp)
          have l2 := T.cnt_len t
          have l3 := T.taken_take_le ps i
          have l4 := T.cntL_len (ps.take (i + 1)) [0] (by simp)
          have l5 := T.taken_take_le ps (i + 1)
          have l6 := ok.tk
          rw [T.cntL_take ht, conv_len] at l4
          simp only [List.length_cons, List.length_nil] at l1 l4
          refine ⟨_, _, s4 _ _ e3, e4, l1.2, by intro z; rw [z] at l2; simp at l2, by omega, fun p5 H5 hp5 s5 e5 => ?_⟩
          refine ⟨p5, _, rfl, s3.trans (s4.trans s5), ?_⟩
          rw [e5, T.cntL_take ht]
        · rintro σ H3 ⟨p3, v3, rfl, s3, e3⟩
          rw [hus, List.take_length] at e3
          have l1 := T.cntL_len ps [0] (by simp)
          simp only [List.length_cons, List.length_nil] at l1
          walk_at "w"
          refine ⟨(by show 1 ≤ sizeLine; decide), fun p6 H6 hp6 s6 e6 => ?_⟩
          have s7 : Same H H6 := (s1.trans s2).trans (s3.trans s6)
          walk_at "w"
          refine ⟨dx, _, s7 _ _ h1, rk, ps, m'.mono s7, fun p8 H8 hp8 s8 e8 => ?_⟩
          refine comp_list (xs := rk.map V.int) (fun i acc G => Same H8 G ∧ acc = ((rk.take i).map fun r => (T.cntL ps [0]).getD r.toNat 0).map V.int) (by rw [List.length_map]; exact lt1000 hrl) ⟨Same.refl _, rfl⟩ (fun i acc G f => SqL.of (f.1 _ _ e8)) (fun D i x acc H' hx hD hDl hq f => ⟨rfl, ?_⟩) (fun D H' acc hD hDl hq f => ?_)
          · obtain ⟨s9, rfl⟩ := f
            obtain ⟨r0, hr0, rfl⟩ := map_at hx
            have q1 := rok.lo r0 (List.mem_of_getElem? hr0)
            have q2 := rok.hi r0 (List.mem_of_getElem? hr0)
            refine way_t ?_
            walk_at "w"
            refine ⟨_, _, Or.inl (SqL.of ((s9.trans off_same) _ _ (s8 _ _ (s6 _ _ e3)))), at_of (j := r0.toNat) (by omega) (getD_map (by omega)), ?_⟩
            refine ⟨hDl, s9, ?_⟩
            rw [List.take_add_one, hr0, List.map_append, List.map_append]
            rfl
          · obtain ⟨s9, rfl⟩ := f
            have s10 : Same H8 H' := s9.trans off_same
            rw [List.length_map, List.take_length] at hDl
            walk_at "w"
            refine ⟨_, _, s10 _ _ (s8 _ _ e6), hDl, ?_, fun p11 H11 hp11 s11 e11 => ?_⟩
            · rw [List.length_map, List.length_map]
              show 1 + rk.length ≤ sizeLine
              exact Nat.le_trans (by omega : 1 + rk.length ≤ 1001) (by decide)
            · refine k p11 H11 ?_ (s7.trans (s8.trans (s10.trans s11))) ?_
              · cases hz : H p11 with
                | none => rfl
                | some o => rw [(s7.trans (s8.trans s10)) _ _ hz] at hp11; cases hp11
              · rw [e11, T.cnt]
                rfl
    next => exact h.elim


abbrev CRf (K : PySem.W.Frag) : Addr := He.ga K "Report"
def rfs (tv : V) (q : Addr) : List (Str × V) := [("plan", tv), ("heard", .ref q)]
theorem rfs_put (tv : V) (q : Addr) : putF "heard" (.ref q) (putF "plan" tv []) = rfs tv q := by
  have e1 : ¬ (("plan" : Str) = "heard") := by decide +kernel
  simp only [putF, if_neg e1]
  rfl
/-- told ends that a tree may have -/
structure TdOk (t : T) (ds : List Int) : Prop where
  ln : ds.length = t.width
  asc : ds.Pairwise (· ≤ ·)
theorem TdOk.len {t : T} {ds : List Int} (h : TdOk t ds) (g : t.Gd) : ds.length ≤ 1000 := by
  have := (T.width_le g.sh).1
  have := h.ln
  have := g.sz
  omega
def RPk (K : PySem.W.Frag) (H : Hp) (t : T) (ds : List Int) (v : V) : Prop :=
  ∃ a dx tv q, v = .ref a ∧ H a = some (.ins (CRf K) dx (rfs tv q)) ∧ MTk K H t tv ∧ H q = some (.tup (ds.map V.int))
theorem RPk.mono {K : PySem.W.Frag} {H H' : Hp} {t : T} {ds : List Int} {v : V} (s : SameT H H') (h : RPk K H t ds v) : RPk K H' t ds v := by
  obtain ⟨a, dx, tv, q, e, h1, h2, h3⟩ := h
  exact ⟨a, dx, tv, q, e, s _ _ trivial h1, h2.monoT s, s _ _ trivial h3⟩

def sp_check_tree (K : PySem.W.Frag) : Sp := fun vs H Q _ => match vs with
  | [v] => ∃ t, MTk K H t v ∧ Q .non H
  | _ => False
theorem ok_check_tree (tp : Top K mg) : FnN P w K mg base 1 "check_tree" [] (sp_check_tree K) := by
  refine fn_by tp.f_check_tree sc_check_tree (fun vs H Q E h => by unfold sp_check_tree at h; split at h <;> first | rfl | exact h.elim) (fun f cdv A outer s H vs Q E hr h => ⟨_, (pss_one (g_if (pt_not (g_val (pe_callB (k_isi K rfl) (by rfl) tp.b_isinstance (by decide +kernel) (pa_cons (gv 0) (pa_cons (pe_glob (v := .ref _) rfl tp.c_Tree rfl) pa_nil))))) (pss_one ps_never) pss_nil)), ?_⟩)
  unfold sp_check_tree at h
  split at h
  next v =>
    obtain ⟨t, m, q⟩ := h
    walk_at "w"
    exact ⟨_, is_tree tp m, way_f q⟩
  next => exact h.elim

def sp_are_told (K : PySem.W.Frag) : Sp := fun vs H Q _ => match vs with
  | [v, .ref p] => ∃ t ds, MTk K H t v ∧ H p = some (.lst (ds.map V.int)) ∧ TdOk t ds ∧ ds.length ≤ 1000 ∧ ∀ H', Same H H' → Q (.bl true) H'
  | _ => False
theorem getD_at {l : List Int} {i : Nat} (h : i < l.length) : l[i]? = some (l.getD i 0) := by
  rw [List.getElem?_eq_getElem h]
  simp [List.getD_eq_getElem?_getD, h]
theorem pwle_at {l : List Int} (h : l.Pairwise (· ≤ ·)) {i j : Nat} (hij : i < j) (hj : j < l.length) : l.getD i 0 ≤ l.getD j 0 := by
  have := List.pairwise_iff_getElem.mp h i j (by omega) hj hij
  rw [List.getD_eq_getElem?_getD, List.getD_eq_getElem?_getD, List.getElem?_eq_getElem (by omega), List.getElem?_eq_getElem hj]
  exact this
theorem ok_are_told (tp : Top K mg) : FnN P w K mg base 3 "are_told" [] (sp_are_told K) := by
  refine fn_by tp.f_are_told sc_are_told (fun vs H Q E h => by unfold sp_are_told at h; split at h <;> first | rfl | exact h.elim) (fun f cdv A outer s H vs Q E hr h => ⟨_, (pss_cons (g_if (PW.pt (g_or (pt_not (g_val (pe_callB (k_isi K rfl) (by rfl) tp.b_isinstance (by decide +kernel) (pa_cons (gv 1) (pa_cons (pe_bltn (v := .ty "list") rfl tp.b_list (by decide +kernel) rfl) pa_nil))))) (pw_or1 (g_cmp (k_neG K rfl hr.units) (g_lc rfl sc_are_told.nd (kw_list K rfl (gv 1)) (blkOk_by (own := [("worth", 2)]) (N := (["tree", "value", "worth", "at"] : List Str)) (sc := defScope s_are_told) (by decide +kernel)) (fun _ _ _ _ _ => pg_name (i := 2) sc_are_told.nd rfl (Or.inl rfl)) (fun _ _ _ _ _ => (pts_one (pt_not (g_val (g_call (ok_is_whole tp) hr rfl (by omega) (pa_cons (gv 2) pa_nil)))))) (fun _ _ _ _ _ => (gv 2))) (g_lst pa_nil) (nomark _))))) (pss_one (ps_ret pe_bl)) pss_nil) (pss_one (ps_ret (g_andV (g_cmpV (k_eqG K rfl hr.units) (pe_callB (k_len K rfl) (by rfl) tp.b_len (by decide +kernel) (pa_cons (gv 1) pa_nil)) (PEor (g_prop (ok_Leaf_width tp) hr (by omega) (gv 0) rfl) (g_prop (ok_Group_width tp) hr (by omega) (gv 0) rfl)) (nomark _)) (pe_one (g_cmpV (k_eqG K rfl hr.units) (g_lc rfl sc_are_told.nd (w_range2 rfl tp.b_range (pa_cons pe_int (pa_cons (pe_callB (k_len K rfl) (by rfl) tp.b_len (by decide +kernel) (pa_cons (gv 1) pa_nil)) pa_nil))) (blkOk_by (own := [("at", 3)]) (N := (["tree", "value", "worth", "at"] : List Str)) (sc := defScope s_are_told) (by decide +kernel)) (fun _ _ _ _ _ => pg_name (i := 3) sc_are_told.nd rfl (Or.inl rfl)) (fun _ _ _ _ _ => (pts_one (g_cmp op_gtG (pe_ix (k_ix K rfl) (gv 1) (pe_op op_subG (gv 3) pe_int) (fun _ _ => rfl)) (pe_ix (k_ix K rfl) (gv 1) (gv 3) (fun _ _ => rfl)) (nomark _)))) (fun _ _ _ _ _ => (gv 3))) (g_lst pa_nil) (nomark _))))))), ?_⟩)
  unfold sp_are_told at h
  split at h
  next v p =>
    obtain ⟨t, ds, m, hp, ok, hl, q⟩ := h
    walk_at "w"
    refine ⟨_, is_ll hp, way_f ?_⟩
    walk_at "w"
    refine comp_list (xs := ds.map V.int) (fun i acc G => Same H G ∧ acc = []) (by rw [List.length_map]; exact lt1000 hl) ⟨Same.refl _, rfl⟩ (fun i acc G f => SqL.of (f.1 _ _ hp)) (fun D i x acc H' hx hD hDl hq f => ⟨rfl, ?_⟩) (fun D H' acc hD hDl hq f => ?_)
    · obtain ⟨s1, rfl⟩ := f
      obtain ⟨r0, hr0, rfl⟩ := map_at hx
      walk_at "w"
      exact way_f ⟨hDl, s1, rfl⟩
    · obtain ⟨s1, rfl⟩ := f
      have s2 : Same H H' := s1.trans off_same
      walk_at "w"
      refine ⟨(by show 0 ≤ sizeLine; decide), fun p2 H2 hp2 s3 h2 => Or.inl ⟨[], SqL.of (s3 _ _ hDl), h2, ?_⟩⟩
      refine way_f ?_
      have s4 : Same H H2 := s2.trans s3
      walk_at "w"
      refine ⟨_, Or.inl (SqL.of (s4 _ _ hp)), ?_⟩
      refine rd_width (i := 0) rfl (m.mono s4) ?_
      rw [List.length_map, ok.ln]
      walk_at "w"
      rw [show decide ((t.width : Int) = (t.width : Int)) = true from decide_eq_true rfl]
      refine way_t ?_
      walk_at "w"
      refine ⟨_, Or.inl (SqL.of (s4 _ _ hp)), ?_⟩
      rw [List.length_map]
      refine ⟨by omega, ?_⟩
      have en : ((ds.length : Int) - 1).toNat = ds.length - 1 := by omega
      rw [en]
      refine comp_range (fun i acc G => Same H2 G ∧ acc = []) (lt1000 (by omega)) ⟨Same.refl _, rfl⟩ (fun D i acc H' hi hD hDl hq f => ⟨rfl, ?_⟩) (fun D H' acc hD hDl hq f => ?_)
      · obtain ⟨s5, rfl⟩ := f
        have s6 : Same H H' := s4.trans (s5.trans off_same)
        walk_at "w"
        refine ⟨_, _, Or.inl (SqL.of (s6 _ _ hp)), at_of (j := i) (by omega) (getD_map (by omega)), ?_⟩
        walk_at "w"
        refine ⟨_, _, Or.inl (SqL.of (s6 _ _ hp)), at_of (j := i + 1) (by omega) (getD_map (by omega)), ?_⟩
        have := pwle_at (i := i) (j := i + 1) ok.asc (by omega) (by omega)
        walk_at "w"
        exact way_d (fun c => absurd c (by omega)) fun _ => ⟨hDl, s5, rfl⟩
      · obtain ⟨s5, rfl⟩ := f
        have s6 : Same H H' := s4.trans (s5.trans off_same)
        walk_at "w"
        exact ⟨(by show 0 ≤ sizeLine; decide), fun p3 H3 hp3 s7 h3 => Or.inl ⟨[], SqL.of (s7 _ _ hDl), h3, q H3 (s6.trans s7)⟩⟩
  next => exact h.elim

/-- Report(tree, told) -/
def sp_Report (K : PySem.W.Frag) : Sp := fun vs H Q _ => match vs with
  | [tv, .ref p] => ∃ t ds, MTk K H t tv ∧ H p = some (.lst (ds.map V.int)) ∧ TdOk t ds ∧ ds.length ≤ 1000 ∧ ∀ v H', Same H H' → RPk K H' t ds v → Q v H'
  | _ => False
def sp_Report___init__ (K : PySem.W.Frag) : Sp := fun vs H Q _ => match vs with
  | [.ref a, tv, .ref p] => ∃ dx H0 t ds, H a = some (.ins (CRf K) dx []) ∧ H0 a = none ∧ Same H0 H ∧ MTk K H0 t tv ∧ H0 p = some (.lst (ds.map V.int)) ∧ TdOk t ds ∧ ds.length ≤ 1000 ∧
    ∀ H', Same H0 H' → RPk K H' t ds (.ref a) → Q .non H'
  | _ => False
theorem mk_Report (tp : Top K mg) : MkN P w K mg base 4 "Report" (sp_Report K) := by
  refine mk_by (sp0 := sp_Report___init__ K) tp.m_Report___init__ tp.k_Report.1 tp.k_Report.2 tp.c_Report sc_Report___init__ (fun vs H Q E h => by unfold sp_Report___init__ at h; split at h <;> first | rfl | exact h.elim) (fun vs H Q h y dy hy hdy hne => ?_) (fun f cdv A outer s H vs Q E hr h => ⟨_, (pss_cons (ps_expr (g_call (ok_check_tree tp) hr rfl (by omega) (pa_cons (gv 1) pa_nil))) (pss_cons (g_if (pt_not (g_val (g_call (ok_are_told tp) hr rfl (by omega) (pa_cons (gv 1) (pa_cons (gv 2) pa_nil))))) (pss_one ps_never) pss_nil) (pss_cons (k_fldS K rfl (gv 0) (gv 1) rfl) (pss_one (k_fldS K rfl (gv 0) (pe_callTy (k_tuple K rfl) (by rfl) tp.b_tuple (by decide +kernel) (pa_cons (gv 2) pa_nil)) rfl))))), ?_⟩)
  · unfold sp_Report at h
    split at h
    next tv p =>
      obtain ⟨t, ds, h1, h2, h3, h4, q⟩ := h
      exact ⟨dy, H, t, ds, upd_same, hy, fun b o e => by rw [upd_ne (ne_of_none e hy), upd_ne (ne_of_none e hdy)]; exact e, h1, h2, h3, h4, fun H' s1 m => ⟨rfl, q _ H' s1 m⟩⟩
    next => exact h.elim
  · unfold sp_Report___init__ at h
    split at h
    next a tv p =>
      obtain ⟨dx, H0, t, ds, ha, h0a, s0, m, h2, ok, hl, q⟩ := h
      walk_at "w"
      refine ⟨t, m.mono s0, ?_⟩
      walk_at "w"
      refine ⟨t, ds, m.mono s0, s0 _ _ h2, ok, hl, fun H1 s1 => ?_⟩
      have s2 := s0.trans s1
      refine way_f ?_
      walk_at "w"
      refine ⟨_, dx, [], s1 _ _ ha, tp.i_Report.cl, tp.n_Report_plan, (by decide), fun H2 s3 e2 => ?_⟩
      have s4 : Same H0 H2 := SameX.un s2 h0a s3
      walk_at "w"
      refine ⟨_, SqL.of (s4 _ _ h2), fun p4 H4 hp4 s6 e4 => ?_⟩
      have n4 : p4 ≠ a := by rintro rfl; rw [e2] at hp4; cases hp4
      refine ⟨_, dx, _, s6 _ _ e2, tp.i_Report.cl, tp.n_Report_heard, (by show 1 < 1000; decide), fun H5 s7 e5 => ?_⟩
      have s8 : Same H0 H5 := SameX.un (s4.trans s6) h0a s7
      refine q H5 s8 ⟨a, dx, tv, p4, rfl, ?_, m.mono s8, s7 _ _ n4 e4⟩
      rw [← rfs_put, e5]
    next => exact h.elim

def sp_Report_tree (K : PySem.W.Frag) : Sp := fun vs H Q _ => match vs with
  | [v] => ∃ t ds, RPk K H t ds v ∧ ∀ tv, MTk K H t tv → Q tv H
  | _ => False
theorem ok_Report_tree (tp : Top K mg) : PrN P w K mg base 1 (CRf K) "tree" (sp_Report_tree K) := by
  refine pr_by tp.m_Report_tree sc_Report_tree (fun vs H Q E h => by unfold sp_Report_tree at h; split at h <;> first | rfl | exact h.elim) (fun f cdv A outer s H vs Q E hr h => ⟨_, (pss_one (ps_ret (k_fld K rfl (gv 0) rfl))), ?_⟩)
  unfold sp_Report_tree at h
  split at h
  next v =>
    obtain ⟨t, ds, ⟨a, dx, tv, q, rfl, h1, h2, h3⟩, k⟩ := h
    walk_at "w"
    exact ⟨_, dx, _, tv, h1, tp.i_Report.cl, tp.n_Report_plan, rfl, k tv h2⟩
  next => exact h.elim

def sp_Report_told (K : PySem.W.Frag) : Sp := fun vs H Q _ => match vs with
  | [v] => ∃ t ds, RPk K H t ds v ∧ ∀ p H', H p = none → Same H H' → H' p = some (.lst (ds.map V.int)) → Q (.ref p) H'
  | _ => False
theorem ok_Report_told (tp : Top K mg) : PrN P w K mg base 1 (CRf K) "told" (sp_Report_told K) := by
  refine pr_by tp.m_Report_told sc_Report_told (fun vs H Q E h => by unfold sp_Report_told at h; split at h <;> first | rfl | exact h.elim) (fun f cdv A outer s H vs Q E hr h => ⟨_, (pss_one (ps_ret (pe_callTy (k_list K rfl) (by rfl) tp.b_list (by decide +kernel) (pa_cons (k_fld K rfl (gv 0) rfl) pa_nil)))), ?_⟩)
  unfold sp_Report_told at h
  split at h
  next v =>
    obtain ⟨t, ds, ⟨a, dx, tv, q, rfl, h1, h2, h3⟩, k⟩ := h
    walk_at "w"
    refine ⟨_, dx, _, .ref q, h1, tp.i_Report.cl, tp.n_Report_heard, rfl, ?_⟩
    exact ⟨_, Or.inr (SqT.of h3), k⟩
  next => exact h.elim

def lowN (ds : List Int) (b : Int) : Nat := (ds.filter fun d => decide (d ≤ b)).length
theorem lowN_le (ds : List Int) (b : Int) : lowN ds b ≤ ds.length := List.length_filter_le _ _
def sp_Report_low_told (K : PySem.W.Frag) : Sp := fun vs H Q _ => match vs with
  | [v, .int b] => ∃ t ds, RPk K H t ds v ∧ ds.length ≤ 1000 ∧ ∀ H', Same H H' → Q (.int (lowN ds b)) H'
  | _ => False
theorem filt_take {α : Type} {l : List α} {p : α → Bool} {i : Nat} {x : α} (h : l[i]? = some x) : (l.take (i + 1)).filter p = (l.take i).filter p ++ (if p x = true then [x] else []) := by
  rw [List.take_add_one, h, List.filter_append]
  congr 1
  show List.filter p [x] = _
  rw [List.filter_cons, List.filter_nil]
theorem ok_Report_low_told (tp : Top K mg) : MtN P w K mg base 1 (CRf K) "low_told" [] (sp_Report_low_told K) := by
  refine mt_by tp.m_Report_low_told sc_Report_low_told (fun vs H Q E h => by unfold sp_Report_low_told at h; split at h <;> first | rfl | exact h.elim) (fun f cdv A outer s H vs Q E hr h => ⟨_, (pss_one (ps_ret (pe_callB (k_len K rfl) (by rfl) tp.b_len (by decide +kernel) (pa_cons (g_lc rfl sc_Report_low_told.nd (kw_tup K rfl (k_fld K rfl (gv 0) rfl)) (blkOk_by (own := [("one", 2)]) (N := (["self", "worth", "one"] : List Str)) (sc := defScope s_Report_low_told) (by decide +kernel)) (fun _ _ _ _ _ => pg_name (i := 2) sc_Report_low_told.nd rfl (Or.inl rfl)) (fun _ _ _ _ _ => (pts_one (g_cmp op_leG (gv 2) (gv 1) (nomark _)))) (fun _ _ _ _ _ => (gv 2))) pa_nil)))), ?_⟩)
  unfold sp_Report_low_told at h
  split at h
  next v b =>
    obtain ⟨t, ds, ⟨a, dx, tv, q, rfl, h1, h2, h3⟩, hl, k⟩ := h
    walk_at "w"
    refine ⟨_, dx, _, .ref q, h1, tp.i_Report.cl, tp.n_Report_heard, rfl, ?_⟩
    refine comp_tup (xs := ds.map V.int) (fun i acc G => Same H G ∧ acc = ((ds.take i).filter fun d => decide (d ≤ b)).map V.int) (by rw [List.length_map]; exact lt1000 hl) ⟨Same.refl _, rfl⟩ (fun i acc G f => SqT.of (f.1 _ _ h3)) (fun D i x acc H' hx hD hDl hq f => ⟨rfl, ?_⟩) (fun D H' acc hD hDl hq f => ?_)
    · obtain ⟨s1, rfl⟩ := f
      obtain ⟨r0, hr0, rfl⟩ := map_at hx
      have e := filt_take (p := fun d => decide (d ≤ b)) hr0
      walk_at "w"
      refine way_d (fun c => ?_) fun c => ?_
      · refine ⟨hDl, s1, ?_⟩
        rw [e, if_pos (decide_eq_true c), List.map_append]
        rfl
      · refine ⟨hDl, s1, ?_⟩
        rw [e, if_neg (by simpa using c), List.append_nil]
    · obtain ⟨s1, rfl⟩ := f
      rw [List.length_map, List.take_length] at hDl
      walk_at "w"
      refine ⟨_, Or.inl (SqL.of hDl), ?_⟩
      rw [List.length_map]
      exact k H' (s1.trans off_same)
  next => exact h.elim

/-- the tree in a field of an instance that a variable names -/
theorem rd_mirrorF {K : PySem.W.Frag} {i : Nat} {f : Str} {σ : L2.St} {H : Hp} {Q : VK} {t : T} {v : V} {n : Nat} {a dx C : Addr} {fs : List (Str × V)} (hi : σ[i]? = some (some (.ref a))) (ha : H a = some (.ins C dx fs)) (hc : Cls K C) (hn : NoAttr K C f) (hf : fs.lookup f = some v)
    (m : MTk K H t v) (g : t.Gd) (hd : t.depth ≤ n) (q : ∀ v H', Same H H' → MTk K H' t.mirror v → Q v H') :
    gMeth (CLf K) "mirror" (sp_Leaf_mirror K) [] (gFld K (gVar i) f) tNil σ H Q ∨ gMeth (CGf K) "mirror" (sp_Group_mirror K n) [] (gFld K (gVar i) f) tNil σ H Q := by
  cases t with
  | leaf z =>
    have m' := m
    obtain ⟨b, dy, rfl, h⟩ := m
    left; unfold gMeth gFld gVar; rw [hi]
    exact ⟨C, dx, fs, _, ha, hc, hn, hf, dy, _, h, rfl, z, m', g.sh, q⟩
  | grp rk ps =>
    have m' := m
    obtain ⟨b, dy, p, r, us, rfl, h, _⟩ := m
    right; unfold gMeth gFld gVar; rw [hi]
    rw [T.depth] at hd
    exact ⟨C, dx, fs, _, ha, hc, hn, hf, dy, _, h, rfl, rk, ps, m', g, by omega, q⟩
theorem k_lenT {X : Cx} {K : PySem.W.Frag} {mg : Str → Option Value} {j : Nat} (tp : Top K mg) (h : X.K = K) (h' : X.mg = mg) (hr : Room j X.A) (hj : 48 ≤ j) : CallR X (.builtin "len") (fun vs H Q => rLenO (CLf K) (sp_Leaf___len__ K) vs H Q ∨ rLenO (CGf K) (sp_Group___len__ K) vs H Q) := by
  subst h; subst h'; exact c_lenT tp hr hj
def uptoL (t : T) (ds : List Int) (b : Int) : Int := t.cnt.getD (lowN ds b) 0
def uptoG (t : T) (ds : List Int) (b : Int) : Int := (t.names.length : Int) - t.mirror.cnt.getD (ds.length - lowN ds b) 0
def sp_Report_upto (K : PySem.W.Frag) : Sp := fun vs H Q _ => match vs with
  | [v, .int b] => ∃ t ds, RPk K H t ds v ∧ t.Gd ∧ TdOk t ds ∧ ∀ p H', H p = none → Same H H' → H' p = some (.tup [.int (uptoL t ds b), .int (uptoG t ds b)]) → Q (.ref p) H'
  | _ => False
theorem ok_Report_upto (tp : Top K mg) : MtN P w K mg base 97 (CRf K) "upto" [] (sp_Report_upto K) := by
  refine mt_by tp.m_Report_upto sc_Report_upto (fun vs H Q E h => by unfold sp_Report_upto at h; split at h <;> first | rfl | exact h.elim) (fun f cdv A outer s H vs Q E hr h => ⟨_, (pss_cons (ps_expr (g_call (ok_check_whole tp) hr rfl (by omega) (pa_cons (gv 1) pa_nil))) (pss_cons (ps_set (i := 2) sc_Report_upto.nd rfl (by first | exact Or.inl rfl | exact Or.inr rfl) (g_meth (ok_Report_low_told tp) hr (by omega) (gv 0) (pa_cons (gv 1) pa_nil))) (pss_cons (ps_set (i := 3) sc_Report_upto.nd rfl (by first | exact Or.inl rfl | exact Or.inr rfl) (pe_op op_subG (pe_callB (k_len K rfl) (by rfl) tp.b_len (by decide +kernel) (pa_cons (k_fld K rfl (gv 0) rfl) pa_nil)) (gv 2))) (pss_one (ps_ret (g_tup (pa_cons (pe_ix (k_ix K rfl) (g_call (ok_least_counts tp 46) hr rfl (by omega) (pa_cons (k_fld K rfl (gv 0) rfl) pa_nil)) (gv 2) (fun _ _ => rfl)) (pa_cons (pe_op op_subG (pe_callB (k_lenT tp rfl rfl hr (by omega)) (by rfl) tp.b_len (by decide +kernel) (pa_cons (k_fld K rfl (gv 0) rfl) pa_nil)) (pe_ix (k_ix K rfl) (g_call (ok_least_counts tp 46) hr rfl (by omega) (pa_cons (PEor (g_meth0 (ok_Leaf_mirror tp) hr (by omega) (k_fld K rfl (gv 0) rfl)) (g_meth0 (ok_Group_mirror tp 45) hr (by omega) (k_fld K rfl (gv 0) rfl))) pa_nil)) (gv 3) (fun _ _ => rfl))) pa_nil)))))))), ?_⟩)
  unfold sp_Report_upto at h
  split at h
  next v b =>
    obtain ⟨t, ds, rp, g, ok, k⟩ := h
    have rp' := rp
    obtain ⟨a, dx, tv, q, rfl, h1, h2, h3⟩ := rp
    have hl := ok.len g
    have lle := lowN_le ds b
    have l1 := T.cnt_len t
    have l2 := T.cnt_len t.mirror
    rw [T.width_mirror] at l2
    have hw := ok.ln
    walk_at "w"
    refine ⟨dx, _, h1, rfl, t, ds, rp', hl, fun H1 s1 => ?_⟩
    walk_at "w"
    refine ⟨_, dx, _, .ref q, s1 _ _ h1, tp.i_Report.cl, tp.n_Report_heard, rfl, ?_⟩
    walk_at "w"
    refine ⟨_, Or.inr (SqT.of (s1 _ _ h3)), ?_⟩
    rw [List.length_map]
    walk_at "w"
    refine ⟨_, dx, _, tv, s1 _ _ h1, tp.i_Report.cl, tp.n_Report_plan, rfl, ?_⟩
    refine ⟨t, h2.mono s1, g, Nat.lt_succ_of_le g.dp, fun p2 H2 hp2 s2 e2 => ?_⟩
    walk_at "w"
    refine ⟨_, _, Or.inl (SqL.of e2), at_of (j := lowN ds b) (by omega) (getD_map (by omega)), ?_⟩
    have s3 := s1.trans s2
    walk_at "w"
    refine ⟨_, dx, _, tv, s3 _ _ h1, tp.i_Report.cl, tp.n_Report_plan, rfl, ?_⟩
    refine rd_len (h2.mono s3) g fun H3 s4 => ?_
    have s5 := s3.trans s4
    walk_at "w"
    refine rd_mirrorF (i := 0) rfl (s5 _ _ h1) tp.i_Report.cl tp.n_Report_plan rfl (h2.mono s5) g g.dp fun v6 H6 s6 m6 => ?_
    have gm := g.mirror
    refine ⟨t.mirror, m6, gm, Nat.lt_succ_of_le gm.dp, fun p7 H7 hp7 s7 e7 => ?_⟩
    walk_at "w"
    refine ⟨_, _, Or.inl (SqL.of e7), at_of (j := ds.length - lowN ds b) (by omega) (getD_map (by omega)), ?_⟩
    walk_at "w"
    refine ⟨(by show 2 ≤ sizeLine; decide), fun p8 H8 hp8 s8 e8 => ?_⟩
    have s9 : Same H H8 := s5.trans (s6.trans (s7.trans s8))
    refine k p8 H8 ?_ s9 e8
    cases hz : H p8 with
    | none => rfl
    | some o => rw [(s5.trans (s6.trans s7)) _ _ hz] at hp8; cases hp8
  next => exact h.elim

end LW
namespace LW
open PySem PySem.Spec L2 GG
variable {P : Program} {w : World} {K : PySem.W.Frag} {mg : Str → Option Value} {base : Heap}

/-- a list of reports: trees with told ends -/
def RPs (K : PySem.W.Frag) (H : Hp) : List (T × List Int) → List V → Prop
  | [], vs => vs = []
  | r :: rs, vs => ∃ v us, vs = v :: us ∧ RPk K H r.1 r.2 v ∧ RPs K H rs us
theorem RPs.mono {K : PySem.W.Frag} {H H' : Hp} (s : SameT H H') : ∀ {rs : List (T × List Int)} {vs : List V}, RPs K H rs vs → RPs K H' rs vs
  | [], vs, h => h
  | r :: rs, vs, ⟨v, us, e, h1, h2⟩ => ⟨v, us, e, h1.mono s, RPs.mono s h2⟩
theorem RPs.length {K : PySem.W.Frag} {H : Hp} : ∀ {rs : List (T × List Int)} {vs : List V}, RPs K H rs vs → vs.length = rs.length
  | [], vs, h => by subst h; rfl
  | r :: rs, vs, ⟨v, us, e, h1, h2⟩ => by subst e; simp [RPs.length h2]
theorem RPs.at_ {K : PySem.W.Frag} {H : Hp} : ∀ {rs : List (T × List Int)} {vs : List V} {i : Nat} {v : V}, RPs K H rs vs → vs[i]? = some v → ∃ r, rs[i]? = some r ∧ RPk K H r.1 r.2 v
  | [], vs, i, v, h, e => by subst h; simp at e
  | r :: rs, vs, 0, v, ⟨x, us, q, h1, h2⟩, e => by subst q; simp at e; subst e; exact ⟨r, rfl, h1⟩
  | r :: rs, vs, i + 1, v, ⟨x, us, q, h1, h2⟩, e => by
    subst q
    obtain ⟨u, h3, h4⟩ := RPs.at_ (i := i) h2 (by simpa using e)
    exact ⟨u, by simpa using h3, h4⟩
theorem RPs.snoc {K : PySem.W.Frag} {H : Hp} {r : T × List Int} {v : V} (h : RPk K H r.1 r.2 v) : ∀ {rs : List (T × List Int)} {vs : List V}, RPs K H rs vs → RPs K H (rs ++ [r]) (vs ++ [v])
  | [], vs, e => by subst e; exact ⟨v, [], rfl, h, rfl⟩
  | u :: rs, vs, ⟨x, us, q, h1, h2⟩ => by subst q; exact ⟨x, us ++ [v], rfl, h1, RPs.snoc h h2⟩
/-- reports that the laws make -/
structure RsOk (rs : List (T × List Int)) : Prop where
  ne : rs ≠ []
  ln : rs.length ≤ 100
  ok : ∀ r ∈ rs, r.1.Gd ∧ TdOk r.1 r.2
def sumL (rs : List (T × List Int)) (b : Int) : Int := (rs.map fun r => uptoL r.1 r.2 b).sum
def sumG (rs : List (T × List Int)) (b : Int) : Int := (rs.map fun r => uptoG r.1 r.2 b).sum

theorem is_report {K : PySem.W.Frag} {mg : Str → Option Value} (tp : Top K mg) {H : Hp} {t : T} {ds : List Int} {v : V} (m : RPk K H t ds v) : IsT K H v (.ref (He.ga K "Report")) true := by
  obtain ⟨a, dx, tv, q, rfl, h, _⟩ := m
  exact is_own h tp.i_Report tp.kit_Report_Report
def sp_check_reports (K : PySem.W.Frag) : Sp := fun vs H Q _ => match vs with
  | [.ref p] => ∃ us rs, H p = some (.lst us) ∧ RPs K H rs us ∧ RsOk rs ∧ ∀ H', Same H H' → Q .non H'
  | _ => False
theorem ok_check_reports (tp : Top K mg) : FnN P w K mg base 1 "check_reports" [] (sp_check_reports K) := by
  refine fn_by tp.f_check_reports sc_check_reports (fun vs H Q E h => by unfold sp_check_reports at h; split at h <;> first | rfl | exact h.elim) (fun f cdv A outer s H vs Q E hr h => ⟨_, (pss_one (g_if (PW.pt (g_or (pt_not (g_val (pe_callB (k_isi K rfl) (by rfl) tp.b_isinstance (by decide +kernel) (pa_cons (gv 0) (pa_cons (pe_bltn (v := .ty "list") rfl tp.b_list (by decide +kernel) rfl) pa_nil))))) (g_or (g_cmp (k_eqG K rfl hr.units) (gv 0) (g_lst pa_nil) (nomark _)) (pw_or1 (g_cmp (k_neG K rfl hr.units) (g_lc rfl sc_check_reports.nd (kw_list K rfl (gv 0)) (blkOk_by (own := [("one", 1)]) (N := (["value", "one"] : List Str)) (sc := defScope s_check_reports) (by decide +kernel)) (fun _ _ _ _ _ => pg_name (i := 1) sc_check_reports.nd rfl (Or.inl rfl)) (fun _ _ _ _ _ => (pts_one (pt_not (g_val (pe_callB (k_isi K rfl) (by rfl) tp.b_isinstance (by decide +kernel) (pa_cons (gv 1) (pa_cons (pe_glob (v := .ref _) rfl tp.c_Report rfl) pa_nil))))))) (fun _ _ _ _ _ => (gv 1))) (g_lst pa_nil) (nomark _)))))) (pss_one ps_never) pss_nil)), ?_⟩)
  unfold sp_check_reports at h
  split at h
  next p =>
    obtain ⟨us, rs, hp, rp, ok, k⟩ := h
    have hl := rp.length
    have hne : us ≠ [] := by rintro rfl; exact ok.ne (List.length_eq_zero_iff.mp (by simpa using hl.symm))
    walk_at "w"
    refine ⟨_, is_ll hp, way_f ?_⟩
    walk_at "w"
    refine ⟨(by show 0 ≤ sizeLine; decide), fun p1 H1 hp1 s1 h1 => Or.inl ⟨us, SqL.of (s1 _ _ hp), h1, ?_⟩⟩
    rw [List.isEmpty_eq_false_iff.mpr hne]
    refine way_f ?_
    walk_at "w"
    refine comp_list (xs := us) (fun i acc G => Same H1 G ∧ acc = []) (by rw [hl]; exact lt1000 (by have := ok.ln; omega)) ⟨Same.refl _, rfl⟩ (fun i acc G f => SqL.of (f.1 _ _ (s1 _ _ hp))) (fun D i x acc H' hx hD hDl hq f => ⟨rfl, ?_⟩) (fun D H' acc hD hDl hq f => ?_)
    · obtain ⟨s2, rfl⟩ := f
      obtain ⟨r, hr, mr⟩ := (rp.mono (SameT.of (s1.trans (s2.trans off_same)))).at_ hx
      walk_at "w"
      exact ⟨_, is_report tp mr, way_f ⟨hDl, s2, rfl⟩⟩
    · obtain ⟨s2, rfl⟩ := f
      walk_at "w"
      exact ⟨(by show 0 ≤ sizeLine; decide), fun p2 H2 hp2 s4 h2 => Or.inl ⟨[], SqL.of (s4 _ _ hDl), h2, way_f (k H2 (s1.trans (s2.trans (off_same.trans s4))))⟩⟩
  next => exact h.elim

theorem sums_at {rs : List (T × List Int)} {i : Nat} {r : T × List Int} (h : rs[i]? = some r) (f : T × List Int → Int) : (rs.take (i + 1)).map f = (rs.take i).map f ++ [f r] := by
  rw [List.take_add_one, h, List.map_append]; rfl
/-- pairs of ints in the heap -/
def PIs (H : Hp) : List (Int × Int) → List V → Prop
  | [], vs => vs = []
  | r :: rs, vs => ∃ q us, vs = .ref q :: us ∧ H q = some (.tup [.int r.1, .int r.2]) ∧ PIs H rs us
theorem PIs.mono {H H' : Hp} (s : Same H H') : ∀ {rs : List (Int × Int)} {vs : List V}, PIs H rs vs → PIs H' rs vs
  | [], vs, h => h
  | r :: rs, vs, ⟨v, us, e, h1, h2⟩ => ⟨v, us, e, s _ _ h1, PIs.mono s h2⟩
theorem PIs.length {H : Hp} : ∀ {rs : List (Int × Int)} {vs : List V}, PIs H rs vs → vs.length = rs.length
  | [], vs, h => by subst h; rfl
  | r :: rs, vs, ⟨v, us, e, h1, h2⟩ => by subst e; simp [PIs.length h2]
theorem PIs.at_ {H : Hp} : ∀ {rs : List (Int × Int)} {vs : List V} {i : Nat} {v : V}, PIs H rs vs → vs[i]? = some v → ∃ r q, rs[i]? = some r ∧ v = .ref q ∧ H q = some (.tup [.int r.1, .int r.2])
  | [], vs, i, v, h, e => by subst h; simp at e
  | r :: rs, vs, 0, v, ⟨x, us, q, h1, h2⟩, e => by subst q; simp at e; subst e; exact ⟨r, x, rfl, rfl, h1⟩
  | r :: rs, vs, i + 1, v, ⟨x, us, q, h1, h2⟩, e => by
    subst q
    obtain ⟨u, y, h3, h4⟩ := PIs.at_ (i := i) h2 (by simpa using e)
    exact ⟨u, y, by simpa using h3, h4⟩
theorem PIs.snoc {H : Hp} {r : Int × Int} {q : Addr} (h : H q = some (.tup [.int r.1, .int r.2])) : ∀ {rs : List (Int × Int)} {vs : List V}, PIs H rs vs → PIs H (rs ++ [r]) (vs ++ [.ref q])
  | [], vs, e => by subst e; exact ⟨q, [], rfl, h, rfl⟩
  | u :: rs, vs, ⟨x, us, e, h1, h2⟩ => by subst e; exact ⟨x, us ++ [.ref q], rfl, h1, PIs.snoc h h2⟩
def sp_all_counts (K : PySem.W.Frag) : Sp := fun vs H Q _ => match vs with
  | [.ref p, .int b] => ∃ us rs, H p = some (.lst us) ∧ RPs K H rs us ∧ RsOk rs ∧ ∀ r H', H r = none → Same H H' → H' r = some (.tup [.int (sumL rs b), .int (sumG rs b)]) → Q (.ref r) H'
  | _ => False
theorem ok_all_counts (tp : Top K mg) : FnN P w K mg base 98 "all_counts" [] (sp_all_counts K) := by
  refine fn_by tp.f_all_counts sc_all_counts (fun vs H Q E h => by unfold sp_all_counts at h; split at h <;> first | rfl | exact h.elim) (fun f cdv A outer s H vs Q E hr h => ⟨_, (pss_cons (g_setLc (i := 2) rfl sc_all_counts.nd rfl rfl (sw_true rfl rfl rfl (by decide +kernel)) (kw_list K rfl (gv 0)) (blkOk_by (own := [("report", 3)]) (N := (["reports", "worth", "ranges", "report", "least", "greatest"] : List Str)) (sc := defScope s_all_counts) (by decide +kernel)) (fun _ _ _ _ _ => pg_name (i := 3) sc_all_counts.nd rfl (Or.inl rfl)) (fun _ _ _ _ _ => pts_nil) (fun _ _ _ _ _ => (g_meth (ok_Report_upto tp) hr (by omega) (gv 3) (pa_cons (gv 1) pa_nil)))) (pss_one (ps_ret (g_tup (pa_cons (pe_callB (k_sum K rfl rfl) (by rfl) tp.b_sum (by decide +kernel) (pa_cons (g_lcG rfl sc_all_counts.nd (kw_list K rfl (gv 2)) (blkOk_by (own := [("least", 4), ("greatest", 5)]) (N := (["reports", "worth", "ranges", "report", "least", "greatest"] : List Str)) (sc := defScope s_all_counts) (by decide +kernel)) (fun _ _ _ _ _ => k_tg2 K rfl rfl (pg_name (i := 4) sc_all_counts.nd rfl (Or.inl rfl)) (pg_name (i := 5) sc_all_counts.nd rfl (Or.inl rfl))) (fun _ _ _ _ _ => pts_nil) (fun _ _ _ _ _ => (gv 4))) pa_nil)) (pa_cons (pe_callB (k_sum K rfl rfl) (by rfl) tp.b_sum (by decide +kernel) (pa_cons (g_lcG rfl sc_all_counts.nd (kw_list K rfl (gv 2)) (blkOk_by (own := [("least", 4), ("greatest", 5)]) (N := (["reports", "worth", "ranges", "report", "least", "greatest"] : List Str)) (sc := defScope s_all_counts) (by decide +kernel)) (fun _ _ _ _ _ => k_tg2 K rfl rfl (pg_name (i := 4) sc_all_counts.nd rfl (Or.inl rfl)) (pg_name (i := 5) sc_all_counts.nd rfl (Or.inl rfl))) (fun _ _ _ _ _ => pts_nil) (fun _ _ _ _ _ => (gv 5))) pa_nil)) pa_nil)))))), ?_⟩)
  unfold sp_all_counts at h
  split at h
  next p b =>
    obtain ⟨us, rs, hp, rp, ok, k⟩ := h
    have hl := rp.length
    have hll : rs.length ≤ 1000 := by have := ok.ln; omega
    walk_at "w"
    refine comp_list (xs := us) (fun i acc G => Same H G ∧ PIs G ((rs.take i).map fun r => (uptoL r.1 r.2 b, uptoG r.1 r.2 b)) acc) (by rw [hl]; exact lt1000 hll) ⟨Same.refl _, rfl⟩ (fun i acc G f => SqL.of (f.1 _ _ hp)) (fun D i x acc H' hx hD hDl hq f => ⟨rfl, ?_⟩) (fun D H' acc hD hDl hq f => ?_)
    · obtain ⟨s1, pi⟩ := f
      obtain ⟨r, hr1, mr⟩ := (rp.mono (SameT.of (s1.trans off_same))).at_ hx
      obtain ⟨g, td⟩ := ok.ok r (List.mem_of_getElem? hr1)
      have mr' := mr
      obtain ⟨a, dx, tv, q, rfl, h1, h2, h3⟩ := mr
      refine way_t ?_
      walk_at "w"
      refine ⟨dx, _, h1, rfl, r.1, r.2, mr', g, td, fun pu H4 f4 s4 e4 => ?_⟩
      have nD : pu ≠ D := by rintro rfl; rw [hDl] at f4; cases f4
      refine ⟨s4 _ _ hDl, s1.trans (off_mono s4), ?_⟩
      rw [List.take_add_one, hr1, List.map_append]
      exact PIs.snoc (r := (uptoL r.1 r.2 b, uptoG r.1 r.2 b)) (by rw [off_at nD, e4]) (pi.mono (off_mono s4))
    · obtain ⟨s1, pi⟩ := f
      rw [hl, List.take_length] at pi
      have pi' := pi.mono (off_same (D := D) (H := H'))
      have hal := pi'.length
      rw [List.length_map] at hal
      have s2 : Same H H' := s1.trans off_same
      walk_at "w"
      refine compG_list (xs := acc) tg2_up (fun i a2 G => Same H' G ∧ a2 = ((rs.take i).map fun r => uptoL r.1 r.2 b).map V.int) (by rw [hal]; exact lt1000 hll) ⟨Same.refl _, rfl⟩ (fun i a2 G f => SqL.of (f.1 _ _ hDl)) (fun D2 i x a2 G hx hD2 hDl2 hq2 f => ?_) (fun D2 G a2 hD2 hDl2 hq2 f => ?_)
      · obtain ⟨s3, rfl⟩ := f
        obtain ⟨r2, q2, hr2, rfl, eq2⟩ := (pi'.mono (s3.trans off_same)).at_ hx
        obtain ⟨r, hr1, rfl⟩ : ∃ r, rs[i]? = some r ∧ r2 = (uptoL r.1 r.2 b, uptoG r.1 r.2 b) := by
          rw [List.getElem?_map] at hr2
          cases e : rs[i]? with
          | none => rw [e] at hr2; cases hr2
          | some r => rw [e] at hr2; exact ⟨r, rfl, (Option.some.inj hr2).symm⟩
        refine tg2_of eq2 ⟨rfl, way_t ⟨hDl2, s3, ?_⟩⟩
        rw [sums_at hr1 fun r => uptoL r.1 r.2 b, List.map_append]
        rfl
      · obtain ⟨s3, rfl⟩ := f
        rw [hal, List.take_length] at hDl2
        have s4 : Same H' G := s3.trans off_same
        walk_at "w"
        refine ⟨_, SqL.of hDl2, ?_⟩
        walk_at "w"
        refine compG_list (xs := acc) tg2_up (fun i a2 G2 => Same G G2 ∧ a2 = ((rs.take i).map fun r => uptoG r.1 r.2 b).map V.int) (by rw [hal]; exact lt1000 hll) ⟨Same.refl _, rfl⟩ (fun i a2 G2 f => SqL.of (f.1 _ _ (s4 _ _ hDl))) (fun D3 i x a2 G2 hx hD3 hDl3 hq3 f => ?_) (fun D3 G2 a2 hD3 hDl3 hq3 f => ?_)
        · obtain ⟨s5, rfl⟩ := f
          obtain ⟨r2, q2, hr2, rfl, eq2⟩ := (pi'.mono (s4.trans (s5.trans off_same))).at_ hx
          obtain ⟨r, hr1, rfl⟩ : ∃ r, rs[i]? = some r ∧ r2 = (uptoL r.1 r.2 b, uptoG r.1 r.2 b) := by
            rw [List.getElem?_map] at hr2
            cases e : rs[i]? with
            | none => rw [e] at hr2; cases hr2
            | some r => rw [e] at hr2; exact ⟨r, rfl, (Option.some.inj hr2).symm⟩
          refine tg2_of eq2 ⟨rfl, way_t ⟨hDl3, s5, ?_⟩⟩
          rw [sums_at hr1 fun r => uptoG r.1 r.2 b, List.map_append]
          rfl
        · obtain ⟨s5, rfl⟩ := f
          rw [hal, List.take_length] at hDl3
          walk_at "w"
          refine ⟨_, SqL.of hDl3, ?_⟩
          walk_at "w"
          refine ⟨(by show 2 ≤ sizeLine; decide), fun p8 H8 hp8 s8 e8 => ?_⟩
          have s9 := s2.trans (s4.trans (s5.trans off_same))
          refine k p8 H8 ?_ (s9.trans s8) e8
          cases hz : H p8 with
          | none => rfl
          | some o => rw [s9 _ _ hz] at hp8; cases hp8
  next => exact h.elim

def sp_known_counts (K : PySem.W.Frag) : Sp := fun vs H Q _ => match vs with
  | [.ref p, .int b] => ∃ us rs, H p = some (.lst us) ∧ RPs K H rs us ∧ RsOk rs ∧ ∀ r H', H r = none → Same H H' → H' r = some (.tup [.int (sumL rs b), .int (sumG rs b)]) → Q (.ref r) H'
  | _ => False
theorem ok_known_counts (tp : Top K mg) : FnN P w K mg base 99 "known_counts" [] (sp_known_counts K) := by
  refine fn_by tp.f_known_counts sc_known_counts (fun vs H Q E h => by unfold sp_known_counts at h; split at h <;> first | rfl | exact h.elim) (fun f cdv A outer s H vs Q E hr h => ⟨_, (pss_cons (ps_expr (g_call (ok_check_reports tp) hr rfl (by omega) (pa_cons (gv 0) pa_nil))) (pss_cons (ps_expr (g_call (ok_check_whole tp) hr rfl (by omega) (pa_cons (gv 1) pa_nil))) (pss_one (ps_ret (g_call (ok_all_counts tp) hr rfl (by omega) (pa_cons (gv 0) (pa_cons (gv 1) pa_nil))))))), ?_⟩)
  unfold sp_known_counts at h
  split at h
  next p b =>
    obtain ⟨us, rs, hp, rp, ok, k⟩ := h
    walk_at "w"
    refine ⟨us, rs, hp, rp, ok, fun H1 s1 => ?_⟩
    walk_at "w"
    refine ⟨us, rs, s1 _ _ hp, rp.mono (SameT.of s1), ok, fun r H2 f2 s2 e2 => k r H2 ?_ (s1.trans s2) e2⟩
    cases hz : H r with
    | none => rfl
    | some o => rw [s1 _ _ hz] at f2; cases f2
  next => exact h.elim

end LW
namespace LW
open PySem PySem.Spec L2 GG
variable {P : Program} {w : World} {K : PySem.W.Frag} {mg : Str → Option Value} {base : Heap}
def allW (rs : List (T × List Int)) : List Int := rs.flatMap fun r => r.2
theorem allW_take {rs : List (T × List Int)} {i : Nat} {r : T × List Int} (h : rs[i]? = some r) : allW (rs.take (i + 1)) = allW (rs.take i) ++ r.2 := by
  unfold allW
  rw [List.take_add_one, h, List.flatMap_append]
  simp
theorem allW_le (rs : List (T × List Int)) (i : Nat) : (allW (rs.take i)).length ≤ (allW rs).length := by
  have e : allW rs = allW (rs.take i) ++ allW (rs.drop i) := by unfold allW; rw [← List.flatMap_append, List.take_append_drop]
  rw [e, List.length_append]; omega
def leavesOf (rs : List (T × List Int)) : Int := (rs.map fun r => (r.1.names.length : Int)).sum
def optV : Option Int → V
  | none => .non
  | some i => .int i
/-- the first worth whose count comes to k -/
def firstW (f : Int → Int) (ws : List Int) (k : Int) : Option Int := (ws.filter fun b => decide (k ≤ f b)).head?
def lowW (rs : List (T × List Int)) (ws : List Int) (k : Int) : Option Int := if k ≤ sumG rs (ws.headD 0 - 1) then none else firstW (sumG rs) ws k
def sp_kth (K : PySem.W.Frag) : Sp := fun vs H Q _ => match vs with
  | [.ref p, .int k] => ∃ us rs, H p = some (.lst us) ∧ RPs K H rs us ∧ RsOk rs ∧ 1 ≤ k ∧ k ≤ leavesOf rs ∧ (allW rs).length < 64 ∧ allW rs ≠ [] ∧ (∃ b ∈ allW rs, k ≤ sumG rs b) ∧
    ∀ ws : List Int, ws.Pairwise (· < ·) → (∀ b, b ∈ ws ↔ b ∈ allW rs) → ∀ r H', H r = none → Same H H' → H' r = some (.tup [optV (lowW rs ws k), optV (firstW (sumL rs) ws k)]) → Q (.ref r) H'
  | _ => False
theorem none_back {H H1 : Hp} {p : Addr} (s : Same H H1) (h : H1 p = none) : H p = none := by
  cases hz : H p with
  | none => rfl
  | some o => rw [s _ _ hz] at h; cases h
theorem k_lenT' {X : Cx} {K : PySem.W.Frag} {mg : Str → Option Value} {j : Nat} (tp : Top K mg) (h : X.K = K) (h' : X.mg = mg) (hr : Room j X.A) (hj : 48 ≤ j) : CallR X (.builtin "len") (fun vs H Q => rLenO (CLf K) (sp_Leaf___len__ K) vs H Q ∨ rLenO (CGf K) (sp_Group___len__ K) vs H Q) := by
  subst h; subst h'; exact c_lenT tp hr hj
theorem ok_kth (tp : Top K mg) : FnN P w K mg base 100 "kth" [] (sp_kth K) := by
  refine fn_by tp.f_kth sc_kth (fun vs H Q E h => by unfold sp_kth at h; split at h <;> first | rfl | exact h.elim) (fun f cdv A outer s H vs Q E hr h => ⟨_, (pss_cons (ps_expr (g_call (ok_check_reports tp) hr rfl (by omega) (pa_cons (gv 0) pa_nil))) (pss_cons (ps_expr (g_call (ok_check_within tp) hr rfl (by omega) (pa_cons (gv 1) (pa_cons pe_int (pa_cons (pe_callB (k_sum K rfl rfl) (by rfl) tp.b_sum (by decide +kernel) (pa_cons (g_lc rfl sc_kth.nd (kw_list K rfl (gv 0)) (blkOk_by (own := [("report", 5)]) (N := (["reports", "rank", "worths", "low", "highs", "report", "worth"] : List Str)) (sc := defScope s_kth) (by decide +kernel)) (fun _ _ _ _ _ => pg_name (i := 5) sc_kth.nd rfl (Or.inl rfl)) (fun _ _ _ _ _ => pts_nil) (fun _ _ _ _ _ => (pe_callB (k_lenT' tp rfl rfl hr (by omega)) (by rfl) tp.b_len (by decide +kernel) (pa_cons (g_prop (ok_Report_tree tp) hr (by omega) (gv 5) rfl) pa_nil)))) pa_nil)) pa_nil))))) (pss_cons (ps_set (i := 2) sc_kth.nd rfl (by first | exact Or.inl rfl | exact Or.inr rfl) (pe_callB (c_sortSet w rfl rfl) (by rfl) tp.b_sorted (by decide +kernel) (pa_cons (k_set2 w rfl rfl sc_kth.nd (kw_list K rfl (gv 0)) (blkOk_by (own := [("report", 5), ("worth", 6)]) (N := (["reports", "rank", "worths", "low", "highs", "report", "worth"] : List Str)) (sc := defScope s_kth) (by decide +kernel)) (vs1 := [6]) (by decide) (fun _ _ _ _ _ => pg_name (i := 5) sc_kth.nd rfl (Or.inl rfl)) (fun _ _ _ _ _ => pts_nil) (fun _ _ _ _ _ => (kw_list K rfl (g_prop (ok_Report_told tp) hr (by omega) (gv 5) rfl))) (fun _ _ _ _ _ => pg_name (i := 6) sc_kth.nd rfl (Or.inl rfl)) (fun _ _ _ _ _ => pts_nil) (fun _ _ _ _ _ => (gv 6))) pa_nil))) (pss_cons (ps_set (i := 3) sc_kth.nd rfl (by first | exact Or.inl rfl | exact Or.inr rfl) pe_non) (pss_cons (g_if (g_cmp op_ltG (pe_ix (k_ix K rfl) (g_call (ok_all_counts tp) hr rfl (by omega) (pa_cons (gv 0) (pa_cons (pe_op op_subG (pe_ix (k_ix K rfl) (gv 2) pe_int (fun _ _ => rfl)) pe_int) pa_nil))) pe_int (fun _ _ => rfl)) (gv 1) (nomark _)) (pss_one (ps_set (i := 3) sc_kth.nd rfl (by first | exact Or.inl rfl | exact Or.inr rfl) (pe_ix (k_ix K rfl) (g_lc rfl sc_kth.nd (kw_list K rfl (gv 2)) (blkOk_by (own := [("worth", 6)]) (N := (["reports", "rank", "worths", "low", "highs", "report", "worth"] : List Str)) (sc := defScope s_kth) (by decide +kernel)) (fun _ _ _ _ _ => pg_name (i := 6) sc_kth.nd rfl (Or.inl rfl)) (fun _ _ _ _ _ => (pts_one (g_cmp op_geG (pe_ix (k_ix K rfl) (g_call (ok_all_counts tp) hr rfl (by omega) (pa_cons (gv 0) (pa_cons (gv 6) pa_nil))) pe_int (fun _ _ => rfl)) (gv 1) (nomark _)))) (fun _ _ _ _ _ => (gv 6))) pe_int (fun _ _ => rfl)))) pss_nil) (pss_cons (g_setLc (i := 4) rfl sc_kth.nd rfl rfl (sw_true rfl rfl rfl (by decide +kernel)) (kw_list K rfl (gv 2)) (blkOk_by (own := [("worth", 6)]) (N := (["reports", "rank", "worths", "low", "highs", "report", "worth"] : List Str)) (sc := defScope s_kth) (by decide +kernel)) (fun _ _ _ _ _ => pg_name (i := 6) sc_kth.nd rfl (Or.inl rfl)) (fun _ _ _ _ _ => (pts_one (g_cmp op_geG (pe_ix (k_ix K rfl) (g_call (ok_all_counts tp) hr rfl (by omega) (pa_cons (gv 0) (pa_cons (gv 6) pa_nil))) pe_int (fun _ _ => rfl)) (gv 1) (nomark _)))) (fun _ _ _ _ _ => (gv 6))) (pss_one (ps_ret (g_tup (pa_cons (gv 3) (pa_cons (g_ifE (g_cmp (k_neG K rfl hr.units) (gv 4) (g_lst pa_nil) (nomark _)) (pe_ix (k_ix K rfl) (gv 4) pe_int (fun _ _ => rfl)) pe_non) pa_nil))))))))))), ?_⟩)
  unfold sp_kth at h
  split at h
  next p k0 =>
    obtain ⟨us, rs, hp, rp, ok, k1, k2, h64, wne, ⟨bm, hbm, hbk⟩, k⟩ := h
    have hl := rp.length
    have hll : rs.length ≤ 1000 := by have := ok.ln; omega
    walk_at "w"
    refine ⟨us, rs, hp, rp, ok, fun H1 s1 => ?_⟩
    walk_at "w"
    have rp1 := rp.mono (SameT.of s1)
    refine comp_list (xs := us) (fun i acc G => Same H1 G ∧ acc = ((rs.take i).map fun r => (r.1.names.length : Int)).map V.int) (by rw [hl]; exact lt1000 hll) ⟨Same.refl _, rfl⟩ (fun i acc G f => SqL.of (f.1 _ _ (s1 _ _ hp))) (fun D i x acc H' hx hD hDl hq f => ⟨rfl, ?_⟩) (fun D H' acc hD hDl hq f => ?_)
    · obtain ⟨s2, rfl⟩ := f
      obtain ⟨r, hr1, mr⟩ := (rp1.mono (SameT.of (s2.trans off_same))).at_ hx
      obtain ⟨g, td⟩ := ok.ok r (List.mem_of_getElem? hr1)
      have mr' := mr
      obtain ⟨a, dx, tv, q, rfl, h1, h2, h3⟩ := mr
      refine way_t ?_
      walk_at "w"
      refine ⟨dx, _, h1, r.1, r.2, mr', fun tv2 m2 => ?_⟩
      walk_at "w"
      refine rd_len m2 g fun H4 s4 => ?_
      refine ⟨s4 _ _ hDl, s2.trans (off_mono s4), ?_⟩
      rw [sums_at hr1 fun r => (r.1.names.length : Int), List.map_append]
      rfl
    · obtain ⟨s2, rfl⟩ := f
      rw [hl, List.take_length] at hDl
      have s3 : Same H H' := s1.trans (s2.trans off_same)
      walk_at "w"
      refine ⟨_, SqL.of hDl, ?_⟩
      refine ⟨k1, k2, ?_⟩
      have rp3 := rp.mono (SameT.of s3)
      walk_at "w"
      refine ⟨⟨us, SqL.of (s3 _ _ hp)⟩, fun D1 G1 hD1 sG1 oG1 eG1 => ?_⟩
      have hD1' : H' D1 = none := hD1
      refine (cl_list (xs := us) gName_up (fun i G => SameX D1 H' G ∧ SetL w G D1 (allW (rs.take i))) ⟨SameX.of sG1, SetL.nil eG1⟩ (fun i G _ f => SqL.of (f.1 _ _ (ne_of_none (s3 _ _ hp) hD1') (s3 _ _ hp))) (fun i x G hx f => ⟨rfl, ?_⟩) (fun G f => ?_)).2
      · obtain ⟨sG, sl⟩ := f
        have sHG : Same H' G := SameX.un (Same.refl _) hD1' sG
        obtain ⟨r, hr1, mr⟩ := (rp3.mono (SameT.of sHG)).at_ hx
        have mr' := mr
        obtain ⟨a, dx, tv, q, rfl, h1, h2, h3⟩ := mr
        refine way_t ?_
        walk_at "w"
        refine ⟨dx, _, h1, r.1, r.2, mr', fun p2 G2 f2 s2' e2 => ?_⟩
        have nD : p2 ≠ D1 := by
          rintro rfl
          obtain ⟨S, n, e, _⟩ := sl
          rw [e] at f2; cases f2
        have tk := allW_take hr1
        have tl := allW_le rs (i + 1)
        rw [tk, List.length_append] at tl
        refine cl_list (xs := r.2.map V.int) gName_up (fun j G3 => SameX D1 G2 G3 ∧ SetL w G3 D1 (allW (rs.take i) ++ r.2.take j)) ⟨SameX.refl, ?_⟩ (fun j G3 _ f => SqL.of (f.1 _ _ nD e2)) (fun j y G3 hy f => ⟨rfl, ?_⟩) (fun G3 f => ?_)
        · obtain ⟨S, n, e, hS, hn⟩ := sl
          exact ⟨S, n, s2' _ _ e, by simpa using hS, by simpa using hn⟩
        · obtain ⟨s5, sl5⟩ := f
          obtain ⟨c, hc, rfl⟩ := map_at hy
          have hj : j < r.2.length := by
            rcases Nat.lt_or_ge j r.2.length with z | z
            · exact z
            · rw [List.getElem?_eq_none z] at hc; cases hc
          refine way_t (tAdd_of (l := allW (rs.take i) ++ r.2.take j) ?_ (fun σ H Q Q' i h => ?_))
          · refine ⟨c, rfl, sl5, by rw [List.length_append, List.length_take]; omega, fun G6 s6 sl6 => ⟨s5.trans s6, ?_⟩⟩
            rw [List.take_add_one, hc, ← List.append_assoc]
            exact sl6
          · unfold gVar at h ⊢
            split at h
            · exact i _ _ h
            · exact h
        · obtain ⟨s5, sl5⟩ := f
          rw [List.length_map, List.take_length] at sl5
          exact ⟨sG.trans ((SameX.of s2').trans s5), by rw [tk]; exact sl5⟩
      · obtain ⟨sG, sl⟩ := f
        have sHG : Same H' G := SameX.un (Same.refl _) hD1' sG
        rw [hl, List.take_length] at sl
        walk_at "w"
        refine ⟨_, sl, h64, fun ws pw G2 asc mem f2 s2' e2 => ?_⟩
        have s4 : Same H G2 := s3.trans (sHG.trans s2')
        have rp4 := rp.mono (SameT.of s4)
        have hp4 := s4 _ _ hp
        have wsne : ws ≠ [] := by
          rintro rfl
          cases hw : allW rs with
          | nil => exact wne hw
          | cons a l => exact absurd ((mem a).mpr (by rw [hw]; exact List.mem_cons_self ..)) (by simp)
        obtain ⟨w0, wr, ew⟩ : ∃ a b, ws = a :: b := by
          cases ws with
          | nil => exact absurd rfl wsne
          | cons a b => exact ⟨a, b, rfl⟩
        have wlen : ws.length ≤ 1000 := by
          have nd : ws.Nodup := asc.imp fun h => Int.ne_of_lt h
          have := nd.length_le_of_subset (l₂ := allW rs) fun b hb => (mem b).mp hb
          omega
        walk_at "w"
        refine ⟨_, .int w0, Or.inl (SqL.of e2), at_of (j := 0) rfl (by rw [ew]; rfl), ?_⟩
        walk_at "w"
        refine ⟨us, rs, hp4, rp4, ok, fun p5 G5 f5 s5 e5 => ?_⟩
        walk_at "w"
        refine ⟨_, .int _, Or.inr (SqT.of e5), at_of (j := 1) rfl rfl, ?_⟩
        have s45 := s4.trans s5
        have e2' := s5 _ _ e2
        have e0 : ws.headD 0 = w0 := by rw [ew]; rfl
        walk_at "w"
        refine way_d (fun c => ?_) fun c => ?_
        · have eW := e2'
          have hpW := s45 _ _ hp
          have rpW := rp.mono (SameT.of s45)
          walk_at "w"
          refine comp_list (xs := ws.map V.int) (fun i acc G => Same G5 G ∧ acc = ((ws.take i).filter fun b => decide (k0 ≤ sumG rs b)).map V.int) (by rw [List.length_map]; exact lt1000 wlen) ⟨Same.refl _, rfl⟩ (fun i acc G f => SqL.of (f.1 _ _ eW)) (fun D i x acc H' hx hD hDl hq f => ⟨rfl, ?_⟩) (fun D H' acc hD hDl hq f => ?_)
          · obtain ⟨sx, rfl⟩ := f
            obtain ⟨r0, hr0, rfl⟩ := map_at hx
            have e := filt_take (p := fun b => decide (k0 ≤ sumG rs b)) hr0
            have sy := sx.trans off_same
            walk_at "w"
            refine ⟨us, rs, sy _ _ hpW, rpW.mono (SameT.of sy), ok, fun p7 G7 f7 s7 e7 => ?_⟩
            walk_at "w"
            refine ⟨_, .int _, Or.inr (SqT.of e7), at_of (j := 1) rfl rfl, ?_⟩
            walk_at "w"
            refine way_d (fun c => ?_) fun c => ?_
            · refine ⟨s7 _ _ hDl, sx.trans (off_mono s7), ?_⟩
              rw [e, if_pos (decide_eq_true c), List.map_append]; rfl
            · refine ⟨s7 _ _ hDl, sx.trans (off_mono s7), ?_⟩
              rw [e, if_neg (by simpa using c), List.append_nil]
          · obtain ⟨sx, rfl⟩ := f
            rw [List.length_map, List.take_length] at hDl
            have sy := sx.trans off_same
            cases hf : ws.filter (fun b => decide (k0 ≤ sumG rs b)) with
            | nil =>
              exfalso
              have := List.filter_eq_nil_iff.mp hf bm ((mem bm).mpr hbm)
              exact this (decide_eq_true hbk)
            | cons a1 l1 =>
              rw [hf] at hDl
              walk_at "w"
              refine ⟨_, .int a1, Or.inl (SqL.of hDl), at_of (j := 0) rfl rfl, ?_⟩
              have ev : optV (lowW rs ws k0) = .int a1 := by
                unfold lowW firstW
                rw [e0, if_neg (by omega), hf]
                rfl
              have sW := s45.trans sy
              replace hpW := sy _ _ hpW
              replace rpW := rpW.mono (SameT.of sy)
              replace eW := sy _ _ eW
              walk_at "w"
              refine comp_list (xs := ws.map V.int) (fun i acc G => Same H' G ∧ acc = ((ws.take i).filter fun b => decide (k0 ≤ sumL rs b)).map V.int) (by rw [List.length_map]; exact lt1000 wlen) ⟨Same.refl _, rfl⟩ (fun i acc G f => SqL.of (f.1 _ _ eW)) (fun D i x acc H' hx hD hDl hq f => ⟨rfl, ?_⟩) (fun D H' acc hD hDl hq f => ?_)
              · obtain ⟨sx, rfl⟩ := f
                obtain ⟨r0, hr0, rfl⟩ := map_at hx
                have e := filt_take (p := fun b => decide (k0 ≤ sumL rs b)) hr0
                have sy := sx.trans off_same
                walk_at "w"
                refine ⟨us, rs, sy _ _ hpW, rpW.mono (SameT.of sy), ok, fun p7 G7 f7 s7 e7 => ?_⟩
                walk_at "w"
                refine ⟨_, .int _, Or.inr (SqT.of e7), at_of (j := 0) rfl rfl, ?_⟩
                walk_at "w"
                refine way_d (fun c => ?_) fun c => ?_
                · refine ⟨s7 _ _ hDl, sx.trans (off_mono s7), ?_⟩
                  rw [e, if_pos (decide_eq_true c), List.map_append]; rfl
                · refine ⟨s7 _ _ hDl, sx.trans (off_mono s7), ?_⟩
                  rw [e, if_neg (by simpa using c), List.append_nil]
              · obtain ⟨sx, rfl⟩ := f
                rw [List.length_map, List.take_length] at hDl
                have sy := sx.trans off_same
                walk_at "w"
                refine ⟨(by show 0 ≤ sizeLine; decide), fun p8 G8 f8 s8 e8 => Or.inl ⟨_, SqL.of (s8 _ _ hDl), e8, ?_⟩⟩
                have sF : Same H G8 := sW.trans (sy.trans s8)
                cases hf : ws.filter (fun b => decide (k0 ≤ sumL rs b)) with
                | nil =>
                  refine way_f ?_
                  walk_at "w"
                  refine ⟨(by show 2 ≤ sizeLine; decide), fun p9 G9 f9 s9 e9 => k ws asc mem p9 G9 (none_back sF f9) (sF.trans s9) ?_⟩
                  rw [e9, ev]
                  unfold firstW
                  rw [hf]
                  rfl
                | cons a0 l0 =>
                  refine way_t ?_
                  walk_at "w"
                  refine ⟨_, .int a0, Or.inl (SqL.of (s8 _ _ hDl)), at_of (j := 0) rfl (by rw [hf]; rfl), ?_⟩
                  walk_at "w"
                  refine ⟨(by show 2 ≤ sizeLine; decide), fun p9 G9 f9 s9 e9 => k ws asc mem p9 G9 (none_back sF f9) (sF.trans s9) ?_⟩
                  rw [e9, ev]
                  unfold firstW
                  rw [hf]
                  rfl
        · have eW := e2'
          have sW := s45
          have hpW := s45 _ _ hp
          have rpW := rp.mono (SameT.of s45)
          have ev : optV (lowW rs ws k0) = .non := by
            unfold lowW
            rw [e0, if_pos (by omega)]
            rfl
          walk_at "w"
          refine comp_list (xs := ws.map V.int) (fun i acc G => Same G5 G ∧ acc = ((ws.take i).filter fun b => decide (k0 ≤ sumL rs b)).map V.int) (by rw [List.length_map]; exact lt1000 wlen) ⟨Same.refl _, rfl⟩ (fun i acc G f => SqL.of (f.1 _ _ eW)) (fun D i x acc H' hx hD hDl hq f => ⟨rfl, ?_⟩) (fun D H' acc hD hDl hq f => ?_)
          · obtain ⟨sx, rfl⟩ := f
            obtain ⟨r0, hr0, rfl⟩ := map_at hx
            have e := filt_take (p := fun b => decide (k0 ≤ sumL rs b)) hr0
            have sy := sx.trans off_same
            walk_at "w"
            refine ⟨us, rs, sy _ _ hpW, rpW.mono (SameT.of sy), ok, fun p7 G7 f7 s7 e7 => ?_⟩
            walk_at "w"
            refine ⟨_, .int _, Or.inr (SqT.of e7), at_of (j := 0) rfl rfl, ?_⟩
            walk_at "w"
            refine way_d (fun c => ?_) fun c => ?_
            · refine ⟨s7 _ _ hDl, sx.trans (off_mono s7), ?_⟩
              rw [e, if_pos (decide_eq_true c), List.map_append]; rfl
            · refine ⟨s7 _ _ hDl, sx.trans (off_mono s7), ?_⟩
              rw [e, if_neg (by simpa using c), List.append_nil]
          · obtain ⟨sx, rfl⟩ := f
            rw [List.length_map, List.take_length] at hDl
            have sy := sx.trans off_same
            walk_at "w"
            refine ⟨(by show 0 ≤ sizeLine; decide), fun p8 G8 f8 s8 e8 => Or.inl ⟨_, SqL.of (s8 _ _ hDl), e8, ?_⟩⟩
            have sF : Same H G8 := sW.trans (sy.trans s8)
            cases hf : ws.filter (fun b => decide (k0 ≤ sumL rs b)) with
            | nil =>
              refine way_f ?_
              walk_at "w"
              refine ⟨(by show 2 ≤ sizeLine; decide), fun p9 G9 f9 s9 e9 => k ws asc mem p9 G9 (none_back sF f9) (sF.trans s9) ?_⟩
              rw [e9, ev]
              unfold firstW
              rw [hf]
              rfl
            | cons a0 l0 =>
              refine way_t ?_
              walk_at "w"
              refine ⟨_, .int a0, Or.inl (SqL.of (s8 _ _ hDl)), at_of (j := 0) rfl (by rw [hf]; rfl), ?_⟩
              walk_at "w"
              refine ⟨(by show 2 ≤ sizeLine; decide), fun p9 G9 f9 s9 e9 => k ws asc mem p9 G9 (none_back sF f9) (sF.trans s9) ?_⟩
              rw [e9, ev]
              unfold firstW
              rw [hf]
              rfl
  next => exact h.elim

end LW
namespace LW
open PySem PySem.Spec L2 GG
variable {P : Program} {w : World} {K : PySem.W.Frag} {mg : Str → Option Value} {base : Heap}

theorem map_atG {α : Type} {f : α → V} {l : List α} {i : Nat} {x : V} (h : (l.map f)[i]? = some x) : ∃ a, l[i]? = some a ∧ x = f a := by
  rw [List.getElem?_map] at h
  cases e : l[i]? with
  | none => rw [e] at h; cases h
  | some a => rw [e] at h; exact ⟨a, rfl, (Option.some.inj h).symm⟩

def sp__law_width (K : PySem.W.Frag) : Sp := fun vs H Q _ => match vs with
  | [v] => ∃ t, LT H t v ∧ Q (.int t.width) H
  | _ => False
theorem ok__law_width (tp : Top K mg) : FnN P w K mg base 1 "_law_width" [] (sp__law_width K) := by
  refine fn_by tp.f__law_width sc__law_width (fun vs H Q E h => by unfold sp__law_width at h; split at h <;> first | rfl | exact h.elim) (fun f cdv A outer s H vs Q E hr h => ⟨_, (pss_one (ps_ret (g_ifE (g_val (pe_callB (k_isi K rfl) (by rfl) tp.b_isinstance (by decide +kernel) (pa_cons (gv 0) (pa_cons (pe_bltn (v := .ty "str") rfl tp.b_str (by decide +kernel) rfl) pa_nil)))) pe_int (pe_callB (k_len K rfl) (by rfl) tp.b_len (by decide +kernel) (pa_cons (pe_ix (k_ix K rfl) (gv 0) pe_int (fun _ _ => rfl)) pa_nil))))), ?_⟩)
  unfold sp__law_width at h
  split at h
  next v =>
    obtain ⟨t, m, k⟩ := h
    cases t with
    | leaf z =>
      obtain rfl : v = .str z := m
      walk_at "w"
      exact ⟨_, is_ss, way_t k⟩
    | grp rk ps =>
      obtain ⟨a, r, p, us, rfl, h1, h2, h3, h4⟩ := m
      walk_at "w"
      refine ⟨_, is_ts h1, way_f ?_⟩
      walk_at "w"
      refine ⟨_, .ref r, Or.inr (SqT.of h1), at_of (j := 1) rfl rfl, ?_⟩
      walk_at "w"
      refine ⟨_, Or.inl (SqL.of h2), ?_⟩
      rw [List.length_map]
      exact k
  next => exact h.elim

def sp__law_names (K : PySem.W.Frag) (n : Nat) : Sp := fun vs H Q _ => match vs with
  | [v] => ∃ t, LT H t v ∧ t.depth < n ∧ t.names.length ≤ 1000 ∧ ∀ p H', H p = none → Same H H' → H' p = some (.lst (t.names.map V.str)) → Q (.ref p) H'
  | _ => False
theorem ok__law_names (tp : Top K mg) : ∀ n, FnN P w K mg base (n + 1) "_law_names" [] (sp__law_names K n)
  | 0 => by
    refine fn_by tp.f__law_names sc__law_names (fun vs H Q E h => by unfold sp__law_names at h; split at h <;> first | rfl | exact h.elim) (fun f cdv A outer s H vs Q E hr h => ?_)
    exfalso
    unfold sp__law_names at h
    split at h
    next v => obtain ⟨t, _, h, _⟩ := h; omega
    next => exact h
  | n + 1 => by
    have ih := ok__law_names tp n
    refine fn_by tp.f__law_names sc__law_names (fun vs H Q E h => by unfold sp__law_names at h; split at h <;> first | rfl | exact h.elim) (fun f cdv A outer s H vs Q E hr h => ⟨_, (pss_cons (g_if (g_val (pe_callB (k_isi K rfl) (by rfl) tp.b_isinstance (by decide +kernel) (pa_cons (gv 0) (pa_cons (pe_bltn (v := .ty "str") rfl tp.b_str (by decide +kernel) rfl) pa_nil)))) (pss_one (ps_ret (g_lst (pa_cons (gv 0) pa_nil)))) pss_nil) (pss_cons (ps_set (i := 1) sc__law_names.nd rfl (by first | exact Or.inl rfl | exact Or.inr rfl) (g_lst pa_nil)) (pss_cons (g_for PassesOwn.never rfl (kw_list K rfl (pe_ix (k_ix K rfl) (gv 0) pe_int (fun _ _ => rfl))) (pg_name (i := 2) sc__law_names.nd rfl (by first | exact Or.inl rfl | exact Or.inr rfl)) (pss_one (ps_set (i := 1) sc__law_names.nd rfl (by first | exact Or.inl rfl | exact Or.inr rfl) (pe_op op_addG (gv 1) (g_call (ih) hr rfl (by omega) (pa_cons (gv 2) pa_nil)))))) (pss_one (ps_ret (gv 1)))))), ?_⟩)
    unfold sp__law_names at h
    split at h
    next v =>
      obtain ⟨t, m, hd, hz, k⟩ := h
      cases t with
      | leaf z =>
        obtain rfl : v = .str z := m
        walk_at "w"
        refine ⟨_, is_ss, way_t ?_⟩
        exact ⟨(by show 1 ≤ sizeLine; decide), k⟩
      | grp rk ps =>
        obtain ⟨a, r, p, us, rfl, h1, h2, h3, h4⟩ := m
        rw [T.depth] at hd
        rw [T.names] at hz
        walk_at "w"
        refine ⟨_, is_ts h1, way_f ?_⟩
        walk_at "w"
        refine ⟨(by show 0 ≤ sizeLine; decide), fun p1 H1 hp1 s1 e1 => ?_⟩
        walk_at "w"
        refine ⟨_, .ref p, Or.inr (SqT.of (s1 _ _ h1)), at_of (j := 2) rfl rfl, ?_⟩
        have hus := h4.length
        refine forw_list (xs := us) (fun i σ H3 => ∃ p3 v3, σ = [some (.ref a), some (.ref p3), v3] ∧ H p3 = none ∧ Same H H3 ∧ H3 p3 = some (.lst ((T.namesL (ps.take i)).map V.str))) ⟨p1, none, rfl, hp1, s1, e1⟩ (fun i σ H3 _ ⟨_, _, _, _, s3, _⟩ => SqL.of (s3 _ _ h3)) ?_ ?_
        · rintro i x σ H3 hx ⟨p3, v3, rfl, hp3, s3, e3⟩
          obtain ⟨t, ht, mt⟩ := (h4.mono s3).at_ hx
          have hdt := T.depthL_le (List.mem_of_getElem? ht)
          have tl := T.namesL_take ht
          have le1 := T.namesL_take_le (ts := ps) (i + 1)
          rw [tl, List.length_append] at le1
          walk_at "w"
          refine ⟨t, mt, by omega, by omega, fun p4 H4 hp4 s4 e4 => ?_⟩
          refine ⟨_, _, s4 _ _ e3, e4, ?_, fun p5 H5 hp5 s5 e5 => ?_⟩
          · rw [List.length_map, List.length_map]; exact Nat.le_trans (by omega : _ ≤ 1000) (by decide)
          · refine ⟨p5, _, rfl, ?_, s3.trans (s4.trans s5), ?_⟩
            · cases hz : H p5 with
              | none => rfl
              | some o => rw [(s3.trans s4) _ _ hz] at hp5; cases hp5
            · rw [e5, tl, List.map_append]
        · rintro σ H3 ⟨p3, v3, rfl, hp3, s3, e3⟩
          rw [hus, List.take_length] at e3
          exact k p3 H3 hp3 s3 e3
    next => exact h.elim

def sp__law_made (K : PySem.W.Frag) (n : Nat) : Sp := fun vs H Q _ => match vs with
  | [v] => ∃ t, LT H t v ∧ t.Gd ∧ t.depth < n ∧ ∀ v' H', Same H H' → MTk K H' t v' → Q v' H'
  | _ => False
theorem ok__law_made (tp : Top K mg) : ∀ n, FnN P w K mg base (n + 52) "_law_made" [] (sp__law_made K n)
  | 0 => by
    refine fn_by tp.f__law_made sc__law_made (fun vs H Q E h => by unfold sp__law_made at h; split at h <;> first | rfl | exact h.elim) (fun f cdv A outer s H vs Q E hr h => ?_)
    exfalso
    unfold sp__law_made at h
    split at h
    next v => obtain ⟨t, _, _, h, _⟩ := h; omega
    next => exact h
  | n + 1 => by
    have ih := ok__law_made tp n
    refine fn_by tp.f__law_made sc__law_made (fun vs H Q E h => by unfold sp__law_made at h; split at h <;> first | rfl | exact h.elim) (fun f cdv A outer s H vs Q E hr h => ⟨_, (pss_cons (g_if (g_val (pe_callB (k_isi K rfl) (by rfl) tp.b_isinstance (by decide +kernel) (pa_cons (gv 0) (pa_cons (pe_bltn (v := .ty "str") rfl tp.b_str (by decide +kernel) rfl) pa_nil)))) (pss_one (ps_ret (g_make (mk_Leaf tp) hr rfl (by omega) (pa_cons (gv 0) pa_nil)))) pss_nil) (pss_one (ps_ret (g_make (mk_Group tp) hr rfl (by omega) (pa_cons (pe_callTy (k_list K rfl) (by rfl) tp.b_list (by decide +kernel) (pa_cons (pe_ix (k_ix K rfl) (gv 0) pe_int (fun _ _ => rfl)) pa_nil)) (pa_cons (g_lc rfl sc__law_made.nd (kw_list K rfl (pe_ix (k_ix K rfl) (gv 0) pe_int (fun _ _ => rfl))) (blkOk_by (own := [("part", 1)]) (N := (["tree", "part"] : List Str)) (sc := defScope s__law_made) (by decide +kernel)) (fun _ _ _ _ _ => pg_name (i := 1) sc__law_made.nd rfl (Or.inl rfl)) (fun _ _ _ _ _ => pts_nil) (fun _ _ _ _ _ => (g_call (ih) hr rfl (by omega) (pa_cons (gv 1) pa_nil)))) pa_nil)))))), ?_⟩)
    unfold sp__law_made at h
    split at h
    next v =>
      obtain ⟨t, m, g, hd, k⟩ := h
      cases t with
      | leaf z =>
        obtain rfl : v = .str z := m
        walk_at "w"
        refine ⟨_, is_ss, way_t ?_⟩
        exact ⟨g.sh, k⟩
      | grp rk ps =>
        obtain ⟨a, r, p, us, rfl, h1, h2, h3, h4⟩ := m
        have hus := h4.length
        obtain ⟨ok, rok, hrl⟩ := g.pts
        rw [T.depth] at hd
        walk_at "w"
        refine ⟨_, is_ts h1, way_f ?_⟩
        walk_at "w"
        refine ⟨_, .ref r, Or.inr (SqT.of h1), at_of (j := 1) rfl rfl, ?_⟩
        refine ⟨_, Or.inl (SqL.of h2), fun p1 H1 hp1 s1 e1 => ?_⟩
        walk_at "w"
        refine ⟨_, .ref p, Or.inr (SqT.of (s1 _ _ h1)), at_of (j := 2) rfl rfl, ?_⟩
        refine comp_list (xs := us) (fun i acc G => Same H1 G ∧ MTsk K G (ps.take i) acc) (by rw [hus]; exact lt1000 ok.ln) ⟨Same.refl _, rfl⟩ (fun i acc G f => SqL.of (f.1 _ _ (s1 _ _ h3))) (fun D i x acc H' hx hD hDl hq' f => ⟨rfl, ?_⟩) (fun D H' acc hD hDl hq' f => ?_)
        · obtain ⟨s2, hm⟩ := f
          obtain ⟨t, ht, mt⟩ := (h4.mono (s1.trans (s2.trans off_same))).at_ hx
          have hdt := T.depthL_le (List.mem_of_getElem? ht)
          refine way_t ?_
          walk_at "w"
          refine ⟨t, mt, g.part (List.mem_of_getElem? ht), by omega, fun v5 H5 s5 m5 => ?_⟩
          refine ⟨s5 _ _ hDl, s2.trans (off_mono s5), ?_⟩
          rw [List.take_add_one, ht]
          exact MTs.snoc (m5.monoT (SameT.off (s5 _ _ hDl))) (hm.monoT (SameT.of (off_mono s5)))
        · obtain ⟨s2, hm⟩ := f
          have s3 : Same H1 H' := s2.trans off_same
          rw [hus, List.take_length] at hm
          refine ⟨rk, acc, ps, s3 _ _ e1, hDl, hm.mono off_same, ok, rok, hrl, fun v6 H6 s6 m6 => k v6 H6 (s1.trans (s3.trans s6)) m6⟩
    next => exact h.elim

def sp__law_whole (K : PySem.W.Frag) : Sp := fun vs H Q _ => match vs with
  | [.int _] => Q (.bl true) H
  | _ => False
theorem ok__law_whole (tp : Top K mg) : FnN P w K mg base 1 "_law_whole" [] (sp__law_whole K) := by
  refine fn_by tp.f__law_whole sc__law_whole (fun vs H Q E h => by unfold sp__law_whole at h; split at h <;> first | rfl | exact h.elim) (fun f cdv A outer s H vs Q E hr h => ⟨_, (pss_one (ps_ret (g_andV (pe_callB (k_isi K rfl) (by rfl) tp.b_isinstance (by decide +kernel) (pa_cons (gv 0) (pa_cons (pe_bltn (v := .ty "int") rfl tp.b_int (by decide +kernel) rfl) pa_nil))) (pe_one (g_notV (pe_callB (k_isi K rfl) (by rfl) tp.b_isinstance (by decide +kernel) (pa_cons (gv 0) (pa_cons (pe_bltn (v := .ty "bool") rfl tp.b_bool (by decide +kernel) rfl) pa_nil)))))))), ?_⟩)
  unfold sp__law_whole at h
  split at h
  next z =>
    walk_at "w"
    refine ⟨_, is_ii, way_t ?_⟩
    walk_at "w"
    exact ⟨_, is_ib, h⟩
  next => exact h.elim


/-- a purse stands at p -/
def Pu (H : Hp) (p : Addr) : Prop := ∃ a b c : Int, H p = some (.lst [.int a, .int b, .int c])
theorem Pu.same {H H' : Hp} {p : Addr} (h : Pu H p) (s : Same H H') : Pu H' p := let ⟨a, b, c, e⟩ := h; ⟨a, b, c, s _ _ e⟩
theorem Pu.ne {H : Hp} {p : Addr} (h : Pu H p) {b : Addr} (n : H b = none) : b ≠ p := by
  obtain ⟨x, y, z, e⟩ := h
  exact (ne_of_none e n).symm
theorem _root_.GG.SameX.some_ {p : Addr} {H H' : Hp} (h : SameX p H H') (hp : Pu H' p) {b : Addr} {o : HO} (e : H b = some o) : ∃ o', H' b = some o' := by
  by_cases q : b = p
  · subst q; obtain ⟨x, y, z, e2⟩ := hp; exact ⟨_, e2⟩
  · exact ⟨o, h b o q e⟩
theorem _root_.GG.SameX.none_ {p : Addr} {H H' : Hp} (h : SameX p H H') (hp : Pu H' p) {b : Addr} (e : H' b = none) : H b = none := by
  cases z : H b with
  | none => rfl
  | some o => obtain ⟨o', q⟩ := h.some_ hp z; rw [q] at e; cases e
theorem fresh_later {p : Addr} {H H1 H2 : Hp} (hp : Pu H p) (s : SameX p H1 H2) : Same (fresh H H1) (fresh H H2) := fun b o e => by
  obtain ⟨n, e⟩ := fresh_some e
  exact fresh_at n (s b o (hp.ne n) e)
theorem fresh_before {p : Addr} {H H1 H2 : Hp} (s : SameX p H H1) (hp : Pu H1 p) : Same (fresh H1 H2) (fresh H H2) := fun b o e => by
  obtain ⟨n, e⟩ := fresh_some e
  exact fresh_at (s.none_ hp n) e

def sp__law_purse (K : PySem.W.Frag) : Sp := fun vs H Q _ => match vs with
  | [.ref q, .int at_] => ∃ xs : List Int, SqL K H q (xs.map V.int) ∧ ∀ p H', H p = none → Same H H' → Pu H' p → Q (.ref p) H'
  | _ => False
theorem cutV_int (xs : List Int) (lo hi : Option Int) : ∃ ys : List Int, cutV (xs.map V.int) lo hi = ys.map V.int :=
  ⟨_, by unfold cutV; rw [← List.map_drop, ← List.map_take]⟩
theorem ok__law_purse (tp : Top K mg) : FnN P w K mg base 1 "_law_purse" [] (sp__law_purse K) := by
  refine fn_by tp.f__law_purse sc__law_purse (fun vs H Q E h => by unfold sp__law_purse at h; split at h <;> first | rfl | exact h.elim) (fun f cdv A outer s H vs Q E hr h => ⟨_, (pss_cons (ps_set (i := 2) sc__law_purse.nd rfl (by first | exact Or.inl rfl | exact Or.inr rfl) (pe_callTy c_int (by rfl) tp.b_int (by decide +kernel) (pa_cons (pe_callB (k_sum K rfl rfl) (by rfl) tp.b_sum (by decide +kernel) (pa_cons (pe_slice (k_sl K rfl) (gv 0) (po_some (gv 1)) (po_some (pe_op op_addG (gv 1) pe_int))) pa_nil)) pa_nil))) (pss_one (ps_ret (g_lst (pa_cons (pe_op op_mulG (pe_callTy c_int (by rfl) tp.b_int (by decide +kernel) (pa_cons (g_cmpV op_geG (gv 2) (pe_op op_powW pe_int pe_int) (nomark _)) pa_nil)) (pe_op op_modG (gv 2) (pe_op op_powW (pe_op op_powW pe_int pe_int) pe_int))) (pa_cons (pe_op op_modG (gv 2) pe_int) (pa_cons (pe_op op_mulG pe_int (gv 1)) pa_nil))))))), ?_⟩)
  unfold sp__law_purse at h
  split at h
  next q at_ =>
    obtain ⟨xs, hq, k⟩ := h
    walk_at "w"
    refine ⟨_, rfl, ?_⟩
    walk_at "w"
    refine ⟨_, rfl, ?_⟩
    walk_at "w"
    refine ⟨_, hq, fun p1 H1 hp1 s1 e1 => ?_⟩
    obtain ⟨ys, ey⟩ := cutV_int xs (some at_) (some (at_ + 1))
    rw [ey] at e1
    walk_at "w"
    refine ⟨ys, SqL.of e1, ?_⟩
    walk_at "w"
    refine ⟨⟨by decide, by decide +kernel⟩, ?_⟩
    walk_at "w"
    refine ⟨⟨by decide, by decide +kernel⟩, ?_⟩
    refine ⟨⟨by decide, by decide +kernel⟩, ?_⟩
    walk_at "w"
    refine ⟨(by show (0 : Int) < _; decide +kernel), ?_⟩
    walk_at "w"
    refine ⟨Or.inl (by split <;> decide), ?_⟩
    walk_at "w"
    refine ⟨(by show (0 : Int) < _; decide), ?_⟩
    walk_at "w"
    refine ⟨Or.inl (by decide), ?_⟩
    exact ⟨(by show 3 ≤ sizeLine; decide), fun p2 H2 hp2 s2 e2 => k p2 H2 (by
      cases hz : H p2 with
      | none => rfl
      | some o => rw [s1 _ _ hz] at hp2; cases hp2) (s1.trans s2) ⟨_, _, _, e2⟩⟩
  next => exact h.elim

def sp__law_draw (K : PySem.W.Frag) : Sp := fun vs H Q _ => match vs with
  | [.ref p, .int m] => Pu H p ∧ 0 < m ∧ m < 1073741824 ∧ ∀ d H', 0 ≤ d → d < m → SameX p H H' → Pu H' p → Q (.int d) H'
  | _ => False
theorem ok__law_draw (tp : Top K mg) : FnN P w K mg base 1 "_law_draw" [] (sp__law_draw K) := by
  refine fn_by tp.f__law_draw sc__law_draw (fun vs H Q E h => by unfold sp__law_draw at h; split at h <;> first | rfl | exact h.elim) (fun f cdv A outer s H vs Q E hr h => ⟨_, (pss_cons (g_if (g_cmp op_gtG (pe_ix (k_ix K rfl) (gv 0) pe_int (fun _ _ => rfl)) pe_int (nomark _)) (pss_cons (ps_set (i := 2) sc__law_draw.nd rfl (by first | exact Or.inl rfl | exact Or.inr rfl) (pe_op op_modG (pe_ix (k_ix K rfl) (gv 0) pe_int (fun _ _ => rfl)) (gv 1))) (pss_cons (ps_asg (pe_op op_fdivG (pe_ix (k_ix K rfl) (gv 0) pe_int (fun _ _ => rfl)) (gv 1)) (pg_sub (gv 0) pe_int s_set)) (pss_one (ps_ret (gv 2))))) pss_nil) (pss_cons (ps_asg (pe_op op_addG (pe_ix (k_ix K rfl) (gv 0) pe_int (fun _ _ => rfl)) pe_int) (pg_sub (gv 0) pe_int s_set)) (pss_cons (ps_set (i := 3) sc__law_draw.nd rfl (by first | exact Or.inl rfl | exact Or.inr rfl) (pe_op op_modG (pe_op op_addG (pe_op op_addG (pe_op op_mulG (pe_ix (k_ix K rfl) (gv 0) pe_int (fun _ _ => rfl)) pe_int) (pe_op op_mulG (pe_ix (k_ix K rfl) (gv 0) pe_int (fun _ _ => rfl)) pe_int)) pe_int) pe_int)) (pss_cons (ps_set (i := 3) sc__law_draw.nd rfl (by first | exact Or.inl rfl | exact Or.inr rfl) (pe_op op_modG (pe_op op_addG (pe_op op_mulG (gv 3) (gv 3)) (pe_ix (k_ix K rfl) (gv 0) pe_int (fun _ _ => rfl))) pe_int)) (pss_cons (ps_set (i := 3) sc__law_draw.nd rfl (by first | exact Or.inl rfl | exact Or.inr rfl) (pe_op op_modG (pe_op op_addG (pe_op op_mulG (gv 3) (gv 3)) pe_int) pe_int)) (pss_one (ps_ret (pe_op op_modG (pe_op op_fdivG (gv 3) pe_int) (gv 1))))))))), ?_⟩)
  unfold sp__law_draw at h
  split at h
  next p m =>
    obtain ⟨⟨a, b, c, hp⟩, h0, h1, k⟩ := h
    walk_at "w"
    refine ⟨_, .int a, Or.inl (SqL.of hp), at_of (j := 0) rfl rfl, ?_⟩
    walk_at "w"
    refine way_d (fun ha => ?_) fun ha => ?_
    · walk_at "w"
      refine ⟨_, .int a, Or.inl (SqL.of hp), at_of (j := 0) rfl rfl, ?_⟩
      refine ⟨h0, ?_⟩
      walk_at "w"
      refine ⟨_, .int a, Or.inl (SqL.of hp), at_of (j := 0) rfl rfl, ?_⟩
      refine ⟨⟨h0, h1⟩, ?_⟩
      refine ⟨_, 0, hp, rfl, fun H1 s1 e1 => ?_⟩
      exact k _ H1 (Int.emod_nonneg _ (by omega)) (Int.emod_lt_of_pos _ h0) s1 ⟨_, _, _, e1⟩
    · walk_at "w"
      refine ⟨_, .int c, Or.inl (SqL.of hp), at_of (j := 2) rfl rfl, ?_⟩
      refine ⟨_, 2, hp, rfl, fun H1 s1 e1 => ?_⟩
      walk_at "w"
      refine ⟨_, .int b, Or.inl (SqL.of e1), at_of (j := 1) rfl rfl, ?_⟩
      walk_at "w"
      refine ⟨Or.inr (by decide), ?_⟩
      walk_at "w"
      refine ⟨_, .int (c + 1), Or.inl (SqL.of e1), at_of (j := 2) rfl rfl, ?_⟩
      walk_at "w"
      refine ⟨Or.inr (by decide), ?_⟩
      walk_at "w"
      refine ⟨(by show (0 : Int) < _; decide), ?_⟩
      have r1 := Int.emod_nonneg (b * 48271 + (c + 1) * 1299709 + 907) (b := 2147483629) (by decide)
      have r2 := Int.emod_lt_of_pos (b * 48271 + (c + 1) * 1299709 + 907) (b := 2147483629) (by decide)
      generalize (b * 48271 + (c + 1) * 1299709 + 907) % 2147483629 = n1 at r1 r2 ⊢
      walk_at "w"
      refine ⟨Or.inl (by omega), ?_⟩
      walk_at "w"
      refine ⟨_, .int (c + 1), Or.inl (SqL.of e1), at_of (j := 2) rfl rfl, ?_⟩
      walk_at "w"
      refine ⟨(by show (0 : Int) < _; decide), ?_⟩
      have r3 := Int.emod_nonneg (n1 * n1 + (c + 1)) (b := 2147483587) (by decide)
      have r4 := Int.emod_lt_of_pos (n1 * n1 + (c + 1)) (b := 2147483587) (by decide)
      generalize (n1 * n1 + (c + 1)) % 2147483587 = n2 at r3 r4 ⊢
      walk_at "w"
      refine ⟨Or.inl (by omega), ?_⟩
      walk_at "w"
      refine ⟨(by show (0 : Int) < _; decide), ?_⟩
      walk_at "w"
      refine ⟨⟨by decide, by decide⟩, ?_⟩
      refine ⟨h0, ?_⟩
      exact k _ H1 (Int.emod_nonneg _ (by omega)) (Int.emod_lt_of_pos _ h0) s1 ⟨_, _, _, e1⟩
  next => exact h.elim

def sp__law_told (K : PySem.W.Frag) : Sp := fun vs H Q _ => match vs with
  | [.ref p, .int n] => Pu H p ∧ 0 ≤ n ∧ n ≤ 1000 ∧ ∀ (ds : List Int) r H', ds.length = n.toNat → ds.Pairwise (· ≤ ·) → H r = none → SameX p H H' → Pu H' p → H' r = some (.lst (ds.map V.int)) → Q (.ref r) H'
  | _ => False
theorem SameX.none2 {p : Addr} {H H' : Hp} (s : SameX p H H') (hp : Pu H' p) {b : Addr} (e : H' b = none) : H b = none := s.none_ hp e
theorem ok__law_told (tp : Top K mg) : FnN P w K mg base 2 "_law_told" [] (sp__law_told K) := by
  refine fn_by tp.f__law_told sc__law_told (fun vs H Q E h => by unfold sp__law_told at h; split at h <;> first | rfl | exact h.elim) (fun f cdv A outer s H vs Q E hr h => ⟨_, (pss_cons (ps_set (i := 2) sc__law_told.nd rfl (by first | exact Or.inl rfl | exact Or.inr rfl) (pe_ix (k_ix K rfl) (g_lst (pa_cons pe_int (pa_cons pe_int (pa_cons pe_int (pa_cons (pe_op op_powW pe_int pe_int) pa_nil))))) (g_call (ok__law_draw tp) hr rfl (by omega) (pa_cons (gv 0) (pa_cons pe_int pa_nil))) (fun _ _ => rfl))) (pss_one (ps_ret (pe_callB (k_sorted K rfl) (by rfl) tp.b_sorted (by decide +kernel) (pa_cons (g_lc rfl sc__law_told.nd (w_range1 rfl tp.b_range (pa_cons (gv 1) pa_nil)) (blkOk_by (own := [("turn", 3)]) (N := (["purse", "wide", "many", "turn"] : List Str)) (sc := defScope s__law_told) (by decide +kernel)) (fun _ _ _ _ _ => pg_name (i := 3) sc__law_told.nd rfl (Or.inl rfl)) (fun _ _ _ _ _ => pts_nil) (fun _ _ _ _ _ => (pe_op op_subG (g_call (ok__law_draw tp) hr rfl (by omega) (pa_cons (gv 0) (pa_cons (gv 2) pa_nil))) (pe_op op_fdivG (gv 2) pe_int)))) pa_nil))))), ?_⟩)
  unfold sp__law_told at h
  split at h
  next p n =>
    obtain ⟨hp, h0, h1, k⟩ := h
    walk_at "w"
    refine ⟨⟨by decide, by decide +kernel⟩, ?_⟩
    walk_at "w"
    refine ⟨(by show 4 ≤ sizeLine; decide), fun p1 H1 hp1 s1 e1 => ?_⟩
    refine ⟨hp.same s1, by decide, by decide, fun d H2 d0 d1 s2 hp2 => ?_⟩
    have hne := (hp.ne hp1)
    have e2 := s2 _ _ hne e1
    obtain ⟨m, hm, hm1, hm2⟩ : ∃ m : Int, ([.int 2, .int 5, .int 100, .int ((10 : Int) ^ (6 : Int).toNat)] : List V)[d.toNat]? = some (.int m) ∧ 0 < m ∧ m < 1073741824 := by
      have : d.toNat = 0 ∨ d.toNat = 1 ∨ d.toNat = 2 ∨ d.toNat = 3 := by omega
      rcases this with q | q | q | q <;> rw [q]
      · exact ⟨2, rfl, by decide, by decide⟩
      · exact ⟨5, rfl, by decide, by decide⟩
      · exact ⟨100, rfl, by decide, by decide⟩
      · exact ⟨(10 : Int) ^ (6 : Int).toNat, rfl, by decide, by decide⟩
    walk_at "w"
    refine ⟨_, .int m, Or.inl (SqL.of e2), at_of (j := d.toNat) (by omega) hm, ?_⟩
    walk_at "w"
    refine ⟨by omega, ?_⟩
    refine comp_range (fun i acc G => SameX p H2 G ∧ Pu G p ∧ ∃ ns : List Int, acc = ns.map V.int ∧ ns.length = i) (lt1000 (by omega)) ⟨SameX.refl, hp2, [], rfl, rfl⟩ (fun D i acc H' hi hD hDl hq f => ⟨rfl, ?_⟩) (fun D H' acc hD hDl hq f => ?_)
    · obtain ⟨s3, hp3, ns, rfl, hns⟩ := f
      have hp3' : Pu H' p := hp3.same off_same
      refine way_t ?_
      walk_at "w"
      refine ⟨hp3', hm1, hm2, fun d4 H4 a b s4 hp4 => ?_⟩
      have nD : D ≠ p := hp2.ne hD
      walk_at "w"
      refine ⟨⟨by decide, by decide⟩, ?_⟩
      refine ⟨s4 _ _ nD hDl, s3.trans ?_, ?_, ns ++ [d4 - m / 2], by rw [List.map_append]; rfl, by rw [List.length_append, hns]; rfl⟩
      · exact fun b o n e => by
          obtain ⟨n2, e⟩ := off_some e
          rw [off_at n2]; exact s4 b o n e
      · obtain ⟨x, y, z, e⟩ := hp4
        exact ⟨x, y, z, by rw [off_at nD.symm]; exact e⟩
    · obtain ⟨s3, hp3, ns, rfl, hns⟩ := f
      have nD : D ≠ p := hp2.ne hD
      have hp3' : Pu H' p := hp3.same off_same
      walk_at "w"
      refine ⟨ns, SqL.of hDl, fun ns' p5 H5 pm pw hp5 s5 e5 => ?_⟩
      have s6 : SameX p H H' := (SameX.of s1).trans (s2.trans (s3.trans (SameX.of off_same)))
      exact k ns' p5 H5 (by rw [pm.length_eq, hns]) pw (s6.none_ hp3' hp5) (s6.trans (SameX.of s5)) (hp3'.same s5) e5
  next => exact h.elim

def sp__law_ranks (K : PySem.W.Frag) : Sp := fun vs H Q _ => match vs with
  | [.ref p, .int tk, .int mo] => Pu H p ∧ 0 < tk ∧ tk ≤ 1000 ∧ ∀ rk r H', RkOk rk tk.toNat → H r = none → SameX p H H' → Pu H' p → H' r = some (.lst (rk.map V.int)) → Q (.ref r) H'
  | _ => False
theorem inV_int (n : Int) (S : List Int) : inV (.int n) (S.map V.int) = decide (n ∈ S) := by
  induction S with
  | nil => rfl
  | cons a S ih =>
    unfold inV at ih ⊢
    rw [List.map_cons, List.any_cons, ih]
    by_cases h : n = a
    · subst h; simp [eqV]
    · have : ¬ a = n := fun q => h q.symm
      simp [eqV, h, this]
theorem flat_ints (S : List Int) : (S.map V.int).all flatV = true := by
  rw [List.all_eq_true]
  intro v hv
  obtain ⟨z, _, rfl⟩ := List.mem_map.mp hv
  rfl
/-- ranks drawn so far -/
structure RkD (rk : List Int) (m : Int) : Prop where
  ne : rk ≠ []
  nd : rk.Nodup
  bd : ∀ r ∈ rk, 1 ≤ r ∧ r ≤ m
theorem RkD.sorted {rk rk' : List Int} {m : Int} (h : RkD rk m) (hm : 0 ≤ m) (pm : rk'.Perm rk) (pw : rk'.Pairwise (· ≤ ·)) : RkOk rk' m.toNat := by
  refine ⟨fun e => ?_, ?_, fun r hr => (h.bd r (pm.mem_iff.mp hr)).1, fun r hr => by have := (h.bd r (pm.mem_iff.mp hr)).2; omega⟩
  · subst e
    exact h.ne (List.length_eq_zero_iff.mp (by simpa using pm.length_eq.symm))
  · have nd : rk'.Nodup := pm.nodup_iff.mpr h.nd
    exact (pw.and nd).imp fun ⟨a, b⟩ => by omega
theorem nine_at {d : Int} (h0 : 0 ≤ d) (h1 : d < 9) : ∃ n : Int, ([.int 0, .int 0, .int 0, .int 1, .int 1, .int 2, .int 3, .int 4, .int 9] : List V)[d.toNat]? = some (.int n) ∧ 0 ≤ n ∧ n ≤ 9 := by
  have : d.toNat = 0 ∨ d.toNat = 1 ∨ d.toNat = 2 ∨ d.toNat = 3 ∨ d.toNat = 4 ∨ d.toNat = 5 ∨ d.toNat = 6 ∨ d.toNat = 7 ∨ d.toNat = 8 := by omega
  rcases this with q | q | q | q | q | q | q | q | q <;> rw [q] <;> exact ⟨_, rfl, by decide, by decide⟩
theorem ok__law_ranks (tp : Top K mg) : FnN P w K mg base 2 "_law_ranks" [] (sp__law_ranks K) := by
  refine fn_by tp.f__law_ranks sc__law_ranks (fun vs H Q E h => by unfold sp__law_ranks at h; split at h <;> first | rfl | exact h.elim) (fun f cdv A outer s H vs Q E hr h => ⟨_, (pss_cons (ps_set (i := 3) sc__law_ranks.nd rfl (by first | exact Or.inl rfl | exact Or.inr rfl) (g_lst (pa_cons (pe_op op_addG pe_int (g_call (ok__law_draw tp) hr rfl (by omega) (pa_cons (gv 0) (pa_cons (gv 1) pa_nil)))) pa_nil))) (pss_cons (g_for PassesOwn.never rfl (w_range1 rfl tp.b_range (pa_cons (pe_op op_mulG (pe_ix (k_ix K rfl) (g_lst (pa_cons pe_int (pa_cons pe_int (pa_cons pe_int (pa_cons pe_int (pa_cons pe_int (pa_cons pe_int (pa_cons pe_int (pa_cons pe_int (pa_cons pe_int pa_nil)))))))))) (g_call (ok__law_draw tp) hr rfl (by omega) (pa_cons (gv 0) (pa_cons pe_int pa_nil))) (fun _ _ => rfl)) (pe_callTy c_int (by rfl) tp.b_int (by decide +kernel) (pa_cons (g_cmpV op_gtG (gv 2) pe_int (nomark _)) pa_nil))) pa_nil)) (pg_name (i := 4) sc__law_ranks.nd rfl (by first | exact Or.inl rfl | exact Or.inr rfl)) (pss_cons (ps_set (i := 5) sc__law_ranks.nd rfl (by first | exact Or.inl rfl | exact Or.inr rfl) (pe_op op_addG pe_int (g_call (ok__law_draw tp) hr rfl (by omega) (pa_cons (gv 0) (pa_cons (gv 1) pa_nil))))) (pss_one (g_if (PW.pt (g_and (g_cmp (k_ninG K rfl) (gv 5) (gv 3) (by with_unfolding_all rfl)) (pw_and1 (g_cmp op_ltG (pe_callB (k_len K rfl) (by rfl) tp.b_len (by decide +kernel) (pa_cons (gv 3) pa_nil)) (gv 2) (nomark _))))) (pss_one (ps_expr (pe_bm PySem.F.plainAttrs_list PySem.F.slot_list_append PySem.F.type_list_append m_append (gv 3) (pa_cons (gv 5) pa_nil)))) pss_nil)))) (pss_one (ps_ret (pe_callB (k_sorted K rfl) (by rfl) tp.b_sorted (by decide +kernel) (pa_cons (gv 3) pa_nil)))))), ?_⟩)
  unfold sp__law_ranks at h
  split at h
  next p tk mo =>
    obtain ⟨hp, h0, h1, k⟩ := h
    walk_at "w"
    refine ⟨hp, h0, by omega, fun d H1 d0 d1 s1 hp1 => ?_⟩
    walk_at "w"
    refine ⟨(by show 1 ≤ sizeLine; decide), fun p2 H2 hn2 s2 e2 => ?_⟩
    have hp2 := hp1.same s2
    have s02 : SameX p H H2 := s1.trans (SameX.of s2)
    have f2 : H p2 = none := s1.none_ hp1 hn2
    walk_at "w"
    refine ⟨(by show 9 ≤ sizeLine; decide), fun p3 H3 hn3 s3 e3 => ?_⟩
    refine ⟨hp2.same s3, by decide, by decide, fun d4 H4 a4 b4 s4 hp4 => ?_⟩
    have e4 := s4 _ _ (hp2.ne hn3) e3
    obtain ⟨n, hn, n0, n9⟩ := nine_at a4 b4
    walk_at "w"
    refine ⟨_, .int n, Or.inl (SqL.of e4), at_of (j := d4.toNat) (by omega) hn, ?_⟩
    walk_at "w"
    refine ⟨Or.inl (by omega), ?_⟩
    have hb : 0 ≤ n * (if decide (1 < mo) = true then 1 else 0) ∧ n * (if decide (1 < mo) = true then 1 else 0) ≤ 9 := by
      split
      · omega
      · omega
    generalize n * (if decide (1 < mo) = true then 1 else 0) = turns at hb ⊢
    refine ⟨by omega, ?_⟩
    have nep : p2 ≠ p := hp.ne f2
    have e24 : H4 p2 = some (.lst (([1 + d] : List Int).map V.int)) := s4 _ _ nep (s3 _ _ e2)
    refine forw_range (fun i σ G => ∃ v4 v5 rk, σ = [some (.ref p), some (.int tk), some (.int mo), some (.ref p2), v4, v5] ∧ SameX p H G ∧ Pu G p ∧ G p2 = some (.lst (rk.map V.int)) ∧ RkD rk tk ∧ rk.length ≤ i + 1)
      ⟨none, none, [1 + d], rfl, s02.trans ((SameX.of s3).trans s4), hp4, e24, ⟨by simp, by simp, fun r hr => by rw [List.mem_singleton.mp hr]; omega⟩, Nat.le_refl _⟩ ?_ ?_
    · rintro i σ G hi ⟨v4, v5, rk, rfl, sG, hpG, eG, rd, rl⟩
      walk_at "w"
      refine ⟨hpG, h0, by omega, fun d6 H6 a6 b6 s6 hp6 => ?_⟩
      have e6 := s6 _ _ nep eG
      walk_at "w"
      refine ⟨_, Or.inl (SqL.of e6), rfl, flat_ints rk, ?_⟩
      rw [inV_int]
      refine way_nd (fun hin => ?_) fun hin => ?_
      · walk_at "w"
        refine ⟨_, Or.inl (SqL.of e6), ?_⟩
        rw [List.length_map]
        walk_at "w"
        refine way_d (fun hl => ?_) fun hl => ?_
        · walk_at "w"
          refine ⟨Or.inl ⟨rfl, _, SqL.of e6⟩, ?_⟩
          refine ⟨_, e6, ?_, fun H7 s7 e7 => ?_⟩
          · rw [List.length_map]; exact lt1000 (by omega)
          · have hp7 : Pu H7 p := by
              obtain ⟨x, y, z, e⟩ := hp6
              exact ⟨x, y, z, s7 _ _ nep.symm e⟩
            have s67 : SameX p H H7 := fun b o nb eb => s7 b o (ne_of_none eb f2) (s6 b o nb (sG b o nb eb))
            refine ⟨_, _, rk ++ [1 + d6], rfl, s67, hp7, by rw [e7, List.map_append]; rfl, ⟨by simp, ?_, fun r hr => ?_⟩, by rw [List.length_append]; simp; omega⟩
            · rw [List.nodup_append]
              exact ⟨rd.nd, by simp, fun a ha b hb e => hin (by rw [List.mem_singleton.mp hb] at e; rw [← e]; exact ha)⟩
            · rcases List.mem_append.mp hr with q | q
              · exact rd.bd r q
              · rw [List.mem_singleton.mp q]; omega
        · exact ⟨_, _, rk, rfl, sG.trans s6, hp6, e6, rd, by omega⟩
      · refine way_f ?_
        exact ⟨_, _, rk, rfl, sG.trans s6, hp6, e6, rd, by omega⟩
    · rintro σ G ⟨v4, v5, rk, rfl, sG, hpG, eG, rd, rl⟩
      walk_at "w"
      refine ⟨rk, SqL.of eG, fun ns' p5 H5 pm pw hp5 s5 e5 => ?_⟩
      exact k ns' p5 H5 (rd.sorted (by omega) pm pw) (sG.none_ hpG hp5) (sG.trans (SameX.of s5)) (hpG.same s5) e5
  next => exact h.elim

def sp__law_split (K : PySem.W.Frag) : Sp := fun vs H Q _ => match vs with
  | [.ref p, .ref q] => ∃ ns : List Str, Pu H p ∧ H q = some (.lst (ns.map V.str)) ∧ 2 ≤ ns.length ∧ ns.length ≤ 46 ∧
    ∀ (Rs : List (List Str)) us r H', (∀ R ∈ Rs, R ≠ [] ∧ R.length < ns.length) → Rs ≠ [] → Rs.length ≤ 46 → Rs.flatten.Perm ns → LS (fresh H H') Rs us → SameX p H H' → Pu H' p → fresh H H' r = some (.lst us) → Q (.ref r) H'
  | _ => False
theorem ok__law_split (tp : Top K mg) : FnN P w K mg base 2 "_law_split" [] (sp__law_split K) := by
  refine fn_by tp.f__law_split sc__law_split (fun vs H Q E h => by unfold sp__law_split at h; split at h <;> first | rfl | exact h.elim) (fun f cdv A outer s H vs Q E hr h => ⟨_, (pss_cons (g_setLc (i := 2) rfl sc__law_split.nd rfl rfl (sw_true rfl rfl rfl (by decide +kernel)) (w_range1 rfl tp.b_range (pa_cons (pe_op op_addG pe_int (g_call (ok__law_draw tp) hr rfl (by omega) (pa_cons (gv 0) (pa_cons pe_int pa_nil)))) pa_nil)) (blkOk_by (own := [("k", 4)]) (N := (["purse", "names", "rows", "name", "k", "row"] : List Str)) (sc := defScope s__law_split) (by decide +kernel)) (fun _ _ _ _ _ => pg_name (i := 4) sc__law_split.nd rfl (Or.inl rfl)) (fun _ _ _ _ _ => pts_nil) (fun _ _ _ _ _ => (g_lst pa_nil))) (pss_cons (g_for PassesOwn.never rfl (kw_list K rfl (gv 1)) (pg_name (i := 3) sc__law_split.nd rfl (by first | exact Or.inl rfl | exact Or.inr rfl)) (pss_one (ps_expr (pe_bm PySem.F.plainAttrs_list PySem.F.slot_list_append PySem.F.type_list_append m_append (pe_ix (k_ix K rfl) (gv 2) (g_call (ok__law_draw tp) hr rfl (by omega) (pa_cons (gv 0) (pa_cons (pe_callB (k_len K rfl) (by rfl) tp.b_len (by decide +kernel) (pa_cons (gv 2) pa_nil)) pa_nil))) (fun _ _ => rfl)) (pa_cons (gv 3) pa_nil))))) (pss_cons (g_setLc (i := 2) rfl sc__law_split.nd rfl rfl (sw_true rfl rfl rfl (by decide +kernel)) (kw_list K rfl (gv 2)) (blkOk_by (own := [("row", 5)]) (N := (["purse", "names", "rows", "name", "k", "row"] : List Str)) (sc := defScope s__law_split) (by decide +kernel)) (fun _ _ _ _ _ => pg_name (i := 5) sc__law_split.nd rfl (Or.inl rfl)) (fun _ _ _ _ _ => (pts_one (g_cmp (k_neG K rfl hr.units) (gv 5) (g_lst pa_nil) (nomark _)))) (fun _ _ _ _ _ => (gv 5))) (pss_cons (g_if (g_cmp (k_eqG K rfl hr.units) (pe_callB (k_len K rfl) (by rfl) tp.b_len (by decide +kernel) (pa_cons (gv 2) pa_nil)) pe_int (nomark _)) (pss_one (ps_ret (g_lst (pa_cons (pe_slice (k_sl K rfl) (gv 1) po_none (po_some pe_int)) (pa_cons (pe_slice (k_sl K rfl) (gv 1) (po_some pe_int) po_none) pa_nil))))) pss_nil) (pss_one (ps_ret (gv 2))))))), ?_⟩)
  unfold sp__law_split at h
  split at h
  next p q =>
    obtain ⟨ns, hp, hq, h2, h46, k⟩ := h
    have hpq : q ≠ p := by rintro rfl; obtain ⟨x, y, z, e⟩ := hp; rw [hq] at e; cases ns with
      | nil => simp at e
      | cons a l => simp at e
    walk_at "w"
    refine ⟨hp, by decide, by decide, fun d H1 d0 d1 s1 hp1 => ?_⟩
    refine ⟨by omega, ?_⟩
    have hn : (2 + d).toNat = 2 + d.toNat := by omega
    rw [hn]
    refine comp_range (fun i acc G => Same H1 G ∧ LS (fresh H1 G) (List.replicate i []) acc ∧ acc.Nodup) (lt1000 (by omega)) ⟨Same.refl _, rfl, List.nodup_nil⟩ (fun D i acc H' hi hD hDl hq' f => ⟨rfl, ?_⟩) (fun D H' acc hD hDl hq' f => ?_)
    · obtain ⟨s2, ls, nd⟩ := f
      refine way_t ?_
      walk_at "w"
      refine ⟨(by show 0 ≤ sizeLine; decide), fun p3 H3 hp3 s3 e3 => ?_⟩
      have n3 : p3 ≠ D := (ne_of_none hDl hp3).symm
      refine ⟨s3 _ _ hDl, s2.trans (off_mono s3), ?_, ?_⟩
      · rw [List.replicate_succ']
        have f3 : H1 p3 = none := by
          cases hz : H1 p3 with
          | none => rfl
          | some o => rw [(s2.trans off_same) _ _ hz] at hp3; cases hp3
        refine (ls.mono fun b o e => ?_).app (LS.one (fresh_at f3 (by rw [off_at n3, e3]; rfl)))
        obtain ⟨n, e⟩ := fresh_some e
        exact fresh_at n (off_mono s3 _ _ e)
      · rw [List.nodup_append]
        refine ⟨nd, by simp, fun a ha b hb e => ?_⟩
        rw [List.mem_singleton.mp hb] at e
        obtain ⟨q2, o, e2, e3'⟩ := ls.mem a ha
        rw [e2] at e
        cases e
        have := (fresh_some e3').2
        rw [off_at n3, hp3] at this; cases this
    · obtain ⟨s2, ls, nd⟩ := f
      have s3 : Same H1 H' := s2.trans off_same
      have hp' := hp1.same s3
      have sH : SameX p H H' := s1.trans (SameX.of s3)
      have fD : H D = none := s1.none_ hp1 hD
      have nDp : D ≠ p := hp.ne fD
      walk_at "w"
      refine forw_list (xs := ns.map V.str) (fun i σ G => ∃ v3 Rs us, σ = [some (.ref p), some (.ref q), some (.ref D), v3, none, none] ∧ SameX p H G ∧ Pu G p ∧ G D = some (.lst us) ∧ Rs.length = 2 + d.toNat ∧ LS (off D (fresh H G)) Rs us ∧ us.Nodup ∧ Rs.flatten.Perm (ns.take i))
        ⟨none, _, acc, rfl, sH, hp', hDl, List.length_replicate .., ls.mono (fun b o e => ?_), nd, by rw [flat_rep]; exact List.Perm.refl _⟩ (fun i σ G _ ⟨_, _, _, _, sG, _⟩ => SqL.of (sG _ _ hpq hq)) ?_ ?_
      · obtain ⟨n, e⟩ := fresh_some e
        obtain ⟨n2, e⟩ := off_some e
        rw [off_at n2]
        exact fresh_at (s1.none_ hp1 n) e
      · rintro i x σ G hx ⟨v3, Rs, us, rfl, sG, hpG, eG, rl, lsG, ndG, pm⟩
        obtain ⟨n, hn, rfl⟩ := map_atG hx
        have hus := lsG.length
        walk_at "w"
        refine ⟨_, Or.inl (SqL.of eG), ?_⟩
        rw [hus, rl]
        refine ⟨hpG, by omega, by omega, fun d6 H6 a6 b6 s6 hp6 => ?_⟩
        have eG6 := s6 _ _ nDp eG
        obtain ⟨R, q7, hR, hu7, hq7⟩ : ∃ R q7, Rs[d6.toNat]? = some R ∧ us[d6.toNat]? = some (.ref q7) ∧ off D (fresh H G) q7 = some (.lst (R.map V.str)) := by
          have hlt : d6.toNat < us.length := by omega
          obtain ⟨R, q7, a, b, c⟩ := lsG.at_ (List.getElem?_eq_getElem hlt)
          exact ⟨R, q7, a, by rw [List.getElem?_eq_getElem hlt, b], c⟩
        obtain ⟨n7, hq7⟩ := off_some hq7
        obtain ⟨f7, hq7⟩ := fresh_some hq7
        have n7p : q7 ≠ p := hp.ne f7
        have e67 := s6 _ _ n7p hq7
        walk_at "w"
        refine ⟨_, .ref q7, Or.inl (SqL.of eG6), at_of (j := d6.toNat) (by omega) hu7, ?_⟩
        walk_at "w"
        refine ⟨Or.inl ⟨rfl, _, SqL.of e67⟩, ?_⟩
        have hRl : R.length ≤ 46 := by
          have := (List.sublist_flatten_of_mem (List.mem_of_getElem? hR)).length_le
          rw [pm.length_eq, List.length_take] at this
          omega
        refine ⟨_, e67, ?_, fun H8 s8 e8 => ?_⟩
        · rw [List.length_map]; exact lt1000 (by omega)
        · have hp8 : Pu H8 p := by
            obtain ⟨x, y, z, e⟩ := hp6
            exact ⟨x, y, z, s8 _ _ n7p.symm e⟩
          refine ⟨_, Rs.set d6.toNat (R ++ [n]), us, rfl, fun b o nb eb => s8 b o (ne_of_none eb f7) (s6 b o nb (sG b o nb eb)), hp8, s8 _ _ n7.symm eG6, by rw [List.length_set, rl], ?_, ndG, ?_⟩
          · refine lsG.put (q := q7) (fun b o nb e => ?_) ?_ ndG hu7
            · obtain ⟨n1, e⟩ := off_some e
              obtain ⟨n2, e⟩ := fresh_some e
              rw [off_at n1]
              exact fresh_at n2 (s8 _ _ nb (s6 _ _ (hp.ne n2) e))
            · rw [off_at n7]
              exact fresh_at f7 (by rw [e8, List.map_append]; rfl)
          · rw [List.take_add_one, hn]
            exact (flat_put hR).trans (pm.append_right _)
      · rintro σ G ⟨v3, Rs, us, rfl, sG, hpG, eG, rl, lsG, ndG, pm⟩
        rw [List.length_map, List.take_length] at pm
        have hus := lsG.length
        walk_at "w"
        refine comp_list (xs := us) (fun i acc G2 => Same G G2 ∧ LS (fresh H G) ((Rs.take i).filter fun R => !R.isEmpty) acc) (by rw [hus]; exact lt1000 (by omega)) ⟨Same.refl _, rfl⟩ (fun i acc G2 f => SqL.of (f.1 _ _ eG)) (fun D2 i x acc G2 hx hD2 hDl2 hq2 f => ⟨rfl, ?_⟩) (fun D2 G2 acc hD2 hDl2 hq2 f => ?_)
        · obtain ⟨s9, ls9⟩ := f
          obtain ⟨R, q7, hR, rfl, hq7⟩ := lsG.at_ hx
          obtain ⟨n7, hq7⟩ := off_some hq7
          have e := filt_take (p := fun R : List Str => !R.isEmpty) hR
          walk_at "w"
          refine ⟨(by show 0 ≤ sizeLine; decide), fun p10 H10 hp10 s10 e10 => Or.inl ⟨_, SqL.of (s10 _ _ (s9.trans off_same _ _ (fresh_some hq7).2)), e10, ?_⟩⟩
          have ee : (R.map V.str).isEmpty = R.isEmpty := by cases R <;> rfl
          rw [ee]
          have keep : H10 D2 = some (.lst acc) := s10 _ _ hDl2
          have same : Same G (off D2 H10) := s9.trans (off_mono s10)
          refine way_n (fun c => ?_) fun c => ?_
          · refine ⟨keep, same, ?_⟩
            rw [e, if_pos (by rw [c]; rfl)]
            exact ls9.app (LS.one hq7)
          · refine ⟨keep, same, ?_⟩
            rw [e, if_neg (by rw [c]; decide), List.append_nil]
            exact ls9
        · obtain ⟨s9, ls9⟩ := f
          rw [hus, List.take_length] at ls9
          have s10 : Same G G2 := s9.trans off_same
          have fl : (Rs.filter fun R => !R.isEmpty).flatten.Perm ns := by rw [flat_filter]; exact pm
          have hne : ∀ R ∈ Rs.filter (fun R => !R.isEmpty), R ≠ [] := fun R hR e => by
            have := (List.mem_filter.mp hR).2
            rw [e] at this; exact absurd this (by decide)
          have hll : (Rs.filter fun R => !R.isEmpty).length ≤ 46 := Nat.le_trans (List.length_filter_le _ _) (by omega)
          have pG2 := hpG.same s10
          have sG2 : SameX p H G2 := sG.trans (SameX.of s10)
          have hal := ls9.length
          walk_at "w"
          refine ⟨_, Or.inl (SqL.of hDl2), ?_⟩
          walk_at "w"
          refine way_d (fun c => ?_) fun c => ?_
          · walk_at "w"
            have eq2 := sG2 _ _ hpq hq
            refine ⟨_, rfl, ?_⟩
            refine ⟨_, SqL.of eq2, fun p11 H11 hp11 s11 e11 => ?_⟩
            rw [cutV_take1] at e11
            walk_at "w"
            refine ⟨_, rfl, ?_⟩
            refine ⟨_, SqL.of (s11 _ _ eq2), fun p12 H12 hp12 s12 e12 => ?_⟩
            rw [cutV_drop1] at e12
            refine ⟨(by show 2 ≤ sizeLine; decide), fun p13 H13 hp13 s13 e13 => ?_⟩
            have f11 : H p11 = none := sG2.none_ pG2 hp11
            have f12 : H p12 = none := sG2.none_ pG2 (by
              cases hz : G2 p12 with
              | none => rfl
              | some o => rw [s11 _ _ hz] at hp12; cases hp12)
            have f13 : H p13 = none := sG2.none_ pG2 (by
              cases hz : G2 p13 with
              | none => rfl
              | some o => rw [(s11.trans s12) _ _ hz] at hp13; cases hp13)
            refine k [ns.take 1, ns.drop 1] [.ref p11, .ref p12] p13 H13 (fun R hR => ?_) (by simp) (by simp) (by show (ns.take 1 ++ (ns.drop 1 ++ [])).Perm ns; rw [List.append_nil, List.take_append_drop]) ?_ (sG2.trans (SameX.of (s11.trans (s12.trans s13)))) (pG2.same (s11.trans (s12.trans s13))) (fresh_at f13 e13)
            · rcases List.mem_cons.mp hR with z | z
              · subst z
                refine ⟨fun e => ?_, by rw [List.length_take]; omega⟩
                have := congrArg List.length e
                rw [List.length_take, List.length_nil] at this
                omega
              · rw [List.mem_singleton.mp z]
                refine ⟨fun e => ?_, by rw [List.length_drop]; omega⟩
                have := congrArg List.length e
                rw [List.length_drop, List.length_nil] at this
                omega
            · exact ⟨p11, _, rfl, fresh_at f11 (by rw [(s12.trans s13) _ _ e11, List.map_take]), p12, _, rfl, fresh_at f12 (by rw [s13 _ _ e12, List.map_drop]), rfl⟩
          · have c2 : ¬ (acc.length = 1) := fun z => c (by rw [z]; rfl)
            have l2 : 2 ≤ (Rs.filter fun R => !R.isEmpty).length := by
              rcases Nat.lt_or_ge (Rs.filter fun R => !R.isEmpty).length 2 with z | z
              · exfalso
                have z0 : (Rs.filter fun R => !R.isEmpty).length = 0 := by omega
                rw [List.length_eq_zero_iff.mp z0] at fl
                have := fl.length_eq
                simp at this; omega
              · exact z
            walk_at "w"
            refine k _ acc D2 G2 (fun R hR => ⟨hne R hR, ?_⟩) (by intro e; rw [e] at l2; simp at l2) hll fl (ls9.mono (fresh_later hp (SameX.of s10))) sG2 pG2 (fresh_at (sG.none_ hpG hD2) hDl2)
            have := flat_lt hne l2 R hR
            rw [fl.length_eq] at this
            exact this
  next => exact h.elim

def sp__law_called (K : PySem.W.Frag) : Sp := fun vs H Q _ => match vs with
  | [.ref p, .int m] => Pu H p ∧ 0 ≤ m ∧ m ≤ 46 ∧ ∀ (ns : List Str) r H', ns.length = m.toNat → ns.Nodup → (∀ z ∈ ns, IsNm z) → H r = none → SameX p H H' → Pu H' p → H' r = some (.lst (ns.map V.str)) → Q (.ref r) H'
  | _ => False
theorem tls_at {d : Int} (h0 : 0 ≤ d) (h1 : d < 5) : ∃ z, (tls.map V.str)[d.toNat]? = some (.str z) ∧ z ∈ tls := by
  have : d.toNat < tls.length := by
    have e : tls.length = 5 := rfl
    omega
  refine ⟨tls[d.toNat], ?_, List.getElem_mem this⟩
  rw [List.getElem?_map, List.getElem?_eq_getElem this]
  rfl
theorem let_at (i sh : Nat) : atI ("abcdefghijklmnopqrstuvw" : Str).cps.toList (((0 : Int) + (i : Int) + (sh : Int)) % 23) = some (letAt i sh) := by
  have e : ((0 : Int) + (i : Int) + (sh : Int)) % 23 = (((i + sh) % 23 : Nat) : Int) := by omega
  rw [e]
  have h : (i + sh) % 23 < lets.length := by rw [lets_len]; exact Nat.mod_lt _ (by omega)
  refine atI_nat ?_
  show lets[(i + sh) % 23]? = _
  rw [List.getElem?_eq_getElem h]
  unfold letAt
  rw [List.getD_eq_getElem?_getD, List.getElem?_eq_getElem h]
  rfl
theorem str_q (y : Nat) : decide ((⟨#[y]⟩ : Str) = "q") = decide (y = 113) := by
  have e : ("q" : Str) = ⟨#[113]⟩ := by decide +kernel
  rw [e]
  refine decide_eq_decide.mpr ⟨fun h => ?_, fun h => by rw [h]⟩
  have := congrArg (fun z : Str => z.cps.toList) h
  simpa using this
theorem q_alph : 113 ∈ alph ∧ 114 ∈ alph := by decide +kernel
theorem str_qr : ("q" : Str) = ⟨#[113]⟩ ∧ ("r" : Str) = ⟨#[114]⟩ := by decide +kernel
theorem app_cps (a b : Str) : (a ++ b).cps.toList = a.cps.toList ++ b.cps.toList := by
  show (a.cps ++ b.cps).toList = _
  simp
theorem lst_pos {z : Str} (h : IsNm z) : ∃ y, z.cps.toList.getLast? = some y := by
  have n : z.cps.toList ≠ [] := by
    intro e
    have h1 := h.1
    have : z.length = z.cps.toList.length := by rw [Array.length_toList]; rfl
    rw [this, e] at h1
    simp at h1
  exact ⟨_, List.getLast?_eq_some_getLast n⟩
def InvC (H : Hp) (p p1 : Addr) (m : Int) (sh i : Nat) (σ : L2.St) (G : Hp) : Prop := ∃ v4 v5 v6 v7 ns, σ = [some (.ref p), some (.int m), some (.ref p1), some (.int (sh : Int)), v4, v5, v6, v7] ∧ SameX p H G ∧ Pu G p ∧ G p1 = some (.lst (ns.map V.str)) ∧ Cd sh i ns
theorem InvC.step {H G G' : Hp} {p p1 : Addr} {m : Int} {sh i : Nat} {ns : List Str} {z : Str} {v4 v5 v6 v7 : Option V} (n1 : p1 ≠ p) (f1 : H p1 = none) (s : SameX p H G) (hp : Pu G p) (cd : Cd sh i (ns ++ [z])) (s8 : SameX p1 G G') (e8 : G' p1 = some (.lst (ns.map V.str ++ [.str z]))) :
    InvC H p p1 m sh i [some (.ref p), some (.int m), some (.ref p1), some (.int (sh : Int)), v4, v5, v6, v7] G' :=
  ⟨_, _, _, _, ns ++ [z], rfl, fun b o n e => s8 b o (ne_of_none e f1) (s b o n e), let ⟨x, y, z, e⟩ := hp; ⟨x, y, z, s8 _ _ n1.symm e⟩, by rw [e8, List.map_append]; rfl, cd⟩
theorem last_split {α : Type} {l : List α} (h : l ≠ []) : ∃ i x, l = i ++ [x] ∧ l.getLast? = some x :=
  ⟨l.dropLast, l.getLast h, (List.dropLast_concat_getLast h).symm, List.getLast?_eq_some_getLast h⟩
theorem ok__law_called (tp : Top K mg) : FnN P w K mg base 2 "_law_called" [] (sp__law_called K) := by
  refine fn_by tp.f__law_called sc__law_called (fun vs H Q E h => by unfold sp__law_called at h; split at h <;> first | rfl | exact h.elim) (fun f cdv A outer s H vs Q E hr h => ⟨_, (pss_cons (ps_par rfl sc__law_called.nd (i := 2) (j := 3) rfl rfl (by decide) rfl rfl (pa_cons (g_lst pa_nil) (pa_cons (g_call (ok__law_draw tp) hr rfl (by omega) (pa_cons (gv 0) (pa_cons pe_int pa_nil))) pa_nil)) rfl) (pss_cons (g_for PassesOwn.never rfl (w_range1 rfl tp.b_range (pa_cons (gv 1) pa_nil)) (pg_name (i := 4) sc__law_called.nd rfl (by first | exact Or.inl rfl | exact Or.inr rfl)) (pss_cons (ps_set (i := 5) sc__law_called.nd rfl (by first | exact Or.inl rfl | exact Or.inr rfl) (pe_ix (k_ix K rfl) pe_str (pe_op op_modG (pe_op op_addG (gv 4) (gv 3)) pe_int) (fun _ _ => rfl))) (pss_cons (ps_set (i := 6) sc__law_called.nd rfl (by first | exact Or.inl rfl | exact Or.inr rfl) (pe_ix (k_ix K rfl) (g_lst (pa_cons pe_str (pa_cons pe_str (pa_cons pe_str (pa_cons pe_str (pa_cons pe_str pa_nil)))))) (g_call (ok__law_draw tp) hr rfl (by omega) (pa_cons (gv 0) (pa_cons pe_int pa_nil))) (fun _ _ => rfl))) (pss_cons (ps_set (i := 7) sc__law_called.nd rfl (by first | exact Or.inl rfl | exact Or.inr rfl) (pe_op op_addG (pe_op op_mulG (gv 5) (pe_op op_addG pe_int (pe_op op_fdivG (gv 4) pe_int))) (gv 6))) (pss_cons (g_if (PW.pt (g_and (g_cmp (k_neG K rfl hr.units) (gv 2) (g_lst pa_nil) (nomark _)) (g_and (g_cmp op_ltG (pe_callB (k_len K rfl) (by rfl) tp.b_len (by decide +kernel) (pa_cons (pe_ix (k_ix K rfl) (gv 2) (pe_un un_negG pe_int) (fun _ _ => rfl)) pa_nil)) pe_int (nomark _)) (pw_and1 (g_cmp (k_eqG K rfl hr.units) (g_call (ok__law_draw tp) hr rfl (by omega) (pa_cons (gv 0) (pa_cons pe_int pa_nil))) pe_int (nomark _)))))) (pss_one (ps_set (i := 7) sc__law_called.nd rfl (by first | exact Or.inl rfl | exact Or.inr rfl) (pe_op op_addG (pe_ix (k_ix K rfl) (gv 2) (pe_un un_negG pe_int) (fun _ _ => rfl)) (g_ifE (g_cmp (k_eqG K rfl hr.units) (pe_slice (k_sl K rfl) (pe_ix (k_ix K rfl) (gv 2) (pe_un un_negG pe_int) (fun _ _ => rfl)) (po_some (pe_un un_negG pe_int)) po_none) pe_str (nomark _)) pe_str pe_str)))) pss_nil) (pss_one (ps_expr (pe_bm PySem.F.plainAttrs_list PySem.F.slot_list_append PySem.F.type_list_append m_append (gv 2) (pa_cons (gv 7) pa_nil))))))))) (pss_one (ps_ret (gv 2))))), ?_⟩)
  unfold sp__law_called at h
  split at h
  next p m =>
    obtain ⟨hp, h0, h46, k⟩ := h
    walk_at "w"
    refine ⟨(by show 0 ≤ sizeLine; decide), fun p1 H1 hp1 s1 e1 => ?_⟩
    refine ⟨hp.same s1, by decide, by decide, fun d H2 d0 d1 s2 hp2 => ?_⟩
    have n1 : p1 ≠ p := hp.ne hp1
    have e2 := s2 _ _ n1 e1
    have s02 : SameX p H H2 := (SameX.of s1).trans s2
    obtain ⟨sh, rfl⟩ : ∃ sh : Nat, d = (sh : Int) := ⟨d.toNat, by omega⟩
    walk_at "w"
    refine ⟨_, _, rfl, ?_⟩
    walk_at "w"
    refine ⟨by omega, ?_⟩
    refine forw_range (InvC H p p1 m sh)
      ⟨none, none, none, none, [], rfl, s02, hp2, e2, Cd.nil sh⟩ ?_ ?_
    · rintro i σ G hi ⟨v4, v5, v6, v7, ns, rfl, sG, hpG, eG, cd⟩
      have hi46 : i < 46 := by omega
      walk_at "w"
      refine ⟨(by show (0 : Int) < _; decide), ?_⟩
      walk_at "w"
      refine ⟨_, (by show 23 ≤ sizeLine; decide), let_at i sh, ?_⟩
      walk_at "w"
      refine ⟨(by show 5 ≤ sizeLine; decide), fun p3 H3 hp3 s3 e3 => ?_⟩
      refine ⟨hpG.same s3, by decide, by decide, fun d4 H4 a4 b4 s4 hp4 => ?_⟩
      have e34 := s4 _ _ (hpG.ne hp3) e3
      have eG4 := s4 _ _ n1 (s3 _ _ eG)
      have sG4 : SameX p H H4 := sG.trans ((SameX.of s3).trans s4)
      obtain ⟨tl, htl, htm⟩ := tls_at a4 b4
      walk_at "w"
      refine ⟨_, .str tl, Or.inl (SqL.of e34), at_of (j := d4.toNat) (by omega) htl, ?_⟩
      walk_at "w"
      refine ⟨⟨by decide, by decide⟩, ?_⟩
      have er : (1 : Int) + ((0 : Int) + (i : Int)) / 23 = ((1 + i / 23 : Nat) : Int) := by omega
      obtain ⟨mo, me⟩ := mul_ch (letAt i sh) (1 + i / 23) (by omega) (by omega)
      walk_at "w"
      rw [er]
      refine ⟨mo, ?_⟩
      rw [me]
      walk_at "w"
      have tlen := (tls_ok tl htm).1
      have rlen : (⟨(List.replicate (1 + i / 23) (letAt i sh)).toArray⟩ : Str).length = 1 + i / 23 := by
        show (List.replicate (1 + i / 23) (letAt i sh)).toArray.size = _
        simp
      refine ⟨?_, ?_⟩
      · rw [rlen]; exact Nat.le_trans (by omega : _ ≤ 1000) (by decide)
      have fr : Cd sh (i + 1) (ns ++ [(⟨(List.replicate (1 + i / 23) (letAt i sh)).toArray⟩ : Str) ++ tl]) := cd.fresh hi46 htm (by rw [app_cps])
      generalize (⟨(List.replicate (1 + i / 23) (letAt i sh)).toArray⟩ : Str) ++ tl = nm at fr ⊢
      have l46 := cd.len
      walk_at "w"
      refine ⟨(by show 0 ≤ sizeLine; decide), fun p5 H5 hp5 s5 e5 => Or.inl ⟨_, SqL.of (s5 _ _ eG4), e5, ?_⟩⟩
      have eG5 := s5 _ _ eG4
      have hp55 := hp4.same s5
      have sG5 : SameX p H H5 := sG4.trans (SameX.of s5)
      refine way_n (fun c => ?_) fun c => ?_
      · have nne : ns ≠ [] := by
          rintro rfl
          exact absurd c (by decide)
        obtain ⟨ini, l, el, gl⟩ := last_split nne
        have lat : atI (ns.map V.str) (-1) = some (.str l) := by rw [el, List.map_append]; exact atI_last _ _
        have lm : l ∈ ns := by rw [el]; simp
        have lnm := (cd.nm l lm).1
        obtain ⟨y, hy⟩ := lst_pos lnm
        walk_at "w"
        refine ⟨_, .str l, Or.inl (SqL.of eG5), lat, ?_⟩
        refine ⟨Nat.le_trans lnm.2.1 (by decide), ?_⟩
        walk_at "w"
        refine way_d (fun c8 => ?_) fun c8 => ?_
        · walk_at "w"
          refine ⟨hp55, by decide, by decide, fun d6 H6 a6 b6 s6 hp6 => ?_⟩
          have eG6 := s6 _ _ n1 eG5
          have sG6 := sG5.trans s6
          walk_at "w"
          refine way_d (fun c0 => ?_) fun c0 => ?_
          · walk_at "w"
            refine ⟨_, .str l, Or.inl (SqL.of eG6), lat, ?_⟩
            walk_at "w"
            refine ⟨_, .str l, Or.inl (SqL.of eG6), lat, ?_⟩
            refine ⟨_, rfl, ?_⟩
            refine ⟨Nat.le_trans lnm.2.1 (by decide), ?_⟩
            rw [cutS_last hy]
            walk_at "w"
            rw [str_q]
            refine way_d (fun cq => ?_) fun cq => ?_
            · walk_at "w"
              refine ⟨Nat.le_trans (Nat.add_le_add_right lnm.2.1 _) (by decide +kernel), ?_⟩
              walk_at "w"
              refine ⟨Or.inl ⟨rfl, _, SqL.of eG6⟩, _, eG6, by rw [List.length_map]; exact lt1000 (by omega), fun H8 s8 e8 => InvC.step n1 hp1 sG6 hp6 (cd.chain gl (by omega) q_alph.2 hy (by omega) ?_) s8 e8⟩
              rw [app_cps, str_qr.2]
            · walk_at "w"
              refine ⟨Nat.le_trans (Nat.add_le_add_right lnm.2.1 _) (by decide +kernel), ?_⟩
              walk_at "w"
              refine ⟨Or.inl ⟨rfl, _, SqL.of eG6⟩, _, eG6, by rw [List.length_map]; exact lt1000 (by omega), fun H8 s8 e8 => InvC.step n1 hp1 sG6 hp6 (cd.chain gl (by omega) q_alph.1 hy cq ?_) s8 e8⟩
              rw [app_cps, str_qr.1]
          · walk_at "w"
            exact ⟨Or.inl ⟨rfl, _, SqL.of eG6⟩, _, eG6, by rw [List.length_map]; exact lt1000 (by omega), fun H8 s8 e8 => InvC.step n1 hp1 sG6 hp6 fr s8 e8⟩
        · walk_at "w"
          refine way_f ?_
          walk_at "w"
          exact ⟨Or.inl ⟨rfl, _, SqL.of eG5⟩, _, eG5, by rw [List.length_map]; exact lt1000 (by omega), fun H8 s8 e8 => InvC.step n1 hp1 sG5 hp55 fr s8 e8⟩
      · refine way_f ?_
        walk_at "w"
        exact ⟨Or.inl ⟨rfl, _, SqL.of eG5⟩, _, eG5, by rw [List.length_map]; exact lt1000 (by omega), fun H8 s8 e8 => InvC.step n1 hp1 sG5 hp55 fr s8 e8⟩
    · rintro σ G ⟨v4, v5, v6, v7, ns, rfl, sG, hpG, eG, cd⟩
      walk_at "w"
      exact k ns p1 G (by rw [cd.len]) cd.nd (fun z hz => (cd.nm z hz).1) hp1 sG hpG eG
  next => exact h.elim

def sp__law_grown (K : PySem.W.Frag) (n : Nat) : Sp := fun vs H Q _ => match vs with
  | [.ref p, .ref q, .int mo] => ∃ ns : List Str, Pu H p ∧ H q = some (.lst (ns.map V.str)) ∧ 1 ≤ ns.length ∧ ns.length ≤ 46 ∧ ns.length < n ∧ (∀ z ∈ ns, IsNm z) ∧
    ∀ t v H', SameX p H H' → Pu H' p → LT (fresh H H') t v → t.Sh → t.names.Perm ns → t.depth ≤ ns.length → Q v H'
  | _ => False
theorem RkOk.one {m : Nat} (h : 1 ≤ m) : RkOk [1] m := ⟨by simp, by simp, fun r hr => by rw [List.mem_singleton.mp hr]; exact Int.le_refl _, fun r hr => by rw [List.mem_singleton.mp hr]; omega⟩
theorem T.namesL_snoc (ts : List T) (t : T) : T.namesL (ts ++ [t]) = T.namesL ts ++ t.names := by
  rw [T.namesL_eq, T.namesL_eq, List.flatMap_append]
  simp
theorem T.depthL_lt {n : Nat} : ∀ {ts : List T}, (∀ t ∈ ts, t.depth < n) → ts ≠ [] → T.depthL ts < n
  | [], _, h => absurd rfl h
  | [t], h, _ => by rw [T.depthL, T.depthL]; have := h t (List.mem_cons_self ..); omega
  | t :: u :: ts, h, _ => by
    have a := h t (List.mem_cons_self ..)
    have b := T.depthL_lt (n := n) (ts := u :: ts) (fun t ht => h t (List.mem_cons_of_mem _ ht)) (by simp)
    rw [T.depthL]; omega
/-- the parts grown from the first rows -/
structure Grw (ts : List T) (Rs : List (List Str)) (m : Nat) : Prop where
  sh : T.ShL ts
  pm : (T.namesL ts).Perm Rs.flatten
  dp : ∀ t ∈ ts, t.depth < m
theorem Grw.snoc {ts : List T} {Rs : List (List Str)} {m : Nat} (g : Grw ts Rs m) {t : T} {R : List Str} (h1 : t.Sh) (h2 : t.names.Perm R) (h3 : t.depth ≤ R.length) (h4 : R.length < m) : Grw (ts ++ [t]) (Rs ++ [R]) m := by
  refine ⟨T.ShL_iff.mpr fun u hu => ?_, ?_, fun u hu => ?_⟩
  · rcases List.mem_append.mp hu with z | z
    · exact T.ShL_iff.mp g.sh u z
    · rw [List.mem_singleton.mp z]; exact h1
  · rw [T.namesL_snoc, List.flatten_append]
    have e : [R].flatten = R := by simp
    rw [e]
    exact g.pm.append h2
  · rcases List.mem_append.mp hu with z | z
    · exact g.dp u z
    · rw [List.mem_singleton.mp z]; omega
theorem T.taken_pos : ∀ {ts : List T}, T.ShL ts → ts ≠ [] → 1 ≤ T.taken ts
  | [], _, h => absurd rfl h
  | t :: ts, h, _ => by
    rw [T.ShL] at h
    have : 1 ≤ t.width := by
      cases t with
      | leaf z => exact Nat.le_refl _
      | grp rk ps =>
        have := h.1
        rw [T.Sh] at this
        exact pos_len this.2.1.ne
    rw [T.taken]; omega
theorem ok__law_grown (tp : Top K mg) : ∀ n, FnN P w K mg base (n + 3) "_law_grown" [] (sp__law_grown K n)
  | 0 => by
    refine fn_by tp.f__law_grown sc__law_grown (fun vs H Q E h => by unfold sp__law_grown at h; split at h <;> first | rfl | exact h.elim) (fun f cdv A outer s H vs Q E hr h => ?_)
    exfalso
    unfold sp__law_grown at h
    split at h
    next p q mo => obtain ⟨ns, _, _, _, _, h, _⟩ := h; omega
    next => exact h
  | n + 1 => by
    have ih := ok__law_grown tp n
    refine fn_by tp.f__law_grown sc__law_grown (fun vs H Q E h => by unfold sp__law_grown at h; split at h <;> first | rfl | exact h.elim) (fun f cdv A outer s H vs Q E hr h => ⟨_, (pss_cons (g_if (g_cmp (k_eqG K rfl hr.units) (pe_callB (k_len K rfl) (by rfl) tp.b_len (by decide +kernel) (pa_cons (gv 1) pa_nil)) pe_int (nomark _)) (pss_one (ps_ret (g_ifE (g_cmp op_gtG (g_call (ok__law_draw tp) hr rfl (by omega) (pa_cons (gv 0) (pa_cons pe_int pa_nil))) pe_int (nomark _)) (pe_ix (k_ix K rfl) (gv 1) pe_int (fun _ _ => rfl)) (g_tup (pa_cons pe_str (pa_cons (g_lst (pa_cons pe_int pa_nil)) (pa_cons (g_lst (pa_cons (pe_ix (k_ix K rfl) (gv 1) pe_int (fun _ _ => rfl)) pa_nil)) pa_nil))))))) pss_nil) (pss_cons (g_setLc (i := 3) rfl sc__law_grown.nd rfl rfl (sw_true rfl rfl rfl (by decide +kernel)) (kw_list K rfl (g_call (ok__law_split tp) hr rfl (by omega) (pa_cons (gv 0) (pa_cons (gv 1) pa_nil)))) (blkOk_by (own := [("row", 5)]) (N := (["purse", "names", "most", "parts", "taken", "row", "part"] : List Str)) (sc := defScope s__law_grown) (by decide +kernel)) (fun _ _ _ _ _ => pg_name (i := 5) sc__law_grown.nd rfl (Or.inl rfl)) (fun _ _ _ _ _ => pts_nil) (fun _ _ _ _ _ => (g_call (ih) hr rfl (by omega) (pa_cons (gv 0) (pa_cons (gv 5) (pa_cons (gv 2) pa_nil)))))) (pss_cons (ps_set (i := 4) sc__law_grown.nd rfl (by first | exact Or.inl rfl | exact Or.inr rfl) (pe_callB (k_sum K rfl rfl) (by rfl) tp.b_sum (by decide +kernel) (pa_cons (g_lc rfl sc__law_grown.nd (kw_list K rfl (gv 3)) (blkOk_by (own := [("part", 6)]) (N := (["purse", "names", "most", "parts", "taken", "row", "part"] : List Str)) (sc := defScope s__law_grown) (by decide +kernel)) (fun _ _ _ _ _ => pg_name (i := 6) sc__law_grown.nd rfl (Or.inl rfl)) (fun _ _ _ _ _ => pts_nil) (fun _ _ _ _ _ => (g_call (ok__law_width tp) hr rfl (by omega) (pa_cons (gv 6) pa_nil)))) pa_nil))) (pss_one (ps_ret (g_tup (pa_cons pe_str (pa_cons (g_call (ok__law_ranks tp) hr rfl (by omega) (pa_cons (gv 0) (pa_cons (gv 4) (pa_cons (gv 2) pa_nil)))) (pa_cons (gv 3) pa_nil))))))))), ?_⟩)
    unfold sp__law_grown at h
    split at h
    next p q mo =>
      obtain ⟨ns, hp, hq, h1, h46, hn, hnm, k⟩ := h
      have hpq : q ≠ p := by rintro rfl; obtain ⟨x, y, z, e⟩ := hp; rw [hq] at e; cases ns with
        | nil => simp at e
        | cons a l => simp at e
      walk_at "w"
      refine ⟨_, Or.inl (SqL.of hq), ?_⟩
      rw [List.length_map]
      walk_at "w"
      refine way_d (fun c => ?_) fun c => ?_
      · obtain ⟨a, rfl⟩ : ∃ a, ns = [a] := List.length_eq_one_iff.mp (by omega)
        have an := hnm a (List.mem_cons_self ..)
        walk_at "w"
        refine ⟨hp, by decide, by decide, fun d H1 d0 d1 s1 hp1 => ?_⟩
        have hq1 := s1 _ _ hpq hq
        walk_at "w"
        refine way_d (fun c1 => ?_) fun c1 => ?_
        · walk_at "w"
          refine ⟨_, .str a, Or.inl (SqL.of hq1), at_of (j := 0) rfl rfl, ?_⟩
          exact k (.leaf a) (.str a) H1 s1 hp1 rfl an (List.Perm.refl _) (Nat.zero_le _)
        · walk_at "w"
          refine ⟨(by show 1 ≤ sizeLine; decide), fun p2 H2 hp2 s2 e2 => ?_⟩
          walk_at "w"
          refine ⟨_, .str a, Or.inl (SqL.of (s2 _ _ hq1)), at_of (j := 0) rfl rfl, ?_⟩
          walk_at "w"
          refine ⟨(by show 1 ≤ sizeLine; decide), fun p3 H3 hp3 s3 e3 => ?_⟩
          walk_at "w"
          refine ⟨(by show 3 ≤ sizeLine; decide), fun p4 H4 hp4 s4 e4 => ?_⟩
          have f2 : H p2 = none := s1.none_ hp1 hp2
          have f3 : H p3 = none := s1.none_ hp1 (by
            cases hz : H1 p3 with
            | none => rfl
            | some o => rw [s2 _ _ hz] at hp3; cases hp3)
          have f4 : H p4 = none := s1.none_ hp1 (by
            cases hz : H1 p4 with
            | none => rfl
            | some o => rw [(s2.trans s3) _ _ hz] at hp4; cases hp4)
          have s14 : Same H1 H4 := s2.trans (s3.trans s4)
          refine k (.grp [1] [.leaf a]) (.ref p4) H4 (s1.trans (SameX.of s14)) (hp1.same s14) ⟨p4, p2, p3, [.str a], rfl, fresh_at f4 e4, fresh_at f2 ((s3.trans s4) _ _ e2), fresh_at f3 (s4 _ _ e3), .str a, [], rfl, rfl, rfl⟩ ?_ ?_ ?_
          · rw [T.Sh]
            exact ⟨by simp, RkOk.one (Nat.le_refl _), an, trivial⟩
          · exact List.Perm.refl _
          · show 1 ≤ 1
            exact Nat.le_refl _
      · have h2 : 2 ≤ ns.length := by omega
        walk_at "w"
        refine ⟨ns, hp, hq, h2, h46, fun Rs us r H1 hR hRne hRl pm ls s1 hp1 er => ?_⟩
        obtain ⟨fr, er1⟩ := fresh_some er
        have hus := ls.length
        refine comp_list (xs := us) (fun i acc G => SameX p H1 G ∧ Pu G p ∧ ∃ ts, LTs (fresh H G) ts acc ∧ Grw ts (Rs.take i) ns.length ∧ ts.length = i) (by rw [hus]; exact lt1000 (by omega)) ⟨SameX.refl, hp1, [], rfl, ⟨trivial, List.Perm.refl _, fun t ht => by simp at ht⟩, rfl⟩
          (fun i acc G f => SqL.of (f.1 _ _ (hp.ne fr) er1)) (fun D i x acc H' hx hD hDl hq' f => ⟨rfl, ?_⟩) (fun D H' acc hD hDl hq' f => ?_)
        · obtain ⟨s2, hp2, ts, lt, gw, tl⟩ := f
          obtain ⟨R, qR, hRi, rfl, eR⟩ := ls.at_ hx
          obtain ⟨fR, eR⟩ := fresh_some eR
          have hp2' : Pu H' p := hp2.same off_same
          have nD : D ≠ p := hp1.ne hD
          have fD : H D = none := s1.none_ hp1 hD
          have eR' : H' qR = some (.lst (R.map V.str)) := off_same _ _ (s2 _ _ (hp.ne fR) eR)
          have hRR := hR R (List.mem_of_getElem? hRi)
          have sub : ∀ z ∈ R, z ∈ ns := fun z hz => pm.mem_iff.mp (List.mem_flatten.mpr ⟨R, List.mem_of_getElem? hRi, hz⟩)
          refine way_t ?_
          walk_at "w"
          refine ⟨R, hp2', eR', pos_len hRR.1, by omega, by omega, fun z hz => hnm z (sub z hz), fun t v H4 s4 hp4 lt4 sh4 pm4 dp4 => ?_⟩
          have h4D := s4 _ _ nD hDl
          refine ⟨h4D, s2.trans (fun b o n e => ?_), ?_, ts ++ [t], ?_, ?_, ?_⟩
          · obtain ⟨n2, e⟩ := off_some e
            rw [off_at n2]; exact s4 b o n e
          · obtain ⟨x, y, z, e⟩ := hp4
            exact ⟨x, y, z, by rw [off_at nD.symm]; exact e⟩
          · refine LTs.snoc (lt4.mono fun b o e => ?_) (lt.mono fun b o e => ?_)
            · obtain ⟨n, e⟩ := fresh_some e
              have sH : SameX p H H' := s1.trans (s2.trans (SameX.of off_same))
              have nbD : b ≠ D := (ne_of_none hDl n).symm
              exact fresh_at (sH.none_ hp2' n) (by rw [off_at nbD]; exact e)
            · obtain ⟨n, e⟩ := fresh_some e
              obtain ⟨n2, e⟩ := off_some e
              exact fresh_at n (by rw [off_at n2]; exact s4 b o (hp.ne n) e)
          · rw [List.take_add_one, hRi]
            exact gw.snoc sh4 pm4 dp4 hRR.2
          · rw [List.length_append, tl]; rfl
        · obtain ⟨s2, hp2, ts, lt, gw, tl⟩ := f
          rw [hus, List.take_length] at gw
          have hp2' : Pu H' p := hp2.same off_same
          have nD : D ≠ p := hp1.ne hD
          have fD : H D = none := s1.none_ hp1 hD
          have sH : SameX p H H' := s1.trans (s2.trans (SameX.of off_same))
          have lt' : LTs (fresh H H') ts acc := lt.mono fun b o e => by
            obtain ⟨n, e⟩ := fresh_some e
            exact fresh_at n (off_same _ _ e)
          have hal := lt'.length
          have tne : ts ≠ [] := by
            rintro rfl
            have : us.length = 0 := tl.symm
            rw [hus] at this
            exact hRne (List.length_eq_zero_iff.mp this)
          have tkl := T.taken_le gw.sh
          have nml : (T.namesL ts).length = ns.length := (gw.pm.trans pm).length_eq
          have tkp := T.taken_pos gw.sh tne
          walk_at "w"
          refine comp_list (xs := acc) (fun i a2 G => Same H' G ∧ a2 = (ts.take i).map fun t => V.int t.width) (by rw [hal]; exact lt1000 (by omega)) ⟨Same.refl _, rfl⟩ (fun i a2 G f => SqL.of (f.1 _ _ hDl)) (fun D2 i x a2 G hx hD2 hDl2 hq2 f => ⟨rfl, ?_⟩) (fun D2 G a2 hD2 hDl2 hq2 f => ?_)
          · obtain ⟨s3, rfl⟩ := f
            obtain ⟨t, ht, mt⟩ := lt'.at_ hx
            refine way_t ?_
            walk_at "w"
            refine ⟨t, mt.mono (fresh_same.trans (s3.trans off_same)), ?_⟩
            refine ⟨hDl2, s3, ?_⟩
            rw [List.take_add_one, ht, List.map_append]
            rfl
          · obtain ⟨s3, rfl⟩ := f
            rw [hal, List.take_length] at hDl2
            have s4 : Same H' G := s3.trans off_same
            walk_at "w"
            refine ⟨ts.map fun t => (t.width : Int), SqL.of (by rw [List.map_map]; exact hDl2), ?_⟩
            rw [← T.taken_eq]
            have hp4 := hp2'.same s4
            walk_at "w"
            refine ⟨hp4, by omega, by omega, fun rk rp H5 rko f5 s5 hp5 e5 => ?_⟩
            have sG : SameX p H G := sH.trans (SameX.of s4)
            have f5' : H rp = none := sG.none_ hp4 f5
            rw [Int.toNat_natCast] at rko
            walk_at "w"
            refine ⟨(by show 3 ≤ sizeLine; decide), fun p6 H6 hp6 s6 e6 => ?_⟩
            have s5' : SameX p H H5 := sG.trans s5
            have f6 : H p6 = none := s5'.none_ hp5 hp6
            refine k (.grp rk ts) (.ref p6) H6 (s5'.trans (SameX.of s6)) (hp5.same s6) ⟨p6, rp, D, acc, rfl, fresh_at f6 e6, fresh_at f5' (s6 _ _ e5), fresh_at fD (s6 _ _ (s5 _ _ nD (s4 _ _ hDl))), lt'.mono ?_⟩ ?_ ?_ ?_
            · exact fresh_later hp ((SameX.of s4).trans (s5.trans (SameX.of s6)))
            · rw [T.Sh]
              exact ⟨tne, rko, gw.sh⟩
            · rw [T.names]
              exact gw.pm.trans pm
            · rw [T.depth]
              have := T.depthL_lt gw.dp tne
              omega
    next => exact h.elim

def sp__law_tree (K : PySem.W.Frag) : Sp := fun vs H Q _ => match vs with
  | [.ref p, .int l, .int mo] => Pu H p ∧ 1 ≤ l ∧ l ≤ 45 ∧ ∀ t v H', SameX p H H' → Pu H' p → LT (fresh H H') t v → t.Gd → t.names.length ≤ l.toNat → Q v H'
  | _ => False
theorem ok__law_tree (tp : Top K mg) : FnN P w K mg base 60 "_law_tree" [] (sp__law_tree K) := by
  refine fn_by tp.f__law_tree sc__law_tree (fun vs H Q E h => by unfold sp__law_tree at h; split at h <;> first | rfl | exact h.elim) (fun f cdv A outer s H vs Q E hr h => ⟨_, (pss_cons (ps_set (i := 3) sc__law_tree.nd rfl (by first | exact Or.inl rfl | exact Or.inr rfl) (g_call (ok__law_called tp) hr rfl (by omega) (pa_cons (gv 0) (pa_cons (pe_op op_addG pe_int (g_call (ok__law_draw tp) hr rfl (by omega) (pa_cons (gv 0) (pa_cons (gv 1) pa_nil)))) pa_nil)))) (pss_one (ps_ret (g_call (ok__law_grown tp 46) hr rfl (by omega) (pa_cons (gv 0) (pa_cons (gv 3) (pa_cons (gv 2) pa_nil))))))), ?_⟩)
  unfold sp__law_tree at h
  split at h
  next p l mo =>
    obtain ⟨hp, h1, h45, k⟩ := h
    walk_at "w"
    refine ⟨hp, by omega, by omega, fun d H1 d0 d1 s1 hp1 => ?_⟩
    walk_at "w"
    refine ⟨hp1, by omega, by omega, fun ns r H2 nl nd nm f2 s2 hp2 e2 => ?_⟩
    walk_at "w"
    refine ⟨ns, hp2, e2, by omega, by omega, by omega, nm, fun t v H3 s3 hp3 lt sh pm dp => ?_⟩
    have s12 := s1.trans s2
    have ln := pm.length_eq
    exact k t v H3 (s12.trans s3) hp3 (lt.mono (fresh_before s12 hp2)) ⟨sh, pm.nodup_iff.mpr nd, by omega, by omega⟩ (by omega)
  next => exact h.elim

end LW
namespace LW
open PySem PySem.Spec L2 GG
variable {P : Program} {w : World} {K : PySem.W.Frag} {mg : Str → Option Value} {base : Heap}
def sp__law_mirror (K : PySem.W.Frag) (n : Nat) : Sp := fun vs H Q _ => match vs with
  | [v] => ∃ t, LT H t v ∧ t.Gd ∧ t.depth < n ∧ ∀ v' H', Same H H' → LT (fresh H H') t.mirror v' → Q v' H'
  | _ => False
theorem ok__law_mirror (tp : Top K mg) : ∀ n, FnN P w K mg base (n + 2) "_law_mirror" [] (sp__law_mirror K n)
  | 0 => by
    refine fn_by tp.f__law_mirror sc__law_mirror (fun vs H Q E h => by unfold sp__law_mirror at h; split at h <;> first | rfl | exact h.elim) (fun f cdv A outer s H vs Q E hr h => ?_)
    exfalso
    unfold sp__law_mirror at h
    split at h
    next v => obtain ⟨t, _, _, h, _⟩ := h; omega
    next => exact h
  | n + 1 => by
    have ih := ok__law_mirror tp n
    refine fn_by tp.f__law_mirror sc__law_mirror (fun vs H Q E h => by unfold sp__law_mirror at h; split at h <;> first | rfl | exact h.elim) (fun f cdv A outer s H vs Q E hr h => ⟨_, (pss_cons (g_if (g_val (pe_callB (k_isi K rfl) (by rfl) tp.b_isinstance (by decide +kernel) (pa_cons (gv 0) (pa_cons (pe_bltn (v := .ty "str") rfl tp.b_str (by decide +kernel) rfl) pa_nil)))) (pss_one (ps_ret (gv 0))) pss_nil) (pss_cons (ps_set (i := 1) sc__law_mirror.nd rfl (by first | exact Or.inl rfl | exact Or.inr rfl) (pe_callB (k_sum K rfl rfl) (by rfl) tp.b_sum (by decide +kernel) (pa_cons (g_lc rfl sc__law_mirror.nd (kw_list K rfl (pe_ix (k_ix K rfl) (gv 0) pe_int (fun _ _ => rfl))) (blkOk_by (own := [("part", 2)]) (N := (["tree", "taken", "part", "rank"] : List Str)) (sc := defScope s__law_mirror) (by decide +kernel)) (fun _ _ _ _ _ => pg_name (i := 2) sc__law_mirror.nd rfl (Or.inl rfl)) (fun _ _ _ _ _ => pts_nil) (fun _ _ _ _ _ => (g_call (ok__law_width tp) hr rfl (by omega) (pa_cons (gv 2) pa_nil)))) pa_nil))) (pss_one (ps_ret (g_tup (pa_cons pe_str (pa_cons (g_lc rfl sc__law_mirror.nd (kw_list K rfl (k_revL K rfl (pe_ix (k_ix K rfl) (gv 0) pe_int (fun _ _ => rfl)))) (blkOk_by (own := [("rank", 3)]) (N := (["tree", "taken", "part", "rank"] : List Str)) (sc := defScope s__law_mirror) (by decide +kernel)) (fun _ _ _ _ _ => pg_name (i := 3) sc__law_mirror.nd rfl (Or.inl rfl)) (fun _ _ _ _ _ => pts_nil) (fun _ _ _ _ _ => (pe_op op_subG (pe_op op_addG (gv 1) pe_int) (gv 3)))) (pa_cons (g_lc rfl sc__law_mirror.nd (kw_list K rfl (pe_ix (k_ix K rfl) (gv 0) pe_int (fun _ _ => rfl))) (blkOk_by (own := [("part", 2)]) (N := (["tree", "taken", "part", "rank"] : List Str)) (sc := defScope s__law_mirror) (by decide +kernel)) (fun _ _ _ _ _ => pg_name (i := 2) sc__law_mirror.nd rfl (Or.inl rfl)) (fun _ _ _ _ _ => pts_nil) (fun _ _ _ _ _ => (g_call (ih) hr rfl (by omega) (pa_cons (gv 2) pa_nil)))) pa_nil)))))))), ?_⟩)
    unfold sp__law_mirror at h
    split at h
    next v =>
      obtain ⟨t, m, g, hd, k⟩ := h
      cases t with
      | leaf z =>
        obtain rfl : v = .str z := m
        walk_at "w"
        refine ⟨_, is_ss, way_t ?_⟩
        exact k _ H (Same.refl _) rfl
      | grp rk ps =>
        obtain ⟨a, r, p, us, rfl, h1, h2, h3, h4⟩ := m
        have hus := h4.length
        obtain ⟨ok, rok, hrl⟩ := g.pts
        rw [T.depth] at hd
        walk_at "w"
        refine ⟨_, is_ts h1, way_f ?_⟩
        walk_at "w"
        refine ⟨_, .ref p, Or.inr (SqT.of h1), at_of (j := 2) rfl rfl, ?_⟩
        refine comp_list (xs := us) (fun i acc G => Same H G ∧ acc = (ps.take i).map fun t => V.int t.width) (by rw [hus]; exact lt1000 ok.ln) ⟨Same.refl _, rfl⟩ (fun i acc G f => SqL.of (f.1 _ _ h3)) (fun D i x acc H' hx hD hDl hq' f => ⟨rfl, ?_⟩) (fun D H' acc hD hDl hq' f => ?_)
        · obtain ⟨s1, rfl⟩ := f
          obtain ⟨t, ht, mt⟩ := (h4.mono (s1.trans off_same)).at_ hx
          refine way_t ?_
          walk_at "w"
          refine ⟨t, mt, hDl, s1, ?_⟩
          rw [List.take_add_one, ht, List.map_append]
          rfl
        · obtain ⟨s1, rfl⟩ := f
          rw [hus, List.take_length] at hDl
          have s2 : Same H H' := s1.trans off_same
          walk_at "w"
          refine ⟨ps.map fun t => (t.width : Int), SqL.of (by rw [List.map_map]; exact hDl), ?_⟩
          rw [← T.taken_eq]
          walk_at "w"
          refine ⟨_, .ref r, Or.inr (SqT.of (s2 _ _ h1)), at_of (j := 1) rfl rfl, ?_⟩
          refine ⟨_, SqL.of (s2 _ _ h2), fun p1 H1 hp1 s1' e1 => ?_⟩
          rw [← List.map_reverse] at e1
          walk_at "w"
          refine comp_list (xs := rk.reverse.map V.int) (fun i acc G => Same H1 G ∧ acc = ((rk.reverse.take i).map fun r => V.int ((T.taken ps : Int) + 1 - r))) (by rw [List.length_map, List.length_reverse]; exact lt1000 hrl) ⟨Same.refl _, rfl⟩ (fun i acc G f => SqL.of (f.1 _ _ e1)) (fun D2 i x acc H3 hx hD2 hDl2 hq2 f => ⟨rfl, ?_⟩) (fun D2 H3 acc hD2 hDl2 hq2 f => ?_)
          · obtain ⟨s3, rfl⟩ := f
            obtain ⟨r0, hr0, rfl⟩ := map_at hx
            refine way_t ⟨hDl2, s3, ?_⟩
            rw [List.take_add_one, hr0, List.map_append]
            rfl
          · obtain ⟨s3, rfl⟩ := f
            rw [List.length_map, List.take_length] at hDl2
            have s4 : Same H H3 := s2.trans (s1'.trans (s3.trans off_same))
            walk_at "w"
            refine ⟨_, .ref p, Or.inr (SqT.of (s4 _ _ h1)), at_of (j := 2) rfl rfl, ?_⟩
            refine comp_list (xs := us) (fun i acc G => Same H3 G ∧ LTs (fresh H G) ((T.mirrorL ps).take i) acc) (by rw [hus]; exact lt1000 ok.ln) ⟨Same.refl _, rfl⟩ (fun i acc G f => SqL.of (f.1 _ _ (s4 _ _ h3))) (fun D3 i x acc H5 hx hD3 hDl3 hq3 f => ⟨rfl, ?_⟩) (fun D3 H5 acc hD3 hDl3 hq3 f => ?_)
            · obtain ⟨s5, lt⟩ := f
              obtain ⟨t, ht, mt⟩ := (h4.mono (s4.trans (s5.trans off_same))).at_ hx
              have hdt := T.depthL_le (List.mem_of_getElem? ht)
              refine way_t ?_
              walk_at "w"
              refine ⟨t, mt, g.part (List.mem_of_getElem? ht), by omega, fun v6 H6 s6 m6 => ?_⟩
              refine ⟨s6 _ _ hDl3, s5.trans (off_mono s6), ?_⟩
              have e : (T.mirrorL ps)[i]? = some t.mirror := by rw [T.mirrorL_eq, List.getElem?_map, ht]; rfl
              rw [List.take_add_one, e]
              refine LTs.snoc (m6.mono fun b o eb => ?_) (lt.mono fun b o eb => ?_)
              · obtain ⟨nb, eb⟩ := fresh_some eb
                exact fresh_at (none_back (s4.trans (s5.trans off_same)) nb) (by rw [off_at (ne_of_none hDl3 nb).symm]; exact eb)
              · obtain ⟨nb, eb⟩ := fresh_some eb
                exact fresh_at nb (off_mono s6 _ _ eb)
            · obtain ⟨s5, lt⟩ := f
              have em : (T.mirrorL ps).take us.length = T.mirrorL ps := by
                rw [hus, List.take_of_length_le]
                rw [T.mirrorL_eq, List.length_map]
                exact Nat.le_refl _
              rw [em] at lt
              have s6 : Same H3 H5 := s5.trans off_same
              have s7 := s4.trans s6
              walk_at "w"
              refine ⟨(by show 3 ≤ sizeLine; decide), fun p8 H8 hp8 s8 e8 => ?_⟩
              have f2 : H D2 = none := none_back (s2.trans s1') hD2
              have f3 : H D3 = none := none_back s4 hD3
              refine k _ H8 (s7.trans s8) ⟨p8, D2, D3, acc, rfl, fresh_at (none_back s7 hp8) e8, fresh_at f2 ?_, fresh_at f3 (s8 _ _ hDl3), lt.mono fun b o eb => ?_⟩
              · rw [s8 _ _ (s6 _ _ hDl2), List.map_map]
                rfl
              · obtain ⟨nb, eb⟩ := fresh_some eb
                exact fresh_at nb (s8 _ _ (off_same _ _ eb))
    next => exact h.elim

def sp__law_sums (K : PySem.W.Frag) : Sp := fun vs H Q _ => match vs with
  | [.ref p, .ref q] => ∃ a b : List Int, H p = some (.lst (a.map V.int)) ∧ H q = some (.lst (b.map V.int)) ∧ a ≠ [] ∧ b ≠ [] ∧ a.length + b.length ≤ 4000 ∧ ∀ r H', H r = none → Same H H' → H' r = some (.lst ((conv a b).map V.int)) → Q (.ref r) H'
  | _ => False
def convTo (a b : List Int) (i : Nat) : List Int := (List.range i).map fun k => minl (sumsAt a b k)
theorem ok__law_sums (tp : Top K mg) : FnN P w K mg base 1 "_law_sums" [] (sp__law_sums K) := by
  refine fn_by tp.f__law_sums sc__law_sums (fun vs H Q E h => by unfold sp__law_sums at h; split at h <;> first | rfl | exact h.elim) (fun f cdv A outer s H vs Q E hr h => ⟨_, (pss_cons (ps_set (i := 2) sc__law_sums.nd rfl (by first | exact Or.inl rfl | exact Or.inr rfl) (g_lst pa_nil)) (pss_cons (g_for PassesOwn.never rfl (w_range1 rfl tp.b_range (pa_cons (pe_op op_subG (pe_op op_addG (pe_callB (k_len K rfl) (by rfl) tp.b_len (by decide +kernel) (pa_cons (gv 0) pa_nil)) (pe_callB (k_len K rfl) (by rfl) tp.b_len (by decide +kernel) (pa_cons (gv 1) pa_nil))) pe_int) pa_nil)) (pg_name (i := 3) sc__law_sums.nd rfl (by first | exact Or.inl rfl | exact Or.inr rfl)) (pss_cons (g_setLc (i := 4) rfl sc__law_sums.nd rfl rfl (sw_true rfl rfl rfl (by decide +kernel)) (w_range1 rfl tp.b_range (pa_cons (pe_callB (k_len K rfl) (by rfl) tp.b_len (by decide +kernel) (pa_cons (gv 0) pa_nil)) pa_nil)) (blkOk_by (own := [("k", 5)]) (N := (["one", "other", "found", "at", "some", "k"] : List Str)) (sc := defScope s__law_sums) (by decide +kernel)) (fun _ _ _ _ _ => pg_name (i := 5) sc__law_sums.nd rfl (Or.inl rfl)) (fun _ _ _ _ _ => (pts_one (g_chainT op_leG op_ltG pe_int (pe_op op_subG (gv 3) (gv 5)) (pe_callB (k_len K rfl) (by rfl) tp.b_len (by decide +kernel) (pa_cons (gv 1) pa_nil))))) (fun _ _ _ _ _ => (pe_op op_addG (pe_ix (k_ix K rfl) (gv 0) (gv 5) (fun _ _ => rfl)) (pe_ix (k_ix K rfl) (gv 1) (pe_op op_subG (gv 3) (gv 5)) (fun _ _ => rfl))))) (pss_one (ps_expr (pe_bm PySem.F.plainAttrs_list PySem.F.slot_list_append PySem.F.type_list_append m_append (gv 2) (pa_cons (pe_callB (k_min K rfl rfl) (by rfl) tp.b_min (by decide +kernel) (pa_cons (gv 4) pa_nil)) pa_nil)))))) (pss_one (ps_ret (gv 2))))), ?_⟩)
  unfold sp__law_sums at h
  split at h
  next p q =>
    obtain ⟨a, b, hp, hq, ha, hb, hl, k⟩ := h
    have la := pos_len ha
    have lb := pos_len hb
    have h4 : ∀ n, n ≤ 4000 → n < sizeLine := fun n h => Nat.lt_of_le_of_lt h (by decide)
    walk_at "w"
    refine ⟨(by show 0 ≤ sizeLine; decide), fun D H' hD s2 hDl => ?_⟩
    walk_at "w"
    refine ⟨_, Or.inl (SqL.of (s2 _ _ hp)), ?_⟩
    walk_at "w"
    refine ⟨_, Or.inl (SqL.of (s2 _ _ hq)), ?_⟩
    walk_at "w"
    rw [List.length_map, List.length_map]
    refine ⟨by omega, ?_⟩
    have en : ((a.length : Int) + (b.length : Int) - 1).toNat = a.length + b.length - 1 := by omega
    rw [en]
    refine forw_range (fun i σ H2 => ∃ v4 v5, σ = [some (.ref p), some (.ref q), some (.ref D), v4, v5, none] ∧ Same H H2 ∧ H2 D = some (.lst ((convTo a b i).map V.int))) ⟨none, none, rfl, s2, hDl⟩ ?_ ?_
    · rintro i σ H2 hi ⟨v4, v5, rfl, s3, h2⟩
      walk_at "w"
      refine ⟨_, Or.inl (SqL.of (s3 _ _ hp)), ?_⟩
      walk_at "w"
      rw [List.length_map]
      refine ⟨by omega, ?_⟩
      have en3 : ((a.length : Int)).toNat = a.length := by omega
      rw [en3]
      refine comp_range (fun j acc G => Same H2 G ∧ acc = (((List.range j).filter (fits a b i)).map fun k => a.getD k 0 + b.getD (i - k) 0).map V.int) (h4 _ (by omega)) ⟨Same.refl _, rfl⟩ (fun D2 j acc H3 hj hD2 hDl2 hq2 f => ⟨rfl, ?_⟩) (fun D2 H3 acc hD2 hDl2 hq2 f => ?_)
      · obtain ⟨s4, rfl⟩ := f
        have s5 : Same H H3 := s3.trans (s4.trans off_same)
        have st := sums_take (a := a) (b := b) (at_ := i) (k := j)
        walk_at "w"
        refine way_d (fun c1 => ?_) (fun c1 => ?_)
        · walk_at "w"
          refine ⟨_, Or.inl (SqL.of (s5 _ _ hq)), ?_⟩
          rw [List.length_map]
          walk_at "w"
          refine way_d (fun c2 => ?_) (fun c2 => ?_)
          · have hf : fits a b i j = true := by unfold fits; exact decide_eq_true ⟨by omega, by omega⟩
            have ej : ((0 : Int) + (i : Int)) - ((0 : Int) + (j : Int)) = ((i - j : Nat) : Int) := by omega
            walk_at "w"
            refine ⟨_, _, Or.inl (SqL.of (s5 _ _ hp)), at_of (j := j) (by omega) (getD_map hj), ?_⟩
            walk_at "w"
            refine ⟨_, _, Or.inl (SqL.of (s5 _ _ hq)), at_of (j := i - j) ej (getD_map (by omega)), ?_⟩
            refine ⟨hDl2, s4, ?_⟩
            rw [st, if_pos hf, List.map_append]
            rfl
          · have hf : ¬ fits a b i j = true := by unfold fits; intro q; have := of_decide_eq_true q; omega
            refine ⟨hDl2, s4, ?_⟩
            rw [st, if_neg hf, List.append_nil]
        · have hf : ¬ fits a b i j = true := by unfold fits; intro q; have := of_decide_eq_true q; omega
          refine way_f ⟨hDl2, s4, ?_⟩
          rw [st, if_neg hf, List.append_nil]
      · obtain ⟨s4, rfl⟩ := f
        have s5 : Same H2 H3 := s4.trans off_same
        have sne := sums_ne ha hb hi
        walk_at "w"
        refine ⟨Or.inl ⟨rfl, _, SqL.of (s5 _ _ h2)⟩, ?_⟩
        refine ⟨sumsAt a b i, SqL.of hDl2, pos_len sne, fun m hm hm2 => ?_⟩
        have em := minl_eq hm hm2
        subst em
        walk_at "w"
        refine ⟨_, s5 _ _ h2, ?_, fun H4 s6 h5 => ?_⟩
        · unfold convTo; rw [List.length_map, List.length_map, List.length_range]; exact h4 _ (by omega)
        · refine ⟨_, _, rfl, SameX.un (s3.trans s5) hD s6, ?_⟩
          rw [h5]
          unfold convTo
          rw [List.range_succ, List.map_append, List.map_append]
          rfl
    · rintro σ H2 ⟨v4, v5, rfl, s3, h2⟩
      exact k D H2 hD s3 h2
  next => exact h.elim

/-- the dict at q says 1 of each of these names -/
def Ones (H : Hp) (q : Addr) (ns : List Str) : Prop := ∃ kvs, H q = some (.dK kvs) ∧ ∀ z ∈ ns, valV kvs (.inr z) = some (.int 1)
def sp__law_costs (K : PySem.W.Frag) (n : Nat) : Sp := fun vs H Q _ => match vs with
  | [v, .ref q] => ∃ t, LT H t v ∧ t.Gd ∧ t.depth < n ∧ Ones H q t.names ∧ ∀ r H', H r = none → Same H H' → H' r = some (.lst (t.cnt.map V.int)) → Q (.ref r) H'
  | _ => False
theorem ok__law_costs (tp : Top K mg) : ∀ n, FnN P w K mg base (n + 3) "_law_costs" [] (sp__law_costs K n)
  | 0 => by
    refine fn_by tp.f__law_costs sc__law_costs (fun vs H Q E h => by unfold sp__law_costs at h; split at h <;> first | rfl | exact h.elim) (fun f cdv A outer s H vs Q E hr h => ?_)
    exfalso
    unfold sp__law_costs at h
    split at h
    next v q => obtain ⟨t, _, _, h, _⟩ := h; omega
    next => exact h
  | n + 1 => by
    have ih := ok__law_costs tp n
    refine fn_by tp.f__law_costs sc__law_costs (fun vs H Q E h => by unfold sp__law_costs at h; split at h <;> first | rfl | exact h.elim) (fun f cdv A outer s H vs Q E hr h => ⟨_, (pss_cons (g_if (g_val (pe_callB (k_isi K rfl) (by rfl) tp.b_isinstance (by decide +kernel) (pa_cons (gv 0) (pa_cons (pe_bltn (v := .ty "str") rfl tp.b_str (by decide +kernel) rfl) pa_nil)))) (pss_one (ps_ret (g_lst (pa_cons pe_int (pa_cons (g_dget (Nat.lt_of_le_of_lt (Nat.add_le_add_left (by decide : 1 ≤ 64) _) hr.units) (gv 1) (gv 0)) pa_nil))))) pss_nil) (pss_cons (ps_set (i := 2) sc__law_costs.nd rfl (by first | exact Or.inl rfl | exact Or.inr rfl) (g_lst (pa_cons pe_int pa_nil))) (pss_cons (g_for PassesOwn.never rfl (kw_list K rfl (pe_ix (k_ix K rfl) (gv 0) pe_int (fun _ _ => rfl))) (pg_name (i := 3) sc__law_costs.nd rfl (by first | exact Or.inl rfl | exact Or.inr rfl)) (pss_one (ps_set (i := 2) sc__law_costs.nd rfl (by first | exact Or.inl rfl | exact Or.inr rfl) (g_call (ok__law_sums tp) hr rfl (by omega) (pa_cons (gv 2) (pa_cons (g_call (ih) hr rfl (by omega) (pa_cons (gv 3) (pa_cons (gv 1) pa_nil))) pa_nil)))))) (pss_one (ps_ret (pe_op op_addG (g_lst (pa_cons pe_int pa_nil)) (g_lc rfl sc__law_costs.nd (kw_list K rfl (pe_ix (k_ix K rfl) (gv 0) pe_int (fun _ _ => rfl))) (blkOk_by (own := [("rank", 4)]) (N := (["tree", "costs", "sums", "part", "rank"] : List Str)) (sc := defScope s__law_costs) (by decide +kernel)) (fun _ _ _ _ _ => pg_name (i := 4) sc__law_costs.nd rfl (Or.inl rfl)) (fun _ _ _ _ _ => pts_nil) (fun _ _ _ _ _ => (pe_callB (k_min K rfl rfl) (by rfl) tp.b_min (by decide +kernel) (pa_cons (pe_slice (k_sl K rfl) (gv 2) (po_some (gv 4)) po_none) pa_nil)))))))))), ?_⟩)
    unfold sp__law_costs at h
    split at h
    next v q =>
      obtain ⟨t, m, g, hd, on, k⟩ := h
      cases t with
      | leaf z =>
        obtain rfl : v = .str z := m
        obtain ⟨kvs, hq, hv⟩ := on
        walk_at "w"
        refine ⟨_, is_ss, way_t ?_⟩
        walk_at "w"
        refine ⟨kvs, .int 1, hq, hv z (List.mem_cons_self ..), ?_⟩
        exact ⟨(by show 2 ≤ sizeLine; decide), k⟩
      | grp rk ps =>
        obtain ⟨a, r, p, us, rfl, h1, h2, h3, h4⟩ := m
        have hus := h4.length
        obtain ⟨ok, rok, hrl⟩ := g.pts
        have lst := cntL_lst (by have := g.sh; rw [T.Sh] at this; exact this.2.2) ok.nd
        rw [T.depth] at hd
        walk_at "w"
        refine ⟨_, is_ts h1, way_f ?_⟩
        walk_at "w"
        refine ⟨(by show 1 ≤ sizeLine; decide), fun p1 H1 hp1 s1 e1 => ?_⟩
        walk_at "w"
        refine ⟨_, .ref p, Or.inr (SqT.of (s1 _ _ h1)), at_of (j := 2) rfl rfl, ?_⟩
        refine forw_list (xs := us) (fun i σ H3 => ∃ p3 v3, σ = [some (.ref a), some (.ref q), some (.ref p3), v3, none] ∧ Same H H3 ∧ H3 p3 = some (.lst ((T.cntL (ps.take i) [0]).map V.int))) ⟨p1, none, rfl, s1, e1⟩ (fun i σ H3 _ ⟨_, _, _, s3, _⟩ => SqL.of (s3 _ _ h3)) ?_ ?_
        · rintro i x σ H3 hx ⟨p3, v3, rfl, s3, e3⟩
          obtain ⟨t, ht, mt⟩ := (h4.mono s3).at_ hx
          have hm := List.mem_of_getElem? ht
          have hdt := T.depthL_le hm
          obtain ⟨kvs, hq, hv⟩ := on
          walk_at "w"
          refine ⟨t, mt, g.part hm, by omega, ⟨kvs, s3 _ _ hq, fun z hz => hv z ((T.namesL_mem hm).subset hz)⟩, fun p4 H4 hp4 s4 e4 => ?_⟩
          have l1 := T.cntL_len (ps.take i) [0] (by simp)
          have l2 := T.cnt_len t
          have l4 := T.cntL_len (ps.take (i + 1)) [0] (by simp)
          have l5 := T.taken_take_le ps (i + 1)
          have l6 := ok.tk
          rw [T.cntL_take ht, conv_len] at l4
          simp only [List.length_cons, List.length_nil] at l1 l4
          refine ⟨_, _, s4 _ _ e3, e4, l1.2, by intro z; rw [z] at l2; simp at l2, by omega, fun p5 H5 hp5 s5 e5 => ?_⟩
          refine ⟨p5, _, rfl, s3.trans (s4.trans s5), ?_⟩
          rw [e5, T.cntL_take ht]
        · rintro σ H3 ⟨p3, v3, rfl, s3, e3⟩
          rw [hus, List.take_length] at e3
          have l1 := T.cntL_len ps [0] (by simp)
          simp only [List.length_cons, List.length_nil] at l1
          walk_at "w"
          refine ⟨(by show 1 ≤ sizeLine; decide), fun p6 H6 hp6 s6 e6 => ?_⟩
          have s7 : Same H H6 := s3.trans s6
          walk_at "w"
          refine ⟨_, .ref r, Or.inr (SqT.of (s7 _ _ h1)), at_of (j := 1) rfl rfl, ?_⟩
          refine comp_list (xs := rk.map V.int) (fun i acc G => Same H6 G ∧ acc = ((rk.take i).map fun r => (T.cntL ps [0]).getD r.toNat 0).map V.int) (by rw [List.length_map]; exact lt1000 hrl) ⟨Same.refl _, rfl⟩ (fun i acc G f => SqL.of (f.1 _ _ (s7 _ _ h2))) (fun D i x acc H' hx hD hDl hq f => ⟨rfl, ?_⟩) (fun D H' acc hD hDl hq f => ?_)
          · obtain ⟨s9, rfl⟩ := f
            obtain ⟨r0, hr0, rfl⟩ := map_at hx
            have q1 := rok.lo r0 (List.mem_of_getElem? hr0)
            have q2 := rok.hi r0 (List.mem_of_getElem? hr0)
            have er : r0 = ((r0.toNat : Nat) : Int) := by omega
            refine way_t ?_
            walk_at "w"
            refine ⟨_, rfl, ?_⟩
            refine ⟨_, SqL.of ((s9.trans off_same) _ _ (s6 _ _ e3)), fun p7 H7 hp7 s7' e7 => ?_⟩
            rw [er, cutV_from (by rw [List.length_map]; omega), ← List.map_drop] at e7
            walk_at "w"
            refine ⟨_, SqL.of e7, by rw [List.length_drop]; omega, fun mm hm1 hm2 => ?_⟩
            obtain rfl := min_drop (fun i j hij hj => lst.mono hij hj) (by omega) hm1 hm2
            refine ⟨s7' _ _ hDl, s9.trans (off_mono s7'), ?_⟩
            rw [List.take_add_one, hr0, List.map_append, List.map_append]
            rfl
          · obtain ⟨s9, rfl⟩ := f
            have s10 : Same H6 H' := s9.trans off_same
            rw [List.length_map, List.take_length] at hDl
            walk_at "w"
            refine ⟨_, _, s10 _ _ e6, hDl, ?_, fun p11 H11 hp11 s11 e11 => ?_⟩
            · rw [List.length_map, List.length_map]
              show 1 + rk.length ≤ sizeLine
              exact Nat.le_trans (by omega : 1 + rk.length ≤ 1001) (by decide)
            · refine k p11 H11 (none_back (s7.trans s10) hp11) (s7.trans (s10.trans s11)) ?_
              rw [e11, T.cnt]
              rfl
    next => exact h.elim

def sp__law_counts (K : PySem.W.Frag) : Sp := fun vs H Q _ => match vs with
  | [v] => ∃ t, LT H t v ∧ t.Gd ∧ ∀ r H', H r = none → Same H H' → H' r = some (.lst (t.cnt.map V.int)) → Q (.ref r) H'
  | _ => False
theorem putK_len {κ : Type} [DecidableEq κ] (kvs : List (κ × V)) (k : κ) (v : V) : (putK kvs k v).length ≤ kvs.length + 1 := by
  unfold putK
  split
  · rw [List.length_map]; omega
  · rw [List.length_append]; simp
theorem ok__law_counts (tp : Top K mg) : FnN P w K mg base 52 "_law_counts" [] (sp__law_counts K) := by
  refine fn_by tp.f__law_counts sc__law_counts (fun vs H Q E h => by unfold sp__law_counts at h; split at h <;> first | rfl | exact h.elim) (fun f cdv A outer s H vs Q E hr h => ⟨_, (pss_cons (ps_set (i := 1) sc__law_counts.nd rfl (by first | exact Or.inl rfl | exact Or.inr rfl) g_dnew) (pss_cons (g_for PassesOwn.never rfl (kw_list K rfl (g_call (ok__law_names tp 46) hr rfl (by omega) (pa_cons (gv 0) pa_nil))) (pg_name (i := 2) sc__law_counts.nd rfl (by first | exact Or.inl rfl | exact Or.inr rfl)) (pss_one (ps_asg pe_int (pg_sub (gv 1) (gv 2) (s_dict (Nat.lt_of_le_of_lt (Nat.add_le_add_left (by decide : 1 ≤ 64) _) hr.units)))))) (pss_one (ps_ret (g_call (ok__law_costs tp 46) hr rfl (by omega) (pa_cons (gv 0) (pa_cons (gv 1) pa_nil))))))), ?_⟩)
  unfold sp__law_counts at h
  split at h
  next v =>
    obtain ⟨t, m, g, k⟩ := h
    have gz := g.sz
    walk_at "w"
    refine fun pd H1 fd s1 ed => ?_
    walk_at "w"
    refine ⟨t, m.mono s1, Nat.lt_succ_of_le g.dp, g.sz, fun pn H2 fn s2 en => ?_⟩
    have npd : pn ≠ pd := by rintro rfl; rw [ed] at fn; cases fn
    refine forw_list (xs := t.names.map V.str) (fun i σ G => ∃ v2, σ = [some v, some (.ref pd), v2] ∧ SameX pd H2 G ∧ ∃ kvs, G pd = some (.dK kvs) ∧ kvs.length ≤ i ∧ ∀ z ∈ t.names.take i, valV kvs (.inr z) = some (.int 1)) ⟨none, rfl, SameX.refl, [], s2 _ _ ed, Nat.le_refl _, fun z hz => by simp at hz⟩ (fun i σ G _ ⟨_, _, sG, _⟩ => SqL.of (sG _ _ npd en)) ?_ ?_
    · rintro i x σ G hx ⟨v2, rfl, sG, kvs, eG, kl, kv⟩
      obtain ⟨z, hz, rfl⟩ := map_atG hx
      have hi : i < t.names.length := by
        rcases Nat.lt_or_ge i t.names.length with q | q
        · exact q
        · rw [List.getElem?_eq_none q] at hz; cases hz
      walk_at "w"
      refine ⟨kvs, eG, lt1000 (by omega), fun H3 s3 e3 => ?_⟩
      refine ⟨_, rfl, sG.trans s3, _, e3, Nat.le_trans (putK_len _ _ _) (by omega), fun y hy => ?_⟩
      rw [valV_put]
      rw [List.take_add_one, hz] at hy
      split
      · rfl
      · rename_i ne
        rcases List.mem_append.mp hy with q | q
        · exact kv y q
        · exact absurd (congrArg Sum.inr (List.mem_singleton.mp q)) ne
    · rintro σ G ⟨v2, rfl, sG, kvs, eG, kl, kv⟩
      rw [List.length_map, List.take_length] at kv
      have fd2 : H pd = none := fd
      have s4 : Same H G := SameX.un (s1.trans s2) fd2 sG
      walk_at "w"
      exact ⟨t, m.mono s4, g, Nat.lt_succ_of_le g.dp, ⟨kvs, eG, kv⟩, fun r H5 f5 s5 e5 => k r H5 (none_back s4 f5) (s4.trans s5) e5⟩
  next => exact h.elim

/-- a row: a tree of the law's and its told ends -/
def RWk (H : Hp) (t : T) (ds : List Int) (v : V) : Prop := ∃ a tv tr, v = .ref a ∧ H a = some (.tup [tv, .ref tr]) ∧ LT H t tv ∧ H tr = some (.lst (ds.map V.int))
theorem RWk.mono {H H' : Hp} {t : T} {ds : List Int} {v : V} (s : Same H H') (h : RWk H t ds v) : RWk H' t ds v := by
  obtain ⟨a, tv, tr, e, h1, h2, h3⟩ := h
  exact ⟨a, tv, tr, e, s _ _ h1, h2.mono s, s _ _ h3⟩
def sp__law_upto (K : PySem.W.Frag) : Sp := fun vs H Q _ => match vs with
  | [v, .int b] => ∃ t ds, RWk H t ds v ∧ t.Gd ∧ TdOk t ds ∧ ∀ r H', H r = none → Same H H' → H' r = some (.tup [.int (uptoL t ds b), .int (uptoG t ds b)]) → Q (.ref r) H'
  | _ => False
theorem ok__law_upto (tp : Top K mg) : FnN P w K mg base 54 "_law_upto" [] (sp__law_upto K) := by
  refine fn_by tp.f__law_upto sc__law_upto (fun vs H Q E h => by unfold sp__law_upto at h; split at h <;> first | rfl | exact h.elim) (fun f cdv A outer s H vs Q E hr h => ⟨_, (pss_cons (ps_asg (gv 0) (pg_tup rfl (pgs_cons (pg_name (i := 2) sc__law_upto.nd rfl (by first | exact Or.inl rfl | exact Or.inr rfl)) (pgs_cons (pg_name (i := 3) sc__law_upto.nd rfl (by first | exact Or.inl rfl | exact Or.inr rfl)) pgs_nil)))) (pss_cons (ps_set (i := 4) sc__law_upto.nd rfl (by first | exact Or.inl rfl | exact Or.inr rfl) (pe_callB (k_len K rfl) (by rfl) tp.b_len (by decide +kernel) (pa_cons (g_lc rfl sc__law_upto.nd (kw_list K rfl (gv 3)) (blkOk_by (own := [("worth", 6)]) (N := (["row", "bound", "tree", "told", "passed", "size", "worth"] : List Str)) (sc := defScope s__law_upto) (by decide +kernel)) (fun _ _ _ _ _ => pg_name (i := 6) sc__law_upto.nd rfl (Or.inl rfl)) (fun _ _ _ _ _ => (pts_one (g_cmp op_leG (gv 6) (gv 1) (nomark _)))) (fun _ _ _ _ _ => (gv 6))) pa_nil))) (pss_cons (ps_set (i := 5) sc__law_upto.nd rfl (by first | exact Or.inl rfl | exact Or.inr rfl) (pe_callB (k_len K rfl) (by rfl) tp.b_len (by decide +kernel) (pa_cons (g_call (ok__law_names tp 46) hr rfl (by omega) (pa_cons (gv 2) pa_nil)) pa_nil))) (pss_one (ps_ret (g_tup (pa_cons (pe_ix (k_ix K rfl) (g_call (ok__law_counts tp) hr rfl (by omega) (pa_cons (gv 2) pa_nil)) (gv 4) (fun _ _ => rfl)) (pa_cons (pe_op op_subG (gv 5) (pe_ix (k_ix K rfl) (g_call (ok__law_counts tp) hr rfl (by omega) (pa_cons (g_call (ok__law_mirror tp 46) hr rfl (by omega) (pa_cons (gv 2) pa_nil)) pa_nil)) (pe_op op_subG (pe_callB (k_len K rfl) (by rfl) tp.b_len (by decide +kernel) (pa_cons (gv 3) pa_nil)) (gv 4)) (fun _ _ => rfl))) pa_nil)))))))), ?_⟩)
  unfold sp__law_upto at h
  split at h
  next v b =>
    obtain ⟨t, ds, ⟨a, tv, tr, rfl, h1, h2, h3⟩, g, td, k⟩ := h
    have hl := td.len g
    have lle := lowN_le ds b
    have l1 := T.cnt_len t
    have l2 := T.cnt_len t.mirror
    rw [T.width_mirror] at l2
    have hw := td.ln
    walk_at "w"
    refine ⟨a, _, rfl, SqT.of h1, rfl, tv, [.ref tr], rfl, .ref tr, [], rfl, rfl, ?_⟩
    walk_at "w"
    refine comp_list (xs := ds.map V.int) (fun i acc G => Same H G ∧ acc = ((ds.take i).filter fun d => decide (d ≤ b)).map V.int) (by rw [List.length_map]; exact lt1000 hl) ⟨Same.refl _, rfl⟩ (fun i acc G f => SqL.of (f.1 _ _ h3)) (fun D i x acc H' hx hD hDl hq f => ⟨rfl, ?_⟩) (fun D H' acc hD hDl hq f => ?_)
    · obtain ⟨s1, rfl⟩ := f
      obtain ⟨r0, hr0, rfl⟩ := map_at hx
      have e := filt_take (p := fun d => decide (d ≤ b)) hr0
      walk_at "w"
      refine way_d (fun c => ?_) fun c => ?_
      · refine ⟨hDl, s1, ?_⟩
        rw [e, if_pos (decide_eq_true c), List.map_append]
        rfl
      · refine ⟨hDl, s1, ?_⟩
        rw [e, if_neg (by simpa using c), List.append_nil]
    · obtain ⟨s1, rfl⟩ := f
      rw [List.length_map, List.take_length] at hDl
      have s2 : Same H H' := s1.trans off_same
      walk_at "w"
      refine ⟨_, Or.inl (SqL.of hDl), ?_⟩
      rw [List.length_map]
      walk_at "w"
      refine ⟨t, h2.mono s2, Nat.lt_succ_of_le g.dp, g.sz, fun p3 H3 hp3 s3 e3 => ?_⟩
      refine ⟨_, Or.inl (SqL.of e3), ?_⟩
      rw [List.length_map]
      have s4 := s2.trans s3
      walk_at "w"
      refine ⟨t, h2.mono s4, g, fun p5 H5 hp5 s5 e5 => ?_⟩
      walk_at "w"
      refine ⟨_, _, Or.inl (SqL.of e5), at_of (j := lowN ds b) rfl (getD_map (by omega)), ?_⟩
      have s6 := s4.trans s5
      walk_at "w"
      refine ⟨t, h2.mono s6, g, Nat.lt_succ_of_le g.dp, fun v7 H7 s7 m7 => ?_⟩
      refine ⟨t.mirror, m7.mono fresh_same, g.mirror, fun p8 H8 hp8 s8 e8 => ?_⟩
      have s9 := s6.trans (s7.trans s8)
      walk_at "w"
      refine ⟨_, Or.inl (SqL.of (s9 _ _ h3)), ?_⟩
      rw [List.length_map]
      walk_at "w"
      refine ⟨_, _, Or.inl (SqL.of e8), at_of (j := ds.length - lowN ds b) ?_ (getD_map (by omega)), ?_⟩
      · show (ds.length : Int) - (lowN ds b : Int) = _
        omega
      walk_at "w"
      refine ⟨(by show 2 ≤ sizeLine; decide), fun p10 H10 hp10 s10 e10 => ?_⟩
      exact k p10 H10 (none_back s9 hp10) (s9.trans s10) e10
  next => exact h.elim

end LW
namespace LW
open PySem PySem.Spec L2 GG
variable {P : Program} {w : World} {K : PySem.W.Frag} {mg : Str → Option Value} {base : Heap}

def RWs (H : Hp) : List (T × List Int) → List V → Prop
  | [], vs => vs = []
  | r :: rs, vs => ∃ v us, vs = v :: us ∧ RWk H r.1 r.2 v ∧ RWs H rs us
theorem RWs.mono {H H' : Hp} (s : Same H H') : ∀ {rs : List (T × List Int)} {vs : List V}, RWs H rs vs → RWs H' rs vs
  | [], vs, h => h
  | r :: rs, vs, ⟨v, us, e, h1, h2⟩ => ⟨v, us, e, h1.mono s, RWs.mono s h2⟩
theorem RWs.length {H : Hp} : ∀ {rs : List (T × List Int)} {vs : List V}, RWs H rs vs → vs.length = rs.length
  | [], vs, h => by subst h; rfl
  | r :: rs, vs, ⟨v, us, e, h1, h2⟩ => by subst e; simp [RWs.length h2]
theorem RWs.at_ {H : Hp} : ∀ {rs : List (T × List Int)} {vs : List V} {i : Nat} {v : V}, RWs H rs vs → vs[i]? = some v → ∃ r, rs[i]? = some r ∧ RWk H r.1 r.2 v
  | [], vs, i, v, h, e => by subst h; simp at e
  | r :: rs, vs, 0, v, ⟨x, us, q, h1, h2⟩, e => by subst q; simp at e; subst e; exact ⟨r, rfl, h1⟩
  | r :: rs, vs, i + 1, v, ⟨x, us, q, h1, h2⟩, e => by
    subst q
    obtain ⟨u, h3, h4⟩ := RWs.at_ (i := i) h2 (by simpa using e)
    exact ⟨u, by simpa using h3, h4⟩
theorem RWs.app {H : Hp} : ∀ {rs : List (T × List Int)} {vs : List V} {qs : List (T × List Int)} {ws : List V}, RWs H rs vs → RWs H qs ws → RWs H (rs ++ qs) (vs ++ ws)
  | [], vs, qs, ws, h, h' => by subst h; exact h'
  | r :: rs, vs, qs, ws, ⟨v, us, e, h1, h2⟩, h' => by subst e; exact ⟨v, us ++ ws, rfl, h1, RWs.app h2 h'⟩
theorem RWs.rev {H : Hp} : ∀ {rs : List (T × List Int)} {vs : List V}, RWs H rs vs → RWs H rs.reverse vs.reverse
  | [], vs, h => by subst h; rfl
  | r :: rs, vs, ⟨v, us, e, h1, h2⟩ => by
    subst e
    rw [List.reverse_cons, List.reverse_cons]
    exact RWs.app (RWs.rev h2) ⟨v, [], rfl, h1, rfl⟩
theorem RWs.take {H : Hp} {rs : List (T × List Int)} {vs : List V} (h : RWs H rs vs) : RWs H (rs.take 1) (vs.take 1) := by
  cases rs with
  | nil => obtain rfl : vs = [] := h; rfl
  | cons r rs => obtain ⟨v, us, rfl, h1, h2⟩ := h; exact ⟨v, [], rfl, h1, rfl⟩
theorem last_step {p : Int → Bool} {l : List Int} {i : Nat} {b : Int} (h : l[i]? = some b) : ((l.take (i + 1)).filter p).getLast? = if p b = true then some b else ((l.take i).filter p).getLast? := by
  rw [filt_take h]
  split
  · rw [List.getLast?_append]; rfl
  · rw [List.append_nil]
theorem last_rev (p : Int → Bool) (l : List Int) : (l.reverse.filter p).getLast? = (l.filter p).head? := by
  rw [List.filter_reverse, List.getLast?_reverse]

def sp__law_due (K : PySem.W.Frag) : Sp := fun vs H Q _ => match vs with
  | [.ref p, .int k] => ∃ us rs, H p = some (.lst us) ∧ RWs H rs us ∧ RsOk rs ∧ (allW rs).length < 64 ∧ allW rs ≠ [] ∧
    ∀ ws : List Int, ws.Pairwise (· < ·) → (∀ b, b ∈ ws ↔ b ∈ allW rs) → ∀ r H', H r = none → Same H H' → H' r = some (.tup [optV (lowW rs ws k), optV (firstW (sumL rs) ws k)]) → Q (.ref r) H'
  | _ => False
theorem ok__law_due (tp : Top K mg) : FnN P w K mg base 56 "_law_due" [] (sp__law_due K) := by
  refine fn_by tp.f__law_due sc__law_due (fun vs H Q E h => by unfold sp__law_due at h; split at h <;> first | rfl | exact h.elim) (fun f cdv A outer s H vs Q E hr h => ⟨_, (pss_cons (ps_set (i := 2) sc__law_due.nd rfl (by first | exact Or.inl rfl | exact Or.inr rfl) (g_lst pa_nil)) (pss_cons (g_for PassesOwn.never rfl (kw_list K rfl (gv 0)) (pg_tup rfl (pgs_cons (pg_name (i := 3) sc__law_due.nd rfl (by first | exact Or.inl rfl | exact Or.inr rfl)) (pgs_cons (pg_name (i := 4) sc__law_due.nd rfl (by first | exact Or.inl rfl | exact Or.inr rfl)) pgs_nil))) (pss_one (ps_set (i := 2) sc__law_due.nd rfl (by first | exact Or.inl rfl | exact Or.inr rfl) (pe_op op_addG (gv 2) (gv 4))))) (pss_cons (ps_asg (g_tup (pa_cons (pe_callB (c_sortSet w rfl rfl) (by rfl) tp.b_sorted (by decide +kernel) (pa_cons (pe_callTy (k_setOf K w rfl rfl rfl) (by rfl) tp.b_set (by decide +kernel) (pa_cons (gv 2) pa_nil)) pa_nil)) (pa_cons pe_non (pa_cons pe_non pa_nil)))) (pg_tup rfl (pgs_cons (pg_name (i := 2) sc__law_due.nd rfl (by first | exact Or.inl rfl | exact Or.inr rfl)) (pgs_cons (pg_name (i := 5) sc__law_due.nd rfl (by first | exact Or.inl rfl | exact Or.inr rfl)) (pgs_cons (pg_name (i := 6) sc__law_due.nd rfl (by first | exact Or.inl rfl | exact Or.inr rfl)) pgs_nil))))) (pss_cons (g_for PassesOwn.never rfl (kw_list K rfl (k_revL K rfl (gv 2))) (pg_name (i := 7) sc__law_due.nd rfl (by first | exact Or.inl rfl | exact Or.inr rfl)) (pss_cons (g_if (g_cmp op_geG (pe_callB (k_sum K rfl rfl) (by rfl) tp.b_sum (by decide +kernel) (pa_cons (g_lc rfl sc__law_due.nd (kw_list K rfl (gv 0)) (blkOk_by (own := [("row", 8)]) (N := (["rows", "rank", "bounds", "tree", "told", "low", "high", "bound", "row"] : List Str)) (sc := defScope s__law_due) (by decide +kernel)) (fun _ _ _ _ _ => pg_name (i := 8) sc__law_due.nd rfl (Or.inl rfl)) (fun _ _ _ _ _ => pts_nil) (fun _ _ _ _ _ => (pe_ix (k_ix K rfl) (g_call (ok__law_upto tp) hr rfl (by omega) (pa_cons (gv 8) (pa_cons (gv 7) pa_nil))) pe_int (fun _ _ => rfl)))) pa_nil)) (gv 1) (nomark _)) (pss_one (ps_set (i := 5) sc__law_due.nd rfl (by first | exact Or.inl rfl | exact Or.inr rfl) (gv 7))) pss_nil) (pss_one (g_if (g_cmp op_geG (pe_callB (k_sum K rfl rfl) (by rfl) tp.b_sum (by decide +kernel) (pa_cons (g_lc rfl sc__law_due.nd (kw_list K rfl (gv 0)) (blkOk_by (own := [("row", 8)]) (N := (["rows", "rank", "bounds", "tree", "told", "low", "high", "bound", "row"] : List Str)) (sc := defScope s__law_due) (by decide +kernel)) (fun _ _ _ _ _ => pg_name (i := 8) sc__law_due.nd rfl (Or.inl rfl)) (fun _ _ _ _ _ => pts_nil) (fun _ _ _ _ _ => (pe_ix (k_ix K rfl) (g_call (ok__law_upto tp) hr rfl (by omega) (pa_cons (gv 8) (pa_cons (gv 7) pa_nil))) pe_int (fun _ _ => rfl)))) pa_nil)) (gv 1) (nomark _)) (pss_one (ps_set (i := 6) sc__law_due.nd rfl (by first | exact Or.inl rfl | exact Or.inr rfl) (gv 7))) pss_nil)))) (pss_cons (g_if (g_cmp op_geG (pe_callB (k_sum K rfl rfl) (by rfl) tp.b_sum (by decide +kernel) (pa_cons (g_lc rfl sc__law_due.nd (kw_list K rfl (gv 0)) (blkOk_by (own := [("row", 8)]) (N := (["rows", "rank", "bounds", "tree", "told", "low", "high", "bound", "row"] : List Str)) (sc := defScope s__law_due) (by decide +kernel)) (fun _ _ _ _ _ => pg_name (i := 8) sc__law_due.nd rfl (Or.inl rfl)) (fun _ _ _ _ _ => pts_nil) (fun _ _ _ _ _ => (pe_ix (k_ix K rfl) (g_call (ok__law_upto tp) hr rfl (by omega) (pa_cons (gv 8) (pa_cons (pe_op op_subG (pe_ix (k_ix K rfl) (gv 2) pe_int (fun _ _ => rfl)) pe_int) pa_nil))) pe_int (fun _ _ => rfl)))) pa_nil)) (gv 1) (nomark _)) (pss_one (ps_set (i := 5) sc__law_due.nd rfl (by first | exact Or.inl rfl | exact Or.inr rfl) pe_non)) pss_nil) (pss_one (ps_ret (g_tup (pa_cons (gv 5) (pa_cons (gv 6) pa_nil)))))))))), ?_⟩)
  unfold sp__law_due at h
  split at h
  next p k0 =>
    obtain ⟨us, rs, hp, rw0, ok, h64, wne, k⟩ := h
    have hl := rw0.length
    have hll : rs.length ≤ 1000 := by have := ok.ln; omega
    walk_at "w"
    refine ⟨(by show 0 ≤ sizeLine; decide), fun p1 H1 hp1 s1 e1 => ?_⟩
    walk_at "w"
    refine forw_list (xs := us) (fun i σ G => ∃ pb v3 v4, σ = [some (.ref p), some (.int k0), some (.ref pb), v3, v4, none, none, none, none] ∧ Same H G ∧ G pb = some (.lst ((allW (rs.take i)).map V.int))) ⟨p1, none, none, rfl, s1, e1⟩ (fun i σ G _ ⟨_, _, _, _, sG, _⟩ => SqL.of (sG _ _ hp)) ?_ ?_
    · rintro i x σ G hx ⟨pb, v3, v4, rfl, sG, eb⟩
      obtain ⟨r, hr1, ⟨a, tv, tr, rfl, h1, h2, h3⟩⟩ := (rw0.mono sG).at_ hx
      have tk := allW_take hr1
      have tl := allW_le rs (i + 1)
      rw [tk, List.length_append] at tl
      refine ⟨a, _, rfl, SqT.of h1, rfl, tv, [.ref tr], rfl, .ref tr, [], rfl, rfl, ?_⟩
      walk_at "w"
      refine ⟨_, _, eb, h3, by rw [List.length_map, List.length_map]; exact Nat.le_trans (by omega : _ ≤ 64) (by decide), fun p5 H5 hp5 s5 e5 => ?_⟩
      exact ⟨p5, _, _, rfl, sG.trans s5, by rw [e5, tk, List.map_append]⟩
    · rintro σ G ⟨pb, v3, v4, rfl, sG, eb⟩
      rw [hl, List.take_length] at eb
      walk_at "w"
      refine ⟨_, SqL.of eb, by omega, fun ps G2 f2 s2 sl => ?_⟩
      refine ⟨_, sl, h64, fun ws pw G3 asc mem f3 s3 e3 => ?_⟩
      walk_at "w"
      refine ⟨(by show 3 ≤ sizeLine; decide), fun pt G3' ft st et => ?_⟩
      refine ⟨pt, _, rfl, SqT.of et, rfl, .ref pw, _, rfl, .non, _, rfl, .non, [], rfl, rfl, ?_⟩
      replace e3 := st _ _ e3
      replace s3 := s3.trans st
      clear f3
      have wsne : ws ≠ [] := by
        rintro rfl
        cases hw : allW rs with
        | nil => exact wne hw
        | cons a l => exact absurd ((mem a).mpr (by rw [hw]; exact List.mem_cons_self ..)) (by simp)
      obtain ⟨w0, wr, ew⟩ : ∃ a b, ws = a :: b := by
        cases ws with
        | nil => exact absurd rfl wsne
        | cons a b => exact ⟨a, b, rfl⟩
      have s03 : Same H G3' := sG.trans (s2.trans s3)
      walk_at "w"
      refine ⟨_, SqL.of e3, fun pv G4 f4 s4 e4 => ?_⟩
      rw [← List.map_reverse] at e4
      refine forw_list (xs := ws.reverse.map V.int) (fun i σ G => ∃ v7, σ = [some (.ref p), some (.int k0), some (.ref pw), v3, v4, some (optV ((ws.reverse.take i).filter fun b => decide (k0 ≤ sumG rs b)).getLast?), some (optV ((ws.reverse.take i).filter fun b => decide (k0 ≤ sumL rs b)).getLast?), v7, none] ∧ Same G4 G)
        ⟨none, rfl, Same.refl _⟩ (fun i σ G _ ⟨_, _, sG⟩ => SqL.of (sG _ _ e4)) ?_ ?_
      · rintro i x σ G5 hx ⟨v7, rfl, sG5⟩
        obtain ⟨b, hb, rfl⟩ := map_at hx
        have eL := last_step (p := fun b => decide (k0 ≤ sumG rs b)) hb
        have eH := last_step (p := fun b => decide (k0 ≤ sumL rs b)) hb
        have sW : Same H G5 := s03.trans (s4.trans sG5)
        have s45 : Same G4 G5 := sG5
        have hpW := sW _ _ hp
        have rwW := rw0.mono sW
        walk_at "w"
        refine comp_list (xs := us) (fun i acc G => Same G5 G ∧ acc = ((rs.take i).map fun r => uptoG r.1 r.2 b).map V.int) (by rw [hl]; exact lt1000 hll) ⟨Same.refl _, rfl⟩ (fun i acc G f => SqL.of (f.1 _ _ hpW)) (fun D i x acc H' hx hD hDl hq f => ⟨rfl, ?_⟩) (fun D H' acc hD hDl hq f => ?_)
        · obtain ⟨sx, rfl⟩ := f
          obtain ⟨r, hr1, mr⟩ := (rwW.mono (sx.trans off_same)).at_ hx
          obtain ⟨g, td⟩ := ok.ok r (List.mem_of_getElem? hr1)
          refine way_t ?_
          walk_at "w"
          refine ⟨r.1, r.2, mr, g, td, fun pu G4 f4 s4 e4 => ?_⟩
          walk_at "w"
          refine ⟨_, .int _, Or.inr (SqT.of e4), at_of (j := 1) rfl rfl, ?_⟩
          refine ⟨s4 _ _ hDl, sx.trans (off_mono s4), ?_⟩
          rw [sums_at hr1 fun r => uptoG r.1 r.2 b, List.map_append]
          rfl
        · obtain ⟨sx, rfl⟩ := f
          rw [hl, List.take_length] at hDl
          have sy := sx.trans off_same
          walk_at "w"
          refine ⟨_, SqL.of hDl, ?_⟩
          walk_at "w"
          replace hpW := sy _ _ hpW
          replace rwW := rwW.mono sy
          replace sW := sW.trans sy
          have s45x := s45.trans sy
          refine way_d (fun c1 => ?_) fun c1 => ?_
          · have c1 : k0 ≤ sumG rs b := c1
            walk_at "w"
            refine comp_list (xs := us) (fun i acc G => Same H' G ∧ acc = ((rs.take i).map fun r => uptoL r.1 r.2 b).map V.int) (by rw [hl]; exact lt1000 hll) ⟨Same.refl _, rfl⟩ (fun i acc G f => SqL.of (f.1 _ _ hpW)) (fun D i x acc H' hx hD hDl hq f => ⟨rfl, ?_⟩) (fun D H' acc hD hDl hq f => ?_)
            · obtain ⟨sx, rfl⟩ := f
              obtain ⟨r, hr1, mr⟩ := (rwW.mono (sx.trans off_same)).at_ hx
              obtain ⟨g, td⟩ := ok.ok r (List.mem_of_getElem? hr1)
              refine way_t ?_
              walk_at "w"
              refine ⟨r.1, r.2, mr, g, td, fun pu G4 f4 s4 e4 => ?_⟩
              walk_at "w"
              refine ⟨_, .int _, Or.inr (SqT.of e4), at_of (j := 0) rfl rfl, ?_⟩
              refine ⟨s4 _ _ hDl, sx.trans (off_mono s4), ?_⟩
              rw [sums_at hr1 fun r => uptoL r.1 r.2 b, List.map_append]
              rfl
            · obtain ⟨sx, rfl⟩ := f
              rw [hl, List.take_length] at hDl
              have sy := sx.trans off_same
              walk_at "w"
              refine ⟨_, SqL.of hDl, ?_⟩
              walk_at "w"
              replace hpW := sy _ _ hpW
              replace rwW := rwW.mono sy
              replace sW := sW.trans sy
              refine way_d (fun c2 => ?_) fun c2 => ?_
              · have c2 : k0 ≤ sumL rs b := c2
                refine ⟨some (.int b), ?_, (s45x).trans sy⟩
                rw [eL, eH, if_pos (decide_eq_true c1), if_pos (decide_eq_true c2)]
                rfl
              · have c2 : ¬ k0 ≤ sumL rs b := c2
                refine ⟨some (.int b), ?_, (s45x).trans sy⟩
                rw [eL, eH, if_pos (decide_eq_true c1), if_neg (by simpa using c2)]
                rfl
          · have c1 : ¬ k0 ≤ sumG rs b := c1
            walk_at "w"
            refine comp_list (xs := us) (fun i acc G => Same H' G ∧ acc = ((rs.take i).map fun r => uptoL r.1 r.2 b).map V.int) (by rw [hl]; exact lt1000 hll) ⟨Same.refl _, rfl⟩ (fun i acc G f => SqL.of (f.1 _ _ hpW)) (fun D i x acc H' hx hD hDl hq f => ⟨rfl, ?_⟩) (fun D H' acc hD hDl hq f => ?_)
            · obtain ⟨sx, rfl⟩ := f
              obtain ⟨r, hr1, mr⟩ := (rwW.mono (sx.trans off_same)).at_ hx
              obtain ⟨g, td⟩ := ok.ok r (List.mem_of_getElem? hr1)
              refine way_t ?_
              walk_at "w"
              refine ⟨r.1, r.2, mr, g, td, fun pu G4 f4 s4 e4 => ?_⟩
              walk_at "w"
              refine ⟨_, .int _, Or.inr (SqT.of e4), at_of (j := 0) rfl rfl, ?_⟩
              refine ⟨s4 _ _ hDl, sx.trans (off_mono s4), ?_⟩
              rw [sums_at hr1 fun r => uptoL r.1 r.2 b, List.map_append]
              rfl
            · obtain ⟨sx, rfl⟩ := f
              rw [hl, List.take_length] at hDl
              have sy := sx.trans off_same
              walk_at "w"
              refine ⟨_, SqL.of hDl, ?_⟩
              walk_at "w"
              replace hpW := sy _ _ hpW
              replace rwW := rwW.mono sy
              replace sW := sW.trans sy
              refine way_d (fun c2 => ?_) fun c2 => ?_
              · have c2 : k0 ≤ sumL rs b := c2
                refine ⟨some (.int b), ?_, (s45x).trans sy⟩
                rw [eL, eH, if_neg (by simpa using c1), if_pos (decide_eq_true c2)]
                rfl
              · have c2 : ¬ k0 ≤ sumL rs b := c2
                refine ⟨some (.int b), ?_, (s45x).trans sy⟩
                rw [eL, eH, if_neg (by simpa using c1), if_neg (by simpa using c2)]
                rfl
      · rintro σ G5 ⟨v7, rfl, sG5⟩
        rw [List.length_map, List.take_length, last_rev, last_rev]
        have sW : Same H G5 := s03.trans (s4.trans sG5)
        have hpW := sW _ _ hp
        have rwW := rw0.mono sW
        have e0 : ws.headD 0 = w0 := by rw [ew]; rfl
        have e3' := sG5 _ _ (s4 _ _ e3)
        walk_at "w"
        refine comp_list (xs := us) (fun i acc G => Same G5 G ∧ acc = ((rs.take i).map fun r => uptoG r.1 r.2 (w0 - 1)).map V.int) (by rw [hl]; exact lt1000 hll) ⟨Same.refl _, rfl⟩ (fun i acc G f => SqL.of (f.1 _ _ hpW)) (fun D i x acc H' hx hD hDl hq f => ⟨rfl, ?_⟩) (fun D H' acc hD hDl hq f => ?_)
        · obtain ⟨sx, rfl⟩ := f
          obtain ⟨r, hr1, mr⟩ := (rwW.mono (sx.trans off_same)).at_ hx
          obtain ⟨g, td⟩ := ok.ok r (List.mem_of_getElem? hr1)
          refine way_t ?_
          walk_at "w"
          refine ⟨_, .int w0, Or.inl (SqL.of ((sx.trans off_same) _ _ e3')), at_of (j := 0) rfl (by rw [ew]; rfl), ?_⟩
          walk_at "w"
          refine ⟨r.1, r.2, mr, g, td, fun pu G6 f6 s6 e6 => ?_⟩
          walk_at "w"
          refine ⟨_, .int _, Or.inr (SqT.of e6), at_of (j := 1) rfl rfl, ?_⟩
          refine ⟨s6 _ _ hDl, sx.trans (off_mono s6), ?_⟩
          rw [sums_at hr1 fun r => uptoG r.1 r.2 (w0 - 1), List.map_append]
          rfl
        · obtain ⟨sx, rfl⟩ := f
          rw [hl, List.take_length] at hDl
          have sy := sx.trans off_same
          walk_at "w"
          refine ⟨_, SqL.of hDl, ?_⟩
          walk_at "w"
          refine way_d (fun c1 => ?_) fun c1 => ?_
          · walk_at "w"
            refine ⟨(by show 2 ≤ sizeLine; decide), fun p9 G9 f9 s9 e9 => k ws asc mem p9 G9 (none_back (sW.trans sy) f9) ((sW.trans sy).trans s9) ?_⟩
            rw [e9]
            unfold lowW
            rw [e0, if_pos (show k0 ≤ sumG rs (w0 - 1) from c1)]
            rfl
          · walk_at "w"
            refine ⟨(by show 2 ≤ sizeLine; decide), fun p9 G9 f9 s9 e9 => k ws asc mem p9 G9 (none_back (sW.trans sy) f9) ((sW.trans sy).trans s9) ?_⟩
            rw [e9]
            unfold lowW
            rw [e0, if_neg (show ¬ k0 ≤ sumG rs (w0 - 1) from c1)]
            rfl
  next => exact h.elim

end LW
namespace LW
open PySem PySem.Spec L2 GG
variable {P : Program} {w : World} {K : PySem.W.Frag} {mg : Str → Option Value} {base : Heap}

structure RsG (ss : List (T × List Int)) : Prop where
  ne : ss ≠ []
  ln : ss.length ≤ 6
  ok : ∀ r ∈ ss, r.1.Gd ∧ TdOk r.1 r.2 ∧ r.1.names.length ≤ 8
theorem RsG.rs {ss : List (T × List Int)} (h : RsG ss) : RsOk ss := ⟨h.ne, by have := h.ln; omega, fun r hr => ⟨(h.ok r hr).1, (h.ok r hr).2.1⟩⟩
theorem allW_len8 : ∀ {ss : List (T × List Int)}, (∀ r ∈ ss, r.2.length ≤ 8) → (allW ss).length ≤ 8 * ss.length
  | [], _ => Nat.le_refl _
  | r :: ss, h => by
    have a := h r (List.mem_cons_self ..)
    have b := allW_len8 (ss := ss) fun q hq => h q (List.mem_cons_of_mem _ hq)
    unfold allW at b ⊢
    rw [List.flatMap_cons, List.length_append, List.length_cons]; omega
theorem width_pos {t : T} (g : t.Gd) : 1 ≤ t.width := by
  cases t with
  | leaf z => exact Nat.le_refl _
  | grp rk ps => exact pos_len g.pts.2.1.ne
theorem RsG.w64 {ss : List (T × List Int)} (h : RsG ss) : (allW ss).length < 64 := by
  have := allW_len8 (ss := ss) fun r hr => by
    obtain ⟨a, b, c⟩ := h.ok r hr
    exact Nat.le_trans (Nat.le_of_eq b.ln) (Nat.le_trans (T.width_le a.sh).1 c)
  have := h.ln
  omega
theorem RsG.wne {ss : List (T × List Int)} (h : RsG ss) : allW ss ≠ [] := by
  cases ss with
  | nil => exact absurd rfl h.ne
  | cons r rs =>
    obtain ⟨a, b, c⟩ := h.ok r (List.mem_cons_self ..)
    have := width_pos a
    have e := b.ln
    unfold allW
    rw [List.flatMap_cons]
    intro z
    have := congrArg List.length z
    rw [List.length_append, List.length_nil] at this
    omega
theorem max_mem : ∀ {l : List Int}, l ≠ [] → ∃ m ∈ l, ∀ y ∈ l, y ≤ m
  | [], h => absurd rfl h
  | [a], _ => ⟨a, List.mem_cons_self .., fun y hy => by rw [List.mem_singleton.mp hy]; exact Int.le_refl _⟩
  | a :: b :: l, _ => by
    obtain ⟨m, h1, h2⟩ := max_mem (l := b :: l) (by simp)
    by_cases c : a ≤ m
    · exact ⟨m, List.mem_cons_of_mem _ h1, fun y hy => by
        rcases List.mem_cons.mp hy with z | z
        · rw [z]; exact c
        · exact h2 y z⟩
    · exact ⟨a, List.mem_cons_self .., fun y hy => by
        rcases List.mem_cons.mp hy with z | z
        · rw [z]; exact Int.le_refl _
        · have := h2 y z; omega⟩
theorem sum_eq {ss : List (T × List Int)} {f g : T × List Int → Int} (h : ∀ r ∈ ss, f r = g r) : (ss.map f).sum = (ss.map g).sum := by
  rw [List.map_congr_left h]
theorem RsG.top {ss : List (T × List Int)} (h : RsG ss) {k : Int} (hk : k ≤ leavesOf ss) : ∃ b ∈ allW ss, k ≤ sumG ss b := by
  obtain ⟨m, h1, h2⟩ := max_mem h.wne
  refine ⟨m, h1, ?_⟩
  have e : sumG ss m = leavesOf ss := by
    unfold sumG leavesOf
    refine sum_eq fun r hr => ?_
    have e1 : lowN r.2 m = r.2.length := by
      unfold lowN
      rw [List.filter_eq_self.mpr fun d hd => decide_eq_true (h2 d (List.mem_flatMap.mpr ⟨r, hr, hd⟩))]
    unfold uptoG
    rw [e1, Nat.sub_self, mirror0]
    omega
  omega
theorem leaves_le {ss : List (T × List Int)} : ∀ (h : ∀ r ∈ ss, r.1.names.length ≤ 8), 0 ≤ leavesOf ss ∧ leavesOf ss ≤ 8 * (ss.length : Int) := by
  induction ss with
  | nil => intro _; exact ⟨Int.le_refl _, Int.le_refl _⟩
  | cons r rs ih =>
    intro h
    have a := h r (List.mem_cons_self ..)
    obtain ⟨b, c⟩ := ih fun q hq => h q (List.mem_cons_of_mem _ hq)
    unfold leavesOf at b c ⊢
    rw [List.map_cons, List.sum_cons, List.length_cons]
    omega
def odt : Option Int → PyData
  | none => .none
  | some i => .int i
theorem dp_opt {K : PySem.W.Frag} {H : Hp} (a : Option Int) : Dp K H (optV a) (odt a) := by
  cases a with
  | none => exact .non
  | some i => exact .int i
theorem dp_opts {K : PySem.W.Frag} {H : Hp} {p : Addr} {a b : Option Int} (h : H p = some (.tup [optV a, optV b])) : Dp K H (.ref p) (.tuple [odt a, odt b]) := .tup (SqT.of h) (.cons (dp_opt a) (.cons (dp_opt b) .nil))
theorem can_opts (a b : Option Int) : PyData.canLay0 (.tuple [odt a, odt b]) = true := by cases a <;> cases b <;> rfl
theorem shaped_opts (a b : Option Int) : SeqAt.shaped (.tuple [odt a, odt b]) = true := by
  refine Bool.and_eq_true_iff.mpr ⟨can_opts a b, decide_eq_true ?_⟩
  cases a <;> cases b <;> simp [odt, PyData.depth, PyData.depthAll]
theorem cutV_to {xs : List V} {n : Nat} : cutV xs none (some (n : Int)) = xs.take n := by
  unfold cutV
  rw [HT.sIx_none, HT.sIx_nat, List.drop_zero]
  rcases Nat.le_total n xs.length with h | h
  · rw [Nat.min_eq_left h]; rfl
  · rw [Nat.min_eq_right h, List.take_of_length_le h]; exact List.take_of_length_le (Nat.le_refl _)
theorem RPs.takeN {K : PySem.W.Frag} {H : Hp} : ∀ {rs : List (T × List Int)} {vs : List V} (n : Nat), RPs K H rs vs → RPs K H (rs.take n) (vs.take n)
  | [], vs, n, h => by obtain rfl : vs = [] := h; rw [List.take_nil, List.take_nil]; rfl
  | r :: rs, vs, 0, h => rfl
  | r :: rs, vs, n + 1, ⟨v, us, e, h1, h2⟩ => by subst e; exact ⟨v, us.take n, rfl, h1, RPs.takeN n h2⟩
theorem RPs.app {K : PySem.W.Frag} {H : Hp} : ∀ {rs : List (T × List Int)} {vs : List V} {qs : List (T × List Int)} {ws : List V}, RPs K H rs vs → RPs K H qs ws → RPs K H (rs ++ qs) (vs ++ ws)
  | [], vs, qs, ws, h, h' => by obtain rfl : vs = [] := h; exact h'
  | r :: rs, vs, qs, ws, ⟨v, us, e, h1, h2⟩, h' => by subst e; exact ⟨v, us ++ ws, rfl, h1, RPs.app h2 h'⟩
theorem SqL_un {K : PySem.W.Frag} {H H' : Hp} {p a : Addr} {xs : List V} (h : SqL K H a xs) (n : H p = none) (s : SameX p H H') : SqL K H' a xs :=
  h.elim (fun h => .inl (h.elim (fun h => .inl (s _ _ (ne_of_none h n) h)) fun ⟨o, h⟩ => .inr ⟨o, s _ _ (ne_of_none h n) h⟩)) fun h => .inr h
/-- what one of the four lists is -/
structure Some4 (H : Hp) (rs : List (T × List Int)) (x : V) : Prop where
  ex : ∃ ps us ss, x = .ref ps ∧ H ps = some (.lst us) ∧ RWs H ss us ∧ RsG ss ∧ (ss.length = rs.length + 2 → ss = rs ++ rs.take 1 ++ rs.take 1)

def sp_law (K : PySem.W.Frag) : Sp := fun vs H Q _ => match vs with
  | [.ref q] => ∃ xs : List Int, SqL K H q (xs.map V.int) ∧ ∀ H', Q (.bl true) H'
  | _ => False
theorem law_ok (tp : Top K mg) {lf : Addr} {lfd : FuncData} (LF : FunD K "law" "law" (defArgs s_law) (defBody s_law) (defScope s_law) [] [] lf lfd) : FnOk P w K mg base CX0 160 lf lfd ["script"] (sp_law K) := by
  refine fo_by LF sc_law (fun vs H Q E h => by unfold sp_law at h; split at h <;> first | rfl | exact h.elim) (fun f cdv A outer s H vs Q E hr h => ⟨_, (pss_cons (ps_set (i := 1) sc_law.nd rfl (by first | exact Or.inl rfl | exact Or.inr rfl) (g_lst pa_nil)) (pss_cons (g_for PassesOwn.never rfl (w_range1 rfl tp.b_range (pa_cons (pe_op op_addG pe_int (g_call (ok__law_draw tp) hr rfl (by omega) (pa_cons (g_call (ok__law_purse tp) hr rfl (by omega) (pa_cons (gv 0) (pa_cons pe_int pa_nil))) (pa_cons pe_int pa_nil)))) pa_nil)) (pg_name (i := 2) sc_law.nd rfl (by first | exact Or.inl rfl | exact Or.inr rfl)) (pss_cons (ps_set (i := 3) sc_law.nd rfl (by first | exact Or.inl rfl | exact Or.inr rfl) (g_call (ok__law_purse tp) hr rfl (by omega) (pa_cons (gv 0) (pa_cons (pe_op op_addG pe_int (gv 2)) pa_nil)))) (pss_cons (ps_set (i := 4) sc_law.nd rfl (by first | exact Or.inl rfl | exact Or.inr rfl) (g_call (ok__law_tree tp) hr rfl (by omega) (pa_cons (gv 3) (pa_cons pe_int (pa_cons pe_int pa_nil))))) (pss_one (ps_expr (pe_bm PySem.F.plainAttrs_list PySem.F.slot_list_append PySem.F.type_list_append m_append (gv 1) (pa_cons (g_tup (pa_cons (gv 4) (pa_cons (g_call (ok__law_told tp) hr rfl (by omega) (pa_cons (gv 3) (pa_cons (g_call (ok__law_width tp) hr rfl (by omega) (pa_cons (gv 4) pa_nil)) pa_nil))) pa_nil))) pa_nil))))))) (pss_cons (g_for PassesOwn.never rfl (kw_list K rfl (g_lst (pa_cons (gv 1) (pa_cons (pe_slice (k_sl K rfl) (gv 1) po_none (po_some pe_int)) (pa_cons (k_revL K rfl (gv 1)) (pa_cons (pe_op op_addG (pe_op op_addG (gv 1) (pe_slice (k_sl K rfl) (gv 1) po_none (po_some pe_int))) (pe_slice (k_sl K rfl) (gv 1) po_none (po_some pe_int))) pa_nil)))))) (pg_name (i := 5) sc_law.nd rfl (by first | exact Or.inl rfl | exact Or.inr rfl)) (pss_cons (ps_set (i := 6) sc_law.nd rfl (by first | exact Or.inl rfl | exact Or.inr rfl) (g_lcG rfl sc_law.nd (kw_list K rfl (gv 5)) (blkOk_by (own := [("tree", 4), ("told", 10)]) (N := (["script", "rows", "at", "purse", "tree", "some", "reports", "kept", "many", "rank", "told", "one"] : List Str)) (sc := defScope s_law) (by decide +kernel)) (fun _ _ _ _ _ => k_tg2 K rfl rfl (pg_name (i := 4) sc_law.nd rfl (Or.inl rfl)) (pg_name (i := 10) sc_law.nd rfl (Or.inl rfl))) (fun _ _ _ _ _ => pts_nil) (fun _ _ _ _ _ => (g_make (mk_Report tp) hr rfl (by omega) (pa_cons (g_call (ok__law_made tp 46) hr rfl (by omega) (pa_cons (gv 4) pa_nil)) (pa_cons (gv 10) pa_nil)))))) (pss_cons (g_if (g_cmp (k_eqG K rfl hr.units) (pe_callB (k_len K rfl) (by rfl) tp.b_len (by decide +kernel) (pa_cons (gv 5) pa_nil)) (pe_op op_addG (pe_callB (k_len K rfl) (by rfl) tp.b_len (by decide +kernel) (pa_cons (gv 1) pa_nil)) pe_int) (nomark _)) (pss_one (ps_set (i := 6) sc_law.nd rfl (by first | exact Or.inl rfl | exact Or.inr rfl) (pe_op op_addG (pe_op op_addG (pe_slice (k_sl K rfl) (gv 6) po_none (po_some (pe_callB (k_len K rfl) (by rfl) tp.b_len (by decide +kernel) (pa_cons (gv 1) pa_nil)))) (pe_slice (k_sl K rfl) (gv 6) po_none (po_some pe_int))) (pe_slice (k_sl K rfl) (gv 6) po_none (po_some pe_int))))) pss_nil) (pss_cons (ps_set (i := 7) sc_law.nd rfl (by first | exact Or.inl rfl | exact Or.inr rfl) (pe_callTy (k_list K rfl) (by rfl) tp.b_list (by decide +kernel) (pa_cons (gv 6) pa_nil))) (pss_cons (ps_set (i := 8) sc_law.nd rfl (by first | exact Or.inl rfl | exact Or.inr rfl) (pe_callB (k_sum K rfl rfl) (by rfl) tp.b_sum (by decide +kernel) (pa_cons (g_lcG rfl sc_law.nd (kw_list K rfl (gv 5)) (blkOk_by (own := [("tree", 4), ("told", 10)]) (N := (["script", "rows", "at", "purse", "tree", "some", "reports", "kept", "many", "rank", "told", "one"] : List Str)) (sc := defScope s_law) (by decide +kernel)) (fun _ _ _ _ _ => k_tg2 K rfl rfl (pg_name (i := 4) sc_law.nd rfl (Or.inl rfl)) (pg_name (i := 10) sc_law.nd rfl (Or.inl rfl))) (fun _ _ _ _ _ => pts_nil) (fun _ _ _ _ _ => (pe_callB (k_len K rfl) (by rfl) tp.b_len (by decide +kernel) (pa_cons (g_call (ok__law_names tp 46) hr rfl (by omega) (pa_cons (gv 4) pa_nil)) pa_nil)))) pa_nil))) (pss_cons (g_for PassesOwn.never rfl (w_range2 rfl tp.b_range (pa_cons pe_int (pa_cons (pe_op op_addG (gv 8) pe_int) pa_nil))) (pg_name (i := 9) sc_law.nd rfl (by first | exact Or.inl rfl | exact Or.inr rfl)) (pss_cons (ps_set (i := 10) sc_law.nd rfl (by first | exact Or.inl rfl | exact Or.inr rfl) (g_call (ok_kth tp) hr rfl (by omega) (pa_cons (gv 6) (pa_cons (gv 9) pa_nil)))) (pss_cons (g_if (PW.pt (g_or (pt_not (g_val (pe_callB (k_isi K rfl) (by rfl) tp.b_isinstance (by decide +kernel) (pa_cons (gv 10) (pa_cons (pe_bltn (v := .ty "tuple") rfl tp.b_tuple (by decide +kernel) rfl) pa_nil))))) (pw_or1 (g_cmp (k_neG K rfl hr.units) (gv 10) (g_call (ok__law_due tp) hr rfl (by omega) (pa_cons (gv 5) (pa_cons (gv 9) pa_nil))) (nomark _))))) (pss_one (ps_ret pe_bl)) pss_nil) (pss_one (g_if (g_cmp (k_neG K rfl hr.units) (g_lc rfl sc_law.nd (kw_tup K rfl (gv 10)) (blkOk_by (own := [("one", 11)]) (N := (["script", "rows", "at", "purse", "tree", "some", "reports", "kept", "many", "rank", "told", "one"] : List Str)) (sc := defScope s_law) (by decide +kernel)) (fun _ _ _ _ _ => pg_name (i := 11) sc_law.nd rfl (Or.inl rfl)) (fun _ _ _ _ _ => (pts_one (PW.pt (g_and (g_cmp op_isnG (gv 11) pe_non (nomark _)) (pw_and1 (pt_not (g_val (g_call (ok__law_whole tp) hr rfl (by omega) (pa_cons (gv 11) pa_nil))))))))) (fun _ _ _ _ _ => (gv 11))) (g_lst pa_nil) (nomark _)) (pss_one (ps_ret pe_bl)) pss_nil))))) (pss_cons (ps_expr (g_call (ok_known_counts tp) hr rfl (by omega) (pa_cons (gv 6) (pa_cons pe_int pa_nil)))) (pss_one (g_if (PW.pt (g_or (g_cmp (k_neG K rfl hr.units) (pe_callB (k_len K rfl) (by rfl) tp.b_len (by decide +kernel) (pa_cons (gv 6) pa_nil)) (pe_callB (k_len K rfl) (by rfl) tp.b_len (by decide +kernel) (pa_cons (gv 5) pa_nil)) (nomark _)) (pw_or1 (g_cmp (k_neG K rfl hr.units) (g_lc rfl sc_law.nd (w_range1 rfl tp.b_range (pa_cons (pe_callB (k_len K rfl) (by rfl) tp.b_len (by decide +kernel) (pa_cons (gv 7) pa_nil)) pa_nil)) (blkOk_by (own := [("at", 2)]) (N := (["script", "rows", "at", "purse", "tree", "some", "reports", "kept", "many", "rank", "told", "one"] : List Str)) (sc := defScope s_law) (by decide +kernel)) (fun _ _ _ _ _ => pg_name (i := 2) sc_law.nd rfl (Or.inl rfl)) (fun _ _ _ _ _ => (pts_one (g_cmp (k_neSelf K rfl hr.units) (pe_ix (k_ix K rfl) (gv 7) (gv 2) (fun _ _ => rfl)) (pe_ix (k_ix K rfl) (gv 6) (gv 2) (fun _ _ => rfl)) (nomark _)))) (fun _ _ _ _ _ => (gv 2))) (g_lst pa_nil) (nomark _))))) (pss_one (ps_ret pe_bl)) pss_nil))))))))) (pss_one (ps_ret pe_bl))))), ?_⟩)
  unfold sp_law at h
  split at h
  next q =>
    obtain ⟨xs, hq, k⟩ := h
    walk_at "w"
    refine ⟨(by show 0 ≤ sizeLine; decide), fun pr H0 fpr s0 epr => ?_⟩
    walk_at "w"
    refine ⟨xs, s0.seq hq, fun pu0 H1 fpu0 s1 hpu0 => ?_⟩
    refine ⟨hpu0, by decide, by decide, fun d H2 d0 d1 s2 _ => ?_⟩
    have npu0 : pr ≠ pu0 := by rintro rfl; rw [epr] at fpu0; cases fpu0
    have sx2 : SameX pr H H2 := fun b o n e => s2 b o (ne_of_none (s0 _ _ e) fpu0) (s1 _ _ (s0 _ _ e))
    have epr2 := s2 _ _ npu0 (s1 _ _ epr)
    walk_at "w"
    refine ⟨by omega, ?_⟩
    have e1d : (1 + d).toNat = 1 + d.toNat := by omega
    rw [e1d]
    refine forw_range (fun i σ G => ∃ v2 v3 v4 us rs, σ = [some (.ref q), some (.ref pr), v2, v3, v4, none, none, none, none, none, none, none] ∧ SameX pr H G ∧ G pr = some (.lst us) ∧ RWs (off pr G) rs us ∧ rs.length = i ∧ ∀ r ∈ rs, r.1.Gd ∧ TdOk r.1 r.2 ∧ r.1.names.length ≤ 8)
      ⟨none, none, none, [], [], rfl, sx2, epr2, rfl, rfl, fun r hr => by simp at hr⟩ ?_ ?_
    · rintro i σ G hi ⟨v2, v3, v4, us, rs, rfl, sG, eG, rw1, rl, rok⟩
      have hus := rw1.length
      walk_at "w"
      refine ⟨xs, SqL_un hq fpr sG, fun p H3 fp s3 hp3 => ?_⟩
      have nprp : pr ≠ p := by rintro rfl; rw [eG] at fp; cases fp
      walk_at "w"
      refine ⟨hp3, by decide, by decide, fun t tv H4 s4 hp4 lt g hz => ?_⟩
      have wle := T.width_le g.sh
      walk_at "w"
      refine ⟨Or.inl ⟨rfl, us, SqL.of (s4 _ _ nprp (s3 _ _ eG))⟩, ?_⟩
      walk_at "w"
      refine ⟨t, lt.mono fresh_same, ?_⟩
      have gsz := g.sz
      refine ⟨hp4, by omega, by omega, fun ds tr H5 dl dpw ftr s5 hp5 etr => ?_⟩
      walk_at "w"
      refine ⟨(by show 2 ≤ sizeLine; decide), fun pt H6 fpt s6 ept => ?_⟩
      have eG4 := s4 _ _ nprp (s3 _ _ eG)
      have eG5 := s5 _ _ nprp eG4
      have eG6 := s6 _ _ eG5
      refine ⟨us, eG6, by rw [hus]; exact lt1000 (by omega), fun H7 s7 e7 => ?_⟩
      have up : ∀ b o, b ≠ pr → G b = some o → H7 b = some o := fun b o n e => s7 b o n (s6 _ _ (s5 _ _ (ne_of_none e fp) (s4 _ _ (ne_of_none e fp) (s3 _ _ e))))
      have tdok : TdOk t ds := ⟨by rw [dl]; omega, dpw⟩
      have npt : pt ≠ pr := by rintro rfl; rw [eG5] at fpt; cases fpt
      have ntr : tr ≠ pr := by rintro rfl; rw [eG4] at ftr; cases ftr
      refine ⟨_, _, _, us ++ [.ref pt], rs ++ [(t, ds)], rfl, fun b o n e => up b o n (sG b o n e), e7, ?_, by rw [List.length_append, rl]; rfl, fun r hr => ?_⟩
      · refine RWs.app (rw1.mono fun b o e => ?_) ⟨.ref pt, [], rfl, ⟨pt, tv, tr, rfl, ?_, lt.mono fun b o e => ?_, ?_⟩, rfl⟩
        · obtain ⟨n, e⟩ := off_some e
          rw [off_at n]; exact up b o n e
        · rw [off_at npt]; exact s7 _ _ npt ept
        · obtain ⟨n, e⟩ := fresh_some e
          have nb : b ≠ pr := (ne_of_none (s3 _ _ eG) n).symm
          have nbp : b ≠ p := hp3.ne n
          rw [off_at nb]; exact s7 _ _ nb (s6 _ _ (s5 _ _ nbp e))
        · rw [off_at ntr]; exact s7 _ _ ntr (s6 _ _ etr)
      · rcases List.mem_append.mp hr with z | z
        · exact rok r z
        · rw [List.mem_singleton.mp z]; exact ⟨g, tdok, hz⟩
    · rintro σ G ⟨v2, v3, v4, us, rs, rfl, sG, eG, rw1, rl, rok⟩
      have rwG : RWs G rs us := rw1.mono off_same
      have hus := rwG.length
      have rne : rs ≠ [] := by intro z; rw [z] at rl; simp at rl; omega
      have g1 : RsG rs := ⟨rne, by omega, rok⟩
      have tk1 : ∀ r ∈ rs.take 1, r ∈ rs := fun r hr => List.mem_of_mem_take hr
      have tl1 : (rs.take 1).length = 1 := by
        rw [List.length_take]
        have := pos_len rne
        omega
      have g2 : RsG (rs.take 1) := ⟨by intro z; rw [z] at tl1; simp at tl1, by omega, fun r hr => rok r (tk1 r hr)⟩
      have g3 : RsG rs.reverse := ⟨by simpa using rne, by rw [List.length_reverse]; omega, fun r hr => rok r (List.mem_reverse.mp hr)⟩
      have g4 : RsG (rs ++ rs.take 1 ++ rs.take 1) := ⟨by simp [rne], by rw [List.length_append, List.length_append]; omega, fun r hr => by
        rcases List.mem_append.mp hr with z | z
        · rcases List.mem_append.mp z with z | z
          · exact rok r z
          · exact rok r (tk1 r z)
        · exact rok r (tk1 r z)⟩
      have z6 : ∀ n, n ≤ 1000 → n ≤ sizeLine := fun n h => Nat.le_trans h (by decide)
      walk_at "w"
      refine ⟨_, rfl, ?_⟩
      refine ⟨_, SqL.of eG, fun p1 G1 f1 s1' e1 => ?_⟩
      rw [cutV_take1] at e1
      walk_at "w"
      refine ⟨_, SqL.of (s1' _ _ eG), fun p2 G2 f2 s2' e2 => ?_⟩
      walk_at "w"
      refine ⟨_, rfl, ?_⟩
      have s12 := s1'.trans s2'
      refine ⟨_, SqL.of (s12 _ _ eG), fun p3 G3 f3 s3' e3 => ?_⟩
      rw [cutV_take1] at e3
      have s13 := s12.trans s3'
      refine ⟨_, _, s13 _ _ eG, e3, z6 _ (by rw [List.length_take]; omega), fun p4 G4 f4 s4' e4 => ?_⟩
      walk_at "w"
      refine ⟨_, rfl, ?_⟩
      have s14 := s13.trans s4'
      refine ⟨_, SqL.of (s14 _ _ eG), fun p5 G5 f5 s5' e5 => ?_⟩
      rw [cutV_take1] at e5
      refine ⟨_, _, s5' _ _ e4, e5, z6 _ (by rw [List.length_append, List.length_take]; omega), fun p6 G6 f6 s6' e6 => ?_⟩
      walk_at "w"
      refine ⟨(by show 4 ≤ sizeLine; decide), fun pl G9 fpl s9 epl => ?_⟩
      have sGG : Same G G9 := s14.trans (s5'.trans (s6'.trans s9))
      have rw9 := rwG.mono sGG
      have four : ∀ (i : Nat) x, ([.ref pr, .ref p1, .ref p2, .ref p6] : List V)[i]? = some x → Some4 G9 rs x := fun i x hx => by
        match i, hx with
        | 0, hx => exact ⟨pr, us, rs, by simpa using hx.symm, sGG _ _ eG, rw9, g1, fun z => by omega⟩
        | 1, hx => exact ⟨p1, us.take 1, rs.take 1, by simpa using hx.symm, (s2'.trans (s3'.trans (s4'.trans (s5'.trans (s6'.trans s9))))) _ _ e1, rw9.take, g2, fun z => by omega⟩
        | 2, hx => exact ⟨p2, us.reverse, rs.reverse, by simpa using hx.symm, (s3'.trans (s4'.trans (s5'.trans (s6'.trans s9)))) _ _ e2, rw9.rev, g3, fun z => by rw [List.length_reverse] at z; omega⟩
        | 3, hx => exact ⟨p6, us ++ us.take 1 ++ us.take 1, rs ++ rs.take 1 ++ rs.take 1, by simpa using hx.symm, s9 _ _ e6, (rw9.app rw9.take).app rw9.take, g4, fun _ => rfl⟩
        | n + 4, hx => simp at hx
      clear rw1 s1' s2' s3' s4' s5' s6' s12 s13 s14
      refine forw_list (xs := [.ref pr, .ref p1, .ref p2, .ref p6]) (fun i σ G => ∃ w2 w3 w4 w5 w6 w7 w8 w9 w10, σ = [some (.ref q), some (.ref pr), w2, w3, w4, w5, w6, w7, w8, w9, w10, none] ∧ Same G9 G) ⟨_, _, _, _, _, _, _, _, _, rfl, Same.refl _⟩ (fun i σ G _ f => SqL.of (by obtain ⟨_, _, _, _, _, _, _, _, _, _, sg⟩ := f; exact sg _ _ epl)) ?_ ?_
      · rintro i x σ G10 hx ⟨w2, w3, w4, w5, w6, w7, w8, w9, w10, rfl, sT⟩
        obtain ⟨ps, us2, ss, rfl, eps, rws, gs, hlen⟩ := (four i x hx).ex
        have eps10 := sT _ _ eps
        have rws10 := rws.mono sT
        have hl2 := rws.length
        have sl1 : ss.length ≤ 1000 := by have := gs.ln; omega
        have epr10 : G10 pr = some (.lst us) := sT _ _ (sGG _ _ eG)
        walk_at "w"
        refine compG_list (xs := us2) tg2_up (fun i acc G => Same G10 G ∧ RPs K G (ss.take i) acc) (by rw [hl2]; exact lt1000 sl1) ⟨Same.refl _, rfl⟩ (fun i acc G f => SqL.of (f.1 _ _ eps10)) (fun D i x acc H' hx hD hDl hq2 f => ?_) (fun D G11 acc hD hDl hal f => ?_)
        · obtain ⟨sx, rps⟩ := f
          obtain ⟨r, hr1, ⟨a, tv, tr, rfl, h1, h2, h3⟩⟩ := (rws10.mono (sx.trans off_same)).at_ hx
          obtain ⟨g, td, g8⟩ := gs.ok r (List.mem_of_getElem? hr1)
          refine tg2_of h1 ⟨rfl, way_t ?_⟩
          walk_at "w"
          refine ⟨r.1, h2, g, Nat.lt_succ_of_le g.dp, fun mv H4 s4 mt => ?_⟩
          refine ⟨r.1, r.2, mt, s4 _ _ h3, td, td.len g, fun rv H5 s5 mr => ?_⟩
          have sD := s4.trans s5
          have eD := sD _ _ hDl
          refine ⟨eD, sx.trans (off_mono sD), ?_⟩
          rw [List.take_add_one, hr1]
          exact RPs.snoc (mr.mono (SameT.off eD)) (rps.mono (SameT.of (off_mono sD)))
        · obtain ⟨sx, rps⟩ := f
          rw [hl2, List.take_length] at rps
          have rps11 := rps.mono (SameT.of (off_same (D := D) (H := G11)))
          have sA : Same G10 G11 := sx.trans off_same
          have hacc := rps11.length
          walk_at "w"
          refine ⟨_, Or.inl (SqL.of (sA _ _ eps10)), ?_⟩
          refine ⟨_, Or.inl (SqL.of (sA _ _ epr10)), ?_⟩
          rw [hl2, hus]
          walk_at "w"
          refine way_d (fun c => ?_) fun c => ?_
          · have ess := hlen (by omega)
            walk_at "w"
            refine ⟨_, Or.inl (SqL.of (sA _ _ epr10)), ?_⟩
            rw [hus]
            refine ⟨_, rfl, ?_⟩
            refine ⟨_, SqL.of hDl, fun q1 K1 j1 t1 y1 => ?_⟩
            rw [cutV_to] at y1
            walk_at "w"
            refine ⟨_, rfl, ?_⟩
            refine ⟨_, SqL.of (t1 _ _ hDl), fun q2 K2 j2 t2 y2 => ?_⟩
            rw [cutV_take1] at y2
            have t12 := t1.trans t2
            refine ⟨_, _, t2 _ _ y1, y2, z6 _ (by rw [List.length_take, List.length_take]; omega), fun q3 K3 j3 t3 y3 => ?_⟩
            walk_at "w"
            refine ⟨_, rfl, ?_⟩
            have t13 := t12.trans t3
            refine ⟨_, SqL.of (t13 _ _ hDl), fun q4 K4 j4 t4 y4 => ?_⟩
            rw [cutV_take1] at y4
            refine ⟨_, _, t4 _ _ y3, y4, z6 _ (by rw [List.length_append, List.length_take, List.length_take]; omega), fun pq G12 j5 t5 e12 => ?_⟩
            have sB : Same G10 G12 := sA.trans (t13.trans (t4.trans t5))
            have rr := rps11.mono (SameT.of (t13.trans (t4.trans t5)))
            have rp12 : RPs K G12 ss (acc.take rs.length ++ acc.take 1 ++ acc.take 1) := by
              have h1 := (RPs.app (RPs.takeN rs.length rr) (RPs.takeN 1 rr)).app (RPs.takeN 1 rr)
              have e1 : ss.take rs.length = rs := by rw [ess, List.append_assoc, List.take_left']; rfl
              have e2 : ss.take 1 = rs.take 1 := by
                obtain ⟨r0, r1, er⟩ : ∃ a b, rs = a :: b := by
                  cases rs with
                  | nil => exact absurd rfl rne
                  | cons a b => exact ⟨a, b, rfl⟩
                rw [ess, er]; rfl
              rw [e1, e2, ← ess] at h1
              exact h1
            generalize acc.take rs.length ++ acc.take 1 ++ acc.take 1 = reps at e12 rp12
            walk_at "w"
            refine ⟨_, Or.inl (SqL.of e12), fun pk G13 f13 s13 e13 => ?_⟩
            have sC : Same G10 G13 := sB.trans s13
            walk_at "w"
            refine compG_list (xs := us2) tg2_up (fun i acc G => Same G13 G ∧ acc = ((ss.take i).map fun r => (r.1.names.length : Int)).map V.int) (by rw [hl2]; exact lt1000 sl1) ⟨Same.refl _, rfl⟩ (fun i acc G f => SqL.of (f.1 _ _ (sC _ _ eps10))) (fun D i x acc H' hx hD hDl hq2 f => ?_) (fun D G14 acc hD hDl hal f => ?_)
            · obtain ⟨sx, rfl⟩ := f
              obtain ⟨r, hr1, ⟨a, tv, tr, rfl, h1, h2, h3⟩⟩ := (rws10.mono (sC.trans (sx.trans off_same))).at_ hx
              obtain ⟨g, td, g8⟩ := gs.ok r (List.mem_of_getElem? hr1)
              refine tg2_of h1 ⟨rfl, way_t ?_⟩
              walk_at "w"
              refine ⟨r.1, h2, Nat.lt_succ_of_le g.dp, g.sz, fun pn H4 fn s4 en => ?_⟩
              refine ⟨_, Or.inl (SqL.of en), ?_⟩
              rw [List.length_map]
              refine ⟨s4 _ _ hDl, sx.trans (off_mono s4), ?_⟩
              rw [sums_at hr1 fun r => (r.1.names.length : Int), List.map_append]
              rfl
            · obtain ⟨sx, rfl⟩ := f
              rw [hl2, List.take_length] at hDl
              have s1314 : Same G13 G14 := sx.trans off_same
              have sD : Same G10 G14 := sC.trans s1314
              walk_at "w"
              refine ⟨_, SqL.of hDl, ?_⟩
              obtain ⟨lv0, lv1⟩ := leaves_le fun r hr => (gs.ok r hr).2.2
              have lv6 := gs.ln
              have eL : (ss.map fun r => (r.1.names.length : Int)).sum = leavesOf ss := rfl
              rw [eL]
              walk_at "w"
              refine ⟨by omega, ?_⟩
              have en : (leavesOf ss + 1 - 1).toNat = (leavesOf ss).toNat := by congr 1; omega
              rw [en]
              refine forw_range (fun i σ G => ∃ w2 w3 w4 w9 w10, σ = [some (.ref q), some (.ref pr), w2, w3, w4, some (.ref ps), some (.ref pq), some (.ref pk), some (.int (leavesOf ss)), w9, w10, none] ∧ Same G14 G) ⟨_, _, _, _, _, rfl, Same.refl _⟩ ?_ ?_
              · rintro i σ G15 hi ⟨u2, u3, u4, u9, u10, rfl, sR⟩
                have sE : Same G10 G15 := sD.trans sR
                have sE12 : Same G12 G15 := s13.trans (s1314.trans sR)
                have k1 : (1 : Int) ≤ 1 + (i : Int) := by omega
                have k2 : 1 + (i : Int) ≤ leavesOf ss := by omega
                walk_at "w"
                refine ⟨reps, ss, sE12 _ _ e12, rp12.mono (SameT.of sE12), gs.rs, k1, k2, gs.w64, gs.wne, gs.top k2, fun ws asc mem pt G16 ft st et => ?_⟩
                walk_at "w"
                refine ⟨_, is_tt et, way_f ?_⟩
                walk_at "w"
                refine ⟨us2, ss, (sE.trans st) _ _ eps10, rws10.mono (sE.trans st), gs.rs, gs.w64, gs.wne, fun ws2 asc2 mem2 pd G17 fd sd ed => ?_⟩
                obtain rfl : ws2 = ws := asc_uniq asc2 asc fun x => (mem2 x).trans (mem x).symm
                have et' := sd _ _ et
                refine Or.inr ⟨_, _, dp_opts et', dp_opts ed, shaped_opts _ _, shaped_opts _ _, ?_⟩
                rw [SeqAt.eqv_refl _ (can_opts _ _)]
                refine way_f ?_
                walk_at "w"
                refine comp_tup (xs := [optV (lowW ss ws2 (1 + (i : Int))), optV (firstW (sumL ss) ws2 (1 + (i : Int)))]) (fun i acc G => Same G17 G ∧ acc = []) (by show 2 < sizeLine; decide) ⟨Same.refl _, rfl⟩ (fun i acc G f => SqT.of (f.1 _ _ et')) (fun D2 j x acc H' hx hD2 hDl2 hq3 f => ⟨rfl, ?_⟩) (fun D2 G18 acc hD2 hDl2 hq3 f => ?_)
                · obtain ⟨sx2, rfl⟩ := f
                  obtain ⟨o, rfl⟩ : ∃ o : Option Int, x = optV o := by
                    match j, hx with
                    | 0, hx => exact ⟨_, by simpa using hx.symm⟩
                    | 1, hx => exact ⟨_, by simpa using hx.symm⟩
                    | n + 2, hx => simp at hx
                  cases o with
                  | none =>
                    walk_at "w"
                    refine way_f ?_
                    exact way_f ⟨hDl2, sx2, rfl⟩
                  | some z =>
                    walk_at "w"
                    refine way_t ?_
                    walk_at "w"
                    exact way_f ⟨hDl2, sx2, rfl⟩
                · obtain ⟨sx2, rfl⟩ := f
                  walk_at "w"
                  refine ⟨(by show 0 ≤ sizeLine; decide), fun pz G19 fz sz ez => Or.inl ⟨[], SqL.of (sz _ _ hDl2), ez, ?_⟩⟩
                  refine way_f ?_
                  exact ⟨_, _, _, _, _, rfl, sR.trans (st.trans (sd.trans ((sx2.trans off_same).trans sz)))⟩
              · rintro σ G15 ⟨u2, u3, u4, u9, u10, rfl, sR⟩
                have sE : Same G10 G15 := sD.trans sR
                have sE12 : Same G12 G15 := s13.trans (s1314.trans sR)
                have hreps := rp12.length
                walk_at "w"
                refine ⟨reps, ss, sE12 _ _ e12, rp12.mono (SameT.of sE12), gs.rs, fun pz G16 fz sz ez => ?_⟩
                walk_at "w"
                refine ⟨_, Or.inl (SqL.of (sz _ _ (sE12 _ _ e12))), ?_⟩
                refine ⟨_, Or.inl (SqL.of (sz _ _ (sE _ _ eps10))), ?_⟩
                rw [hreps, hl2]
                walk_at "w"
                refine way_nd (fun c => absurd rfl c) fun _ => ?_
                walk_at "w"
                have e13' : G16 pk = some (.lst reps) := sz _ _ (sR _ _ (s1314 _ _ e13))
                have e12' : G16 pq = some (.lst reps) := sz _ _ (sE12 _ _ e12)
                refine ⟨_, Or.inl (SqL.of e13'), ?_⟩
                rw [hreps]
                refine ⟨by omega, ?_⟩
                rw [Int.toNat_natCast]
                refine comp_range (fun i acc G => Same G16 G ∧ acc = []) (lt1000 sl1) ⟨Same.refl _, rfl⟩ (fun D2 j acc H' hj hD2 hDl2 hq3 f => ⟨rfl, ?_⟩) (fun D2 G17 acc hD2 hDl2 hq3 f => ?_)
                · obtain ⟨sx2, rfl⟩ := f
                  have sx3 : Same G16 H' := sx2.trans off_same
                  have hjr : j < reps.length := by omega
                  obtain ⟨r, hr1, ⟨a, dx, tv, tq, ea, ha, _, _⟩⟩ := (rp12.mono (SameT.of (sE12.trans (sz.trans sx3)))).at_ (List.getElem?_eq_getElem hjr)
                  have hv : reps[j]? = some (.ref a) := by rw [List.getElem?_eq_getElem hjr, ea]
                  walk_at "w"
                  refine ⟨_, .ref a, Or.inl (SqL.of (sx3 _ _ e13')), at_of (j := j) (by omega) hv, ?_⟩
                  walk_at "w"
                  refine ⟨_, .ref a, Or.inl (SqL.of (sx3 _ _ e12')), at_of (j := j) (by omega) hv, ?_⟩
                  refine ⟨rfl, ⟨_, _, _, ha, tp.o_Report⟩, ?_⟩
                  exact way_f ⟨hDl2, sx2, rfl⟩
                · obtain ⟨sx2, rfl⟩ := f
                  walk_at "w"
                  refine ⟨(by show 0 ≤ sizeLine; decide), fun pz2 G18 fz2 sz2 ez2 => Or.inl ⟨[], SqL.of (sz2 _ _ hDl2), ez2, ?_⟩⟩
                  refine way_f ?_
                  exact ⟨_, _, _, _, _, _, _, _, _, rfl, sT.trans (sE.trans (sz.trans ((sx2.trans off_same).trans sz2)))⟩
          · have e12 : G11 D = some (.lst acc) := hDl
            have sB := sA
            have rp12 := rps11
            generalize hg12 : G11 = G12 at e12 sB rp12 ⊢
            generalize hpq : D = pq at e12 ⊢
            generalize hrep : acc = reps at e12 rp12
            clear hDl rps11 rps sx sA
            walk_at "w"
            refine ⟨_, Or.inl (SqL.of e12), fun pk G13 f13 s13 e13 => ?_⟩
            have sC : Same G10 G13 := sB.trans s13
            walk_at "w"
            refine compG_list (xs := us2) tg2_up (fun i acc G => Same G13 G ∧ acc = ((ss.take i).map fun r => (r.1.names.length : Int)).map V.int) (by rw [hl2]; exact lt1000 sl1) ⟨Same.refl _, rfl⟩ (fun i acc G f => SqL.of (f.1 _ _ (sC _ _ eps10))) (fun D i x acc H' hx hD hDl hq2 f => ?_) (fun D G14 acc hD hDl hal f => ?_)
            · obtain ⟨sx, rfl⟩ := f
              obtain ⟨r, hr1, ⟨a, tv, tr, rfl, h1, h2, h3⟩⟩ := (rws10.mono (sC.trans (sx.trans off_same))).at_ hx
              obtain ⟨g, td, g8⟩ := gs.ok r (List.mem_of_getElem? hr1)
              refine tg2_of h1 ⟨rfl, way_t ?_⟩
              walk_at "w"
              refine ⟨r.1, h2, Nat.lt_succ_of_le g.dp, g.sz, fun pn H4 fn s4 en => ?_⟩
              refine ⟨_, Or.inl (SqL.of en), ?_⟩
              rw [List.length_map]
              refine ⟨s4 _ _ hDl, sx.trans (off_mono s4), ?_⟩
              rw [sums_at hr1 fun r => (r.1.names.length : Int), List.map_append]
              rfl
            · obtain ⟨sx, rfl⟩ := f
              rw [hl2, List.take_length] at hDl
              have s1314 : Same G13 G14 := sx.trans off_same
              have sD : Same G10 G14 := sC.trans s1314
              walk_at "w"
              refine ⟨_, SqL.of hDl, ?_⟩
              obtain ⟨lv0, lv1⟩ := leaves_le fun r hr => (gs.ok r hr).2.2
              have lv6 := gs.ln
              have eL : (ss.map fun r => (r.1.names.length : Int)).sum = leavesOf ss := rfl
              rw [eL]
              walk_at "w"
              refine ⟨by omega, ?_⟩
              have en : (leavesOf ss + 1 - 1).toNat = (leavesOf ss).toNat := by congr 1; omega
              rw [en]
              refine forw_range (fun i σ G => ∃ w2 w3 w4 w9 w10, σ = [some (.ref q), some (.ref pr), w2, w3, w4, some (.ref ps), some (.ref pq), some (.ref pk), some (.int (leavesOf ss)), w9, w10, none] ∧ Same G14 G) ⟨_, _, _, _, _, rfl, Same.refl _⟩ ?_ ?_
              · rintro i σ G15 hi ⟨u2, u3, u4, u9, u10, rfl, sR⟩
                have sE : Same G10 G15 := sD.trans sR
                have sE12 : Same G12 G15 := s13.trans (s1314.trans sR)
                have k1 : (1 : Int) ≤ 1 + (i : Int) := by omega
                have k2 : 1 + (i : Int) ≤ leavesOf ss := by omega
                walk_at "w"
                refine ⟨reps, ss, sE12 _ _ e12, rp12.mono (SameT.of sE12), gs.rs, k1, k2, gs.w64, gs.wne, gs.top k2, fun ws asc mem pt G16 ft st et => ?_⟩
                walk_at "w"
                refine ⟨_, is_tt et, way_f ?_⟩
                walk_at "w"
                refine ⟨us2, ss, (sE.trans st) _ _ eps10, rws10.mono (sE.trans st), gs.rs, gs.w64, gs.wne, fun ws2 asc2 mem2 pd G17 fd sd ed => ?_⟩
                obtain rfl : ws2 = ws := asc_uniq asc2 asc fun x => (mem2 x).trans (mem x).symm
                have et' := sd _ _ et
                refine Or.inr ⟨_, _, dp_opts et', dp_opts ed, shaped_opts _ _, shaped_opts _ _, ?_⟩
                rw [SeqAt.eqv_refl _ (can_opts _ _)]
                refine way_f ?_
                walk_at "w"
                refine comp_tup (xs := [optV (lowW ss ws2 (1 + (i : Int))), optV (firstW (sumL ss) ws2 (1 + (i : Int)))]) (fun i acc G => Same G17 G ∧ acc = []) (by show 2 < sizeLine; decide) ⟨Same.refl _, rfl⟩ (fun i acc G f => SqT.of (f.1 _ _ et')) (fun D2 j x acc H' hx hD2 hDl2 hq3 f => ⟨rfl, ?_⟩) (fun D2 G18 acc hD2 hDl2 hq3 f => ?_)
                · obtain ⟨sx2, rfl⟩ := f
                  obtain ⟨o, rfl⟩ : ∃ o : Option Int, x = optV o := by
                    match j, hx with
                    | 0, hx => exact ⟨_, by simpa using hx.symm⟩
                    | 1, hx => exact ⟨_, by simpa using hx.symm⟩
                    | n + 2, hx => simp at hx
                  cases o with
                  | none =>
                    walk_at "w"
                    refine way_f ?_
                    exact way_f ⟨hDl2, sx2, rfl⟩
                  | some z =>
                    walk_at "w"
                    refine way_t ?_
                    walk_at "w"
                    exact way_f ⟨hDl2, sx2, rfl⟩
                · obtain ⟨sx2, rfl⟩ := f
                  walk_at "w"
                  refine ⟨(by show 0 ≤ sizeLine; decide), fun pz G19 fz sz ez => Or.inl ⟨[], SqL.of (sz _ _ hDl2), ez, ?_⟩⟩
                  refine way_f ?_
                  exact ⟨_, _, _, _, _, rfl, sR.trans (st.trans (sd.trans ((sx2.trans off_same).trans sz)))⟩
              · rintro σ G15 ⟨u2, u3, u4, u9, u10, rfl, sR⟩
                have sE : Same G10 G15 := sD.trans sR
                have sE12 : Same G12 G15 := s13.trans (s1314.trans sR)
                have hreps := rp12.length
                walk_at "w"
                refine ⟨reps, ss, sE12 _ _ e12, rp12.mono (SameT.of sE12), gs.rs, fun pz G16 fz sz ez => ?_⟩
                walk_at "w"
                refine ⟨_, Or.inl (SqL.of (sz _ _ (sE12 _ _ e12))), ?_⟩
                refine ⟨_, Or.inl (SqL.of (sz _ _ (sE _ _ eps10))), ?_⟩
                rw [hreps, hl2]
                walk_at "w"
                refine way_nd (fun c => absurd rfl c) fun _ => ?_
                walk_at "w"
                have e13' : G16 pk = some (.lst reps) := sz _ _ (sR _ _ (s1314 _ _ e13))
                have e12' : G16 pq = some (.lst reps) := sz _ _ (sE12 _ _ e12)
                refine ⟨_, Or.inl (SqL.of e13'), ?_⟩
                rw [hreps]
                refine ⟨by omega, ?_⟩
                rw [Int.toNat_natCast]
                refine comp_range (fun i acc G => Same G16 G ∧ acc = []) (lt1000 sl1) ⟨Same.refl _, rfl⟩ (fun D2 j acc H' hj hD2 hDl2 hq3 f => ⟨rfl, ?_⟩) (fun D2 G17 acc hD2 hDl2 hq3 f => ?_)
                · obtain ⟨sx2, rfl⟩ := f
                  have sx3 : Same G16 H' := sx2.trans off_same
                  have hjr : j < reps.length := by omega
                  obtain ⟨r, hr1, ⟨a, dx, tv, tq, ea, ha, _, _⟩⟩ := (rp12.mono (SameT.of (sE12.trans (sz.trans sx3)))).at_ (List.getElem?_eq_getElem hjr)
                  have hv : reps[j]? = some (.ref a) := by rw [List.getElem?_eq_getElem hjr, ea]
                  walk_at "w"
                  refine ⟨_, .ref a, Or.inl (SqL.of (sx3 _ _ e13')), at_of (j := j) (by omega) hv, ?_⟩
                  walk_at "w"
                  refine ⟨_, .ref a, Or.inl (SqL.of (sx3 _ _ e12')), at_of (j := j) (by omega) hv, ?_⟩
                  refine ⟨rfl, ⟨_, _, _, ha, tp.o_Report⟩, ?_⟩
                  exact way_f ⟨hDl2, sx2, rfl⟩
                · obtain ⟨sx2, rfl⟩ := f
                  walk_at "w"
                  refine ⟨(by show 0 ≤ sizeLine; decide), fun pz2 G18 fz2 sz2 ez2 => Or.inl ⟨[], SqL.of (sz2 _ _ hDl2), ez2, ?_⟩⟩
                  refine way_f ?_
                  exact ⟨_, _, _, _, _, _, _, _, _, rfl, sT.trans (sE.trans (sz.trans ((sx2.trans off_same).trans sz2)))⟩
      · rintro σ G10 ⟨w2, w3, w4, w5, w6, w7, w8, w9, w10, rfl, sT⟩
        exact k G10
  next => exact h.elim

end LW
namespace LW
open PySem PySem.Spec L2 GG
def hds : List GD := ([⟨fun K => He.ga K "_law_called", "_law_called", "_law_called", defArgs s__law_called, defBody s__law_called, defScope s__law_called⟩, ⟨fun K => He.ga K "_law_costs", "_law_costs", "_law_costs", defArgs s__law_costs, defBody s__law_costs, defScope s__law_costs⟩, ⟨fun K => He.ga K "_law_counts", "_law_counts", "_law_counts", defArgs s__law_counts, defBody s__law_counts, defScope s__law_counts⟩, ⟨fun K => He.ga K "_law_draw", "_law_draw", "_law_draw", defArgs s__law_draw, defBody s__law_draw, defScope s__law_draw⟩, ⟨fun K => He.ga K "_law_due", "_law_due", "_law_due", defArgs s__law_due, defBody s__law_due, defScope s__law_due⟩, ⟨fun K => He.ga K "_law_grown", "_law_grown", "_law_grown", defArgs s__law_grown, defBody s__law_grown, defScope s__law_grown⟩, ⟨fun K => He.ga K "_law_made", "_law_made", "_law_made", defArgs s__law_made, defBody s__law_made, defScope s__law_made⟩, ⟨fun K => He.ga K "_law_mirror", "_law_mirror", "_law_mirror", defArgs s__law_mirror, defBody s__law_mirror, defScope s__law_mirror⟩, ⟨fun K => He.ga K "_law_names", "_law_names", "_law_names", defArgs s__law_names, defBody s__law_names, defScope s__law_names⟩, ⟨fun K => He.ga K "_law_purse", "_law_purse", "_law_purse", defArgs s__law_purse, defBody s__law_purse, defScope s__law_purse⟩, ⟨fun K => He.ga K "_law_ranks", "_law_ranks", "_law_ranks", defArgs s__law_ranks, defBody s__law_ranks, defScope s__law_ranks⟩, ⟨fun K => He.ga K "_law_split", "_law_split", "_law_split", defArgs s__law_split, defBody s__law_split, defScope s__law_split⟩, ⟨fun K => He.ga K "_law_sums", "_law_sums", "_law_sums", defArgs s__law_sums, defBody s__law_sums, defScope s__law_sums⟩, ⟨fun K => He.ga K "_law_told", "_law_told", "_law_told", defArgs s__law_told, defBody s__law_told, defScope s__law_told⟩, ⟨fun K => He.ga K "_law_tree", "_law_tree", "_law_tree", defArgs s__law_tree, defBody s__law_tree, defScope s__law_tree⟩, ⟨fun K => He.ga K "_law_upto", "_law_upto", "_law_upto", defArgs s__law_upto, defBody s__law_upto, defScope s__law_upto⟩, ⟨fun K => He.ga K "_law_whole", "_law_whole", "_law_whole", defArgs s__law_whole, defBody s__law_whole, defScope s__law_whole⟩, ⟨fun K => He.ga K "_law_width", "_law_width", "_law_width", defArgs s__law_width, defBody s__law_width, defScope s__law_width⟩, ⟨fun K => He.ga K "_wall", "_wall", "_wall", defArgs s__wall, defBody s__wall, defScope s__wall⟩, ⟨fun K => He.ga K "all_counts", "all_counts", "all_counts", defArgs s_all_counts, defBody s_all_counts, defScope s_all_counts⟩] : List GD) ++ ([⟨fun K => He.ga K "are_names", "are_names", "are_names", defArgs s_are_names, defBody s_are_names, defScope s_are_names⟩, ⟨fun K => He.ga K "are_parts", "are_parts", "are_parts", defArgs s_are_parts, defBody s_are_parts, defScope s_are_parts⟩, ⟨fun K => He.ga K "are_told", "are_told", "are_told", defArgs s_are_told, defBody s_are_told, defScope s_are_told⟩, ⟨fun K => He.ga K "check_name", "check_name", "check_name", defArgs s_check_name, defBody s_check_name, defScope s_check_name⟩, ⟨fun K => He.ga K "check_reports", "check_reports", "check_reports", defArgs s_check_reports, defBody s_check_reports, defScope s_check_reports⟩, ⟨fun K => He.ga K "check_some", "check_some", "check_some", defArgs s_check_some, defBody s_check_some, defScope s_check_some⟩, ⟨fun K => He.ga K "check_tree", "check_tree", "check_tree", defArgs s_check_tree, defBody s_check_tree, defScope s_check_tree⟩, ⟨fun K => He.ga K "check_whole", "check_whole", "check_whole", defArgs s_check_whole, defBody s_check_whole, defScope s_check_whole⟩, ⟨fun K => He.ga K "check_within", "check_within", "check_within", defArgs s_check_within, defBody s_check_within, defScope s_check_within⟩, ⟨fun K => He.ga K "is_ascending", "is_ascending", "is_ascending", defArgs s_is_ascending, defBody s_is_ascending, defScope s_is_ascending⟩, ⟨fun K => He.ga K "is_group", "is_group", "is_group", defArgs s_is_group, defBody s_is_group, defScope s_is_group⟩, ⟨fun K => He.ga K "is_name", "is_name", "is_name", defArgs s_is_name, defBody s_is_name, defScope s_is_name⟩, ⟨fun K => He.ga K "is_whole", "is_whole", "is_whole", defArgs s_is_whole, defBody s_is_whole, defScope s_is_whole⟩, ⟨fun K => He.ga K "known_counts", "known_counts", "known_counts", defArgs s_known_counts, defBody s_known_counts, defScope s_known_counts⟩, ⟨fun K => He.ga K "kth", "kth", "kth", defArgs s_kth, defBody s_kth, defScope s_kth⟩, ⟨fun K => He.ga K "law", "law", "law", defArgs s_law, defBody s_law, defScope s_law⟩, ⟨fun K => He.ga K "least_counts", "least_counts", "least_counts", defArgs s_least_counts, defBody s_least_counts, defScope s_least_counts⟩, ⟨fun K => He.ga K "summed", "summed", "summed", defArgs s_summed, defBody s_summed, defScope s_summed⟩, ⟨fun K => He.ma K (He.ga K "Leaf") "__init__", "__init__", "Leaf.__init__", defArgs s_Leaf___init__, defBody s_Leaf___init__, defScope s_Leaf___init__⟩, ⟨fun K => gt K "Leaf" "name", "name", "Leaf.name", defArgs s_Leaf_name, defBody s_Leaf_name, defScope s_Leaf_name⟩] : List GD) ++ ([⟨fun K => gt K "Leaf" "width", "width", "Leaf.width", defArgs s_Leaf_width, defBody s_Leaf_width, defScope s_Leaf_width⟩, ⟨fun K => He.ma K (He.ga K "Leaf") "__len__", "__len__", "Leaf.__len__", defArgs s_Leaf___len__, defBody s_Leaf___len__, defScope s_Leaf___len__⟩, ⟨fun K => He.ma K (He.ga K "Leaf") "__contains__", "__contains__", "Leaf.__contains__", defArgs s_Leaf___contains__, defBody s_Leaf___contains__, defScope s_Leaf___contains__⟩, ⟨fun K => He.ma K (He.ga K "Leaf") "__eq__", "__eq__", "Leaf.__eq__", defArgs s_Leaf___eq__, defBody s_Leaf___eq__, defScope s_Leaf___eq__⟩, ⟨fun K => He.ma K (He.ga K "Leaf") "names", "names", "Leaf.names", defArgs s_Leaf_names, defBody s_Leaf_names, defScope s_Leaf_names⟩, ⟨fun K => He.ma K (He.ga K "Leaf") "low_ends", "low_ends", "Leaf.low_ends", defArgs s_Leaf_low_ends, defBody s_Leaf_low_ends, defScope s_Leaf_low_ends⟩, ⟨fun K => He.ma K (He.ga K "Leaf") "passes", "passes", "Leaf.passes", defArgs s_Leaf_passes, defBody s_Leaf_passes, defScope s_Leaf_passes⟩, ⟨fun K => He.ma K (He.ga K "Leaf") "mirror", "mirror", "Leaf.mirror", defArgs s_Leaf_mirror, defBody s_Leaf_mirror, defScope s_Leaf_mirror⟩, ⟨fun K => He.ma K (He.ga K "Group") "__init__", "__init__", "Group.__init__", defArgs s_Group___init__, defBody s_Group___init__, defScope s_Group___init__⟩, ⟨fun K => gt K "Group" "ranks", "ranks", "Group.ranks", defArgs s_Group_ranks, defBody s_Group_ranks, defScope s_Group_ranks⟩, ⟨fun K => gt K "Group" "parts", "parts", "Group.parts", defArgs s_Group_parts, defBody s_Group_parts, defScope s_Group_parts⟩, ⟨fun K => gt K "Group" "width", "width", "Group.width", defArgs s_Group_width, defBody s_Group_width, defScope s_Group_width⟩, ⟨fun K => He.ma K (He.ga K "Group") "__len__", "__len__", "Group.__len__", defArgs s_Group___len__, defBody s_Group___len__, defScope s_Group___len__⟩, ⟨fun K => He.ma K (He.ga K "Group") "__getitem__", "__getitem__", "Group.__getitem__", defArgs s_Group___getitem__, defBody s_Group___getitem__, defScope s_Group___getitem__⟩, ⟨fun K => He.ma K (He.ga K "Group") "__contains__", "__contains__", "Group.__contains__", defArgs s_Group___contains__, defBody s_Group___contains__, defScope s_Group___contains__⟩, ⟨fun K => He.ma K (He.ga K "Group") "__eq__", "__eq__", "Group.__eq__", defArgs s_Group___eq__, defBody s_Group___eq__, defScope s_Group___eq__⟩, ⟨fun K => He.ma K (He.ga K "Group") "names", "names", "Group.names", defArgs s_Group_names, defBody s_Group_names, defScope s_Group_names⟩, ⟨fun K => He.ma K (He.ga K "Group") "low_ends", "low_ends", "Group.low_ends", defArgs s_Group_low_ends, defBody s_Group_low_ends, defScope s_Group_low_ends⟩, ⟨fun K => He.ma K (He.ga K "Group") "passes", "passes", "Group.passes", defArgs s_Group_passes, defBody s_Group_passes, defScope s_Group_passes⟩, ⟨fun K => He.ma K (He.ga K "Group") "mirror", "mirror", "Group.mirror", defArgs s_Group_mirror, defBody s_Group_mirror, defScope s_Group_mirror⟩] : List GD) ++ ([⟨fun K => He.ma K (He.ga K "Report") "__init__", "__init__", "Report.__init__", defArgs s_Report___init__, defBody s_Report___init__, defScope s_Report___init__⟩, ⟨fun K => gt K "Report" "tree", "tree", "Report.tree", defArgs s_Report_tree, defBody s_Report_tree, defScope s_Report_tree⟩, ⟨fun K => gt K "Report" "told", "told", "Report.told", defArgs s_Report_told, defBody s_Report_told, defScope s_Report_told⟩, ⟨fun K => He.ma K (He.ga K "Report") "low_told", "low_told", "Report.low_told", defArgs s_Report_low_told, defBody s_Report_low_told, defScope s_Report_low_told⟩, ⟨fun K => He.ma K (He.ga K "Report") "upto", "upto", "Report.upto", defArgs s_Report_upto, defBody s_Report_upto, defScope s_Report_upto⟩] : List GD)
def hfa : List He.Fa := ([.glo "_law_called", .glo "_law_costs", .glo "_law_counts", .glo "_law_draw", .glo "_law_due", .glo "_law_grown", .glo "_law_made", .glo "_law_mirror", .glo "_law_names", .glo "_law_purse", .glo "_law_ranks", .glo "_law_split", .glo "_law_sums", .glo "_law_told", .glo "_law_tree", .glo "_law_upto", .glo "_law_whole", .glo "_law_width", .glo "_wall", .glo "all_counts"] : List He.Fa) ++ ([.glo "are_names", .glo "are_parts", .glo "are_told", .glo "check_name", .glo "check_reports", .glo "check_some", .glo "check_tree", .glo "check_whole", .glo "check_within", .glo "is_ascending", .glo "is_group", .glo "is_name", .glo "is_whole", .glo "known_counts", .glo "kth", .glo "law", .glo "least_counts", .glo "summed", .glo "Tree", .glo "Leaf"] : List He.Fa) ++ ([.cls "Leaf", .meth "Leaf" "__init__", .meth "Leaf" "__len__", .meth "Leaf" "__contains__", .meth "Leaf" "__eq__", .meth "Leaf" "names", .meth "Leaf" "low_ends", .meth "Leaf" "passes", .meth "Leaf" "mirror", .noat "Leaf" "label", .glo "Group", .cls "Group", .meth "Group" "__init__", .meth "Group" "__len__", .meth "Group" "__getitem__", .meth "Group" "__contains__", .meth "Group" "__eq__", .meth "Group" "names", .meth "Group" "low_ends", .meth "Group" "passes"] : List He.Fa) ++ ([.meth "Group" "mirror", .noat "Group" "picks", .noat "Group" "rows", .noat "Group" "taken", .glo "Report", .cls "Report", .meth "Report" "__init__", .meth "Report" "low_told", .meth "Report" "upto", .noat "Report" "plan", .noat "Report" "heard", .free "len", .free "sum", .free "min", .free "max", .free "sorted", .free "isinstance", .free "int", .free "list", .free "tuple"] : List He.Fa) ++ ([.free "str", .free "bool", .free "set", .free "range", .free "enumerate", .free "dict", .str "ALPHABET" "abcdefghijklmnopqrstuvwxyz"] : List He.Fa)
def hfx : List Fx := ([.ins "Tree", .ins "Leaf", .mk "Leaf", .prop "Leaf" "name", .prop "Leaf" "width", .ins "Group", .mk "Group", .prop "Group" "ranks", .prop "Group" "parts", .prop "Group" "width", .ins "Report", .mk "Report", .prop "Report" "tree", .prop "Report" "told", .obj "Report", .kit "Leaf" "Tree" true, .kit "Leaf" "Leaf" true, .kit "Leaf" "Group" false, .kit "Leaf" "Report" false, .kit "Group" "Tree" true] : List Fx) ++ ([.kit "Group" "Leaf" false, .kit "Group" "Group" true, .kit "Group" "Report" false, .kit "Report" "Tree" false, .kit "Report" "Leaf" false, .kit "Report" "Group" false, .kit "Report" "Report" true] : List Fx)
abbrev hR : PySem.W.OpenRow := PySem.W.OpenLaw.row PySem.Challenge.rw_rankpicks_k68_kth_worths
abbrev hHk : PySem.W.Hook := hookX 6 hfa hfx hds
def hOb (s : PySem.W.SharedT) : He.AlD := obsX hfa hfx hds (lookX 6 (HandSHeadRun.getT s))
theorem hOb_eq (s : PySem.W.SharedT) : hOb s = hHk.obs s.abs := obsX_eq (HandSHeadRun.getT_eq s)
def hLoose : List PySem.Str := (["_wall", "RankError", "InvalidName", "InvalidNumber", "InvalidTree", "InvalidList", "InvalidReport", "ALPHABET", "is_whole", "is_name", "are_names", "is_ascending", "check_name", "check_whole", "check_within", "Tree", "are_parts", "is_group", "check_some", "Leaf"] : List PySem.Str) ++ (["Group", "check_tree", "summed", "least_counts", "are_told", "Report", "check_reports", "all_counts", "known_counts", "kth", "_law_purse", "_law_draw", "_law_called", "_law_split", "_law_ranks", "_law_grown", "_law_width", "_law_names", "_law_mirror", "_law_made"] : List PySem.Str) ++ (["_law_sums", "_law_costs", "_law_whole", "_law_counts", "_law_tree", "_law_told", "_law_upto", "_law_due"] : List PySem.Str)
theorem hRun (w : World) : HandSHeadRun.RunEq hR (PySem.W.view hR.prog [54]) hHk hOb 8000 hLoose w := by
  intro os
  kernel_rfl
theorem top_ok {K : PySem.W.Frag} {h : Heap} {mg : Str → Option Value} (X : K.In h) (G : h.Ns mainGlobals mg) (c : SaysX hfa hfx hds K) : Top K mg where
  f__law_called := by
    obtain ⟨fd, F⟩ := c.d 0
    exact ⟨_, fd, F, He.glo_ok X G (c.a 0 (f := .glo "_law_called")), (FunD.bindsN F fun _ _ _ _ _ _ us hl => match us, hl with | [_, _], _ => rfl)⟩
  f__law_costs := by
    obtain ⟨fd, F⟩ := c.d 1
    exact ⟨_, fd, F, He.glo_ok X G (c.a 1 (f := .glo "_law_costs")), (FunD.bindsN F fun _ _ _ _ _ _ us hl => match us, hl with | [_, _], _ => rfl)⟩
  f__law_counts := by
    obtain ⟨fd, F⟩ := c.d 2
    exact ⟨_, fd, F, He.glo_ok X G (c.a 2 (f := .glo "_law_counts")), (FunD.bindsN F fun _ _ _ _ _ _ us hl => match us, hl with | [_], _ => rfl)⟩
  f__law_draw := by
    obtain ⟨fd, F⟩ := c.d 3
    exact ⟨_, fd, F, He.glo_ok X G (c.a 3 (f := .glo "_law_draw")), (FunD.bindsN F fun _ _ _ _ _ _ us hl => match us, hl with | [_, _], _ => rfl)⟩
  f__law_due := by
    obtain ⟨fd, F⟩ := c.d 4
    exact ⟨_, fd, F, He.glo_ok X G (c.a 4 (f := .glo "_law_due")), (FunD.bindsN F fun _ _ _ _ _ _ us hl => match us, hl with | [_, _], _ => rfl)⟩
  f__law_grown := by
    obtain ⟨fd, F⟩ := c.d 5
    exact ⟨_, fd, F, He.glo_ok X G (c.a 5 (f := .glo "_law_grown")), (FunD.bindsN F fun _ _ _ _ _ _ us hl => match us, hl with | [_, _, _], _ => rfl)⟩
  f__law_made := by
    obtain ⟨fd, F⟩ := c.d 6
    exact ⟨_, fd, F, He.glo_ok X G (c.a 6 (f := .glo "_law_made")), (FunD.bindsN F fun _ _ _ _ _ _ us hl => match us, hl with | [_], _ => rfl)⟩
  f__law_mirror := by
    obtain ⟨fd, F⟩ := c.d 7
    exact ⟨_, fd, F, He.glo_ok X G (c.a 7 (f := .glo "_law_mirror")), (FunD.bindsN F fun _ _ _ _ _ _ us hl => match us, hl with | [_], _ => rfl)⟩
  f__law_names := by
    obtain ⟨fd, F⟩ := c.d 8
    exact ⟨_, fd, F, He.glo_ok X G (c.a 8 (f := .glo "_law_names")), (FunD.bindsN F fun _ _ _ _ _ _ us hl => match us, hl with | [_], _ => rfl)⟩
  f__law_purse := by
    obtain ⟨fd, F⟩ := c.d 9
    exact ⟨_, fd, F, He.glo_ok X G (c.a 9 (f := .glo "_law_purse")), (FunD.bindsN F fun _ _ _ _ _ _ us hl => match us, hl with | [_, _], _ => rfl)⟩
  f__law_ranks := by
    obtain ⟨fd, F⟩ := c.d 10
    exact ⟨_, fd, F, He.glo_ok X G (c.a 10 (f := .glo "_law_ranks")), (FunD.bindsN F fun _ _ _ _ _ _ us hl => match us, hl with | [_, _, _], _ => rfl)⟩
  f__law_split := by
    obtain ⟨fd, F⟩ := c.d 11
    exact ⟨_, fd, F, He.glo_ok X G (c.a 11 (f := .glo "_law_split")), (FunD.bindsN F fun _ _ _ _ _ _ us hl => match us, hl with | [_, _], _ => rfl)⟩
  f__law_sums := by
    obtain ⟨fd, F⟩ := c.d 12
    exact ⟨_, fd, F, He.glo_ok X G (c.a 12 (f := .glo "_law_sums")), (FunD.bindsN F fun _ _ _ _ _ _ us hl => match us, hl with | [_, _], _ => rfl)⟩
  f__law_told := by
    obtain ⟨fd, F⟩ := c.d 13
    exact ⟨_, fd, F, He.glo_ok X G (c.a 13 (f := .glo "_law_told")), (FunD.bindsN F fun _ _ _ _ _ _ us hl => match us, hl with | [_, _], _ => rfl)⟩
  f__law_tree := by
    obtain ⟨fd, F⟩ := c.d 14
    exact ⟨_, fd, F, He.glo_ok X G (c.a 14 (f := .glo "_law_tree")), (FunD.bindsN F fun _ _ _ _ _ _ us hl => match us, hl with | [_, _, _], _ => rfl)⟩
  f__law_upto := by
    obtain ⟨fd, F⟩ := c.d 15
    exact ⟨_, fd, F, He.glo_ok X G (c.a 15 (f := .glo "_law_upto")), (FunD.bindsN F fun _ _ _ _ _ _ us hl => match us, hl with | [_, _], _ => rfl)⟩
  f__law_whole := by
    obtain ⟨fd, F⟩ := c.d 16
    exact ⟨_, fd, F, He.glo_ok X G (c.a 16 (f := .glo "_law_whole")), (FunD.bindsN F fun _ _ _ _ _ _ us hl => match us, hl with | [_], _ => rfl)⟩
  f__law_width := by
    obtain ⟨fd, F⟩ := c.d 17
    exact ⟨_, fd, F, He.glo_ok X G (c.a 17 (f := .glo "_law_width")), (FunD.bindsN F fun _ _ _ _ _ _ us hl => match us, hl with | [_], _ => rfl)⟩
  f__wall := by
    obtain ⟨fd, F⟩ := c.d 18
    exact ⟨_, fd, F, He.glo_ok X G (c.a 18 (f := .glo "_wall")), (FunD.bindsN F fun _ _ _ _ _ _ us hl => match us, hl with | [_], _ => rfl)⟩
  f_all_counts := by
    obtain ⟨fd, F⟩ := c.d 19
    exact ⟨_, fd, F, He.glo_ok X G (c.a 19 (f := .glo "all_counts")), (FunD.bindsN F fun _ _ _ _ _ _ us hl => match us, hl with | [_, _], _ => rfl)⟩
  f_are_names := by
    obtain ⟨fd, F⟩ := c.d 20
    exact ⟨_, fd, F, He.glo_ok X G (c.a 20 (f := .glo "are_names")), (FunD.bindsN F fun _ _ _ _ _ _ us hl => match us, hl with | [_], _ => rfl)⟩
  f_are_parts := by
    obtain ⟨fd, F⟩ := c.d 21
    exact ⟨_, fd, F, He.glo_ok X G (c.a 21 (f := .glo "are_parts")), (FunD.bindsN F fun _ _ _ _ _ _ us hl => match us, hl with | [_], _ => rfl)⟩
  f_are_told := by
    obtain ⟨fd, F⟩ := c.d 22
    exact ⟨_, fd, F, He.glo_ok X G (c.a 22 (f := .glo "are_told")), (FunD.bindsN F fun _ _ _ _ _ _ us hl => match us, hl with | [_, _], _ => rfl)⟩
  f_check_name := by
    obtain ⟨fd, F⟩ := c.d 23
    exact ⟨_, fd, F, He.glo_ok X G (c.a 23 (f := .glo "check_name")), (FunD.bindsN F fun _ _ _ _ _ _ us hl => match us, hl with | [_], _ => rfl)⟩
  f_check_reports := by
    obtain ⟨fd, F⟩ := c.d 24
    exact ⟨_, fd, F, He.glo_ok X G (c.a 24 (f := .glo "check_reports")), (FunD.bindsN F fun _ _ _ _ _ _ us hl => match us, hl with | [_], _ => rfl)⟩
  f_check_some := by
    obtain ⟨fd, F⟩ := c.d 25
    exact ⟨_, fd, F, He.glo_ok X G (c.a 25 (f := .glo "check_some")), (FunD.bindsN F fun _ _ _ _ _ _ us hl => match us, hl with | [_, _], _ => rfl)⟩
  f_check_tree := by
    obtain ⟨fd, F⟩ := c.d 26
    exact ⟨_, fd, F, He.glo_ok X G (c.a 26 (f := .glo "check_tree")), (FunD.bindsN F fun _ _ _ _ _ _ us hl => match us, hl with | [_], _ => rfl)⟩
  f_check_whole := by
    obtain ⟨fd, F⟩ := c.d 27
    exact ⟨_, fd, F, He.glo_ok X G (c.a 27 (f := .glo "check_whole")), (FunD.bindsN F fun _ _ _ _ _ _ us hl => match us, hl with | [_], _ => rfl)⟩
  f_check_within := by
    obtain ⟨fd, F⟩ := c.d 28
    exact ⟨_, fd, F, He.glo_ok X G (c.a 28 (f := .glo "check_within")), (FunD.bindsN F fun _ _ _ _ _ _ us hl => match us, hl with | [_, _, _], _ => rfl)⟩
  f_is_ascending := by
    obtain ⟨fd, F⟩ := c.d 29
    exact ⟨_, fd, F, He.glo_ok X G (c.a 29 (f := .glo "is_ascending")), (FunD.bindsN F fun _ _ _ _ _ _ us hl => match us, hl with | [_], _ => rfl)⟩
  f_is_group := by
    obtain ⟨fd, F⟩ := c.d 30
    exact ⟨_, fd, F, He.glo_ok X G (c.a 30 (f := .glo "is_group")), (FunD.bindsN F fun _ _ _ _ _ _ us hl => match us, hl with | [_, _], _ => rfl)⟩
  f_is_name := by
    obtain ⟨fd, F⟩ := c.d 31
    exact ⟨_, fd, F, He.glo_ok X G (c.a 31 (f := .glo "is_name")), (FunD.bindsN F fun _ _ _ _ _ _ us hl => match us, hl with | [_], _ => rfl)⟩
  f_is_whole := by
    obtain ⟨fd, F⟩ := c.d 32
    exact ⟨_, fd, F, He.glo_ok X G (c.a 32 (f := .glo "is_whole")), (FunD.bindsN F fun _ _ _ _ _ _ us hl => match us, hl with | [_], _ => rfl)⟩
  f_known_counts := by
    obtain ⟨fd, F⟩ := c.d 33
    exact ⟨_, fd, F, He.glo_ok X G (c.a 33 (f := .glo "known_counts")), (FunD.bindsN F fun _ _ _ _ _ _ us hl => match us, hl with | [_, _], _ => rfl)⟩
  f_kth := by
    obtain ⟨fd, F⟩ := c.d 34
    exact ⟨_, fd, F, He.glo_ok X G (c.a 34 (f := .glo "kth")), (FunD.bindsN F fun _ _ _ _ _ _ us hl => match us, hl with | [_, _], _ => rfl)⟩
  f_law := by
    obtain ⟨fd, F⟩ := c.d 35
    exact ⟨_, fd, F, He.glo_ok X G (c.a 35 (f := .glo "law")), (FunD.bindsN F fun _ _ _ _ _ _ us hl => match us, hl with | [_], _ => rfl)⟩
  f_least_counts := by
    obtain ⟨fd, F⟩ := c.d 36
    exact ⟨_, fd, F, He.glo_ok X G (c.a 36 (f := .glo "least_counts")), (FunD.bindsN F fun _ _ _ _ _ _ us hl => match us, hl with | [_], _ => rfl)⟩
  f_summed := by
    obtain ⟨fd, F⟩ := c.d 37
    exact ⟨_, fd, F, He.glo_ok X G (c.a 37 (f := .glo "summed")), (FunD.bindsN F fun _ _ _ _ _ _ us hl => match us, hl with | [_, _], _ => rfl)⟩
  c_Tree := He.glo_ok X G (c.a 38 (f := .glo "Tree"))
  i_Tree := ins_ok (c.x 0 (f := .ins "Tree"))
  c_Leaf := He.glo_ok X G (c.a 39 (f := .glo "Leaf"))
  i_Leaf := ins_ok (c.x 1 (f := .ins "Leaf"))
  m_Leaf___init__ := by
    obtain ⟨fd, F⟩ := c.d 38
    exact ⟨_, fd, F, He.cls_ok (c.a 40 (f := .cls "Leaf")), He.meth_ok (c.a 41 (f := .meth "Leaf" "__init__")), (FunD.bindsN F fun _ _ _ _ _ _ us hl => match us, hl with | [_, _], _ => rfl)⟩
  k_Leaf := mkc_ok (c.x 2 (f := .mk "Leaf"))
  m_Leaf_name := by
    obtain ⟨fd, F⟩ := c.d 39
    exact ⟨_, _, fd, F, He.cls_ok (c.a 40 (f := .cls "Leaf")), prop_ok (c.x 3 (f := .prop "Leaf" "name")), (FunD.bindsN F fun _ _ _ _ _ _ us hl => match us, hl with | [_], _ => rfl)⟩
  m_Leaf_width := by
    obtain ⟨fd, F⟩ := c.d 40
    exact ⟨_, _, fd, F, He.cls_ok (c.a 40 (f := .cls "Leaf")), prop_ok (c.x 4 (f := .prop "Leaf" "width")), (FunD.bindsN F fun _ _ _ _ _ _ us hl => match us, hl with | [_], _ => rfl)⟩
  m_Leaf___len__ := by
    obtain ⟨fd, F⟩ := c.d 41
    exact ⟨_, fd, F, He.cls_ok (c.a 40 (f := .cls "Leaf")), He.meth_ok (c.a 42 (f := .meth "Leaf" "__len__")), (FunD.bindsN F fun _ _ _ _ _ _ us hl => match us, hl with | [_], _ => rfl)⟩
  m_Leaf___contains__ := by
    obtain ⟨fd, F⟩ := c.d 42
    exact ⟨_, fd, F, He.cls_ok (c.a 40 (f := .cls "Leaf")), He.meth_ok (c.a 43 (f := .meth "Leaf" "__contains__")), (FunD.bindsN F fun _ _ _ _ _ _ us hl => match us, hl with | [_, _], _ => rfl)⟩
  m_Leaf___eq__ := by
    obtain ⟨fd, F⟩ := c.d 43
    exact ⟨_, fd, F, He.cls_ok (c.a 40 (f := .cls "Leaf")), He.meth_ok (c.a 44 (f := .meth "Leaf" "__eq__")), (FunD.bindsN F fun _ _ _ _ _ _ us hl => match us, hl with | [_, _], _ => rfl)⟩
  m_Leaf_names := by
    obtain ⟨fd, F⟩ := c.d 44
    exact ⟨_, fd, F, He.cls_ok (c.a 40 (f := .cls "Leaf")), He.meth_ok (c.a 45 (f := .meth "Leaf" "names")), (FunD.bindsN F fun _ _ _ _ _ _ us hl => match us, hl with | [_], _ => rfl)⟩
  m_Leaf_low_ends := by
    obtain ⟨fd, F⟩ := c.d 45
    exact ⟨_, fd, F, He.cls_ok (c.a 40 (f := .cls "Leaf")), He.meth_ok (c.a 46 (f := .meth "Leaf" "low_ends")), (FunD.bindsN F fun _ _ _ _ _ _ us hl => match us, hl with | [_, _], _ => rfl)⟩
  m_Leaf_passes := by
    obtain ⟨fd, F⟩ := c.d 46
    exact ⟨_, fd, F, He.cls_ok (c.a 40 (f := .cls "Leaf")), He.meth_ok (c.a 47 (f := .meth "Leaf" "passes")), (FunD.bindsN F fun _ _ _ _ _ _ us hl => match us, hl with | [_, _], _ => rfl)⟩
  m_Leaf_mirror := by
    obtain ⟨fd, F⟩ := c.d 47
    exact ⟨_, fd, F, He.cls_ok (c.a 40 (f := .cls "Leaf")), He.meth_ok (c.a 48 (f := .meth "Leaf" "mirror")), (FunD.bindsN F fun _ _ _ _ _ _ us hl => match us, hl with | [_], _ => rfl)⟩
  n_Leaf_label := He.noat_ok (c.a 49 (f := .noat "Leaf" "label"))
  c_Group := He.glo_ok X G (c.a 50 (f := .glo "Group"))
  i_Group := ins_ok (c.x 5 (f := .ins "Group"))
  m_Group___init__ := by
    obtain ⟨fd, F⟩ := c.d 48
    exact ⟨_, fd, F, He.cls_ok (c.a 51 (f := .cls "Group")), He.meth_ok (c.a 52 (f := .meth "Group" "__init__")), (FunD.bindsN F fun _ _ _ _ _ _ us hl => match us, hl with | [_, _, _], _ => rfl)⟩
  k_Group := mkc_ok (c.x 6 (f := .mk "Group"))
  m_Group_ranks := by
    obtain ⟨fd, F⟩ := c.d 49
    exact ⟨_, _, fd, F, He.cls_ok (c.a 51 (f := .cls "Group")), prop_ok (c.x 7 (f := .prop "Group" "ranks")), (FunD.bindsN F fun _ _ _ _ _ _ us hl => match us, hl with | [_], _ => rfl)⟩
  m_Group_parts := by
    obtain ⟨fd, F⟩ := c.d 50
    exact ⟨_, _, fd, F, He.cls_ok (c.a 51 (f := .cls "Group")), prop_ok (c.x 8 (f := .prop "Group" "parts")), (FunD.bindsN F fun _ _ _ _ _ _ us hl => match us, hl with | [_], _ => rfl)⟩
  m_Group_width := by
    obtain ⟨fd, F⟩ := c.d 51
    exact ⟨_, _, fd, F, He.cls_ok (c.a 51 (f := .cls "Group")), prop_ok (c.x 9 (f := .prop "Group" "width")), (FunD.bindsN F fun _ _ _ _ _ _ us hl => match us, hl with | [_], _ => rfl)⟩
  m_Group___len__ := by
    obtain ⟨fd, F⟩ := c.d 52
    exact ⟨_, fd, F, He.cls_ok (c.a 51 (f := .cls "Group")), He.meth_ok (c.a 53 (f := .meth "Group" "__len__")), (FunD.bindsN F fun _ _ _ _ _ _ us hl => match us, hl with | [_], _ => rfl)⟩
  m_Group___getitem__ := by
    obtain ⟨fd, F⟩ := c.d 53
    exact ⟨_, fd, F, He.cls_ok (c.a 51 (f := .cls "Group")), He.meth_ok (c.a 54 (f := .meth "Group" "__getitem__")), (FunD.bindsN F fun _ _ _ _ _ _ us hl => match us, hl with | [_, _], _ => rfl)⟩
  m_Group___contains__ := by
    obtain ⟨fd, F⟩ := c.d 54
    exact ⟨_, fd, F, He.cls_ok (c.a 51 (f := .cls "Group")), He.meth_ok (c.a 55 (f := .meth "Group" "__contains__")), (FunD.bindsN F fun _ _ _ _ _ _ us hl => match us, hl with | [_, _], _ => rfl)⟩
  m_Group___eq__ := by
    obtain ⟨fd, F⟩ := c.d 55
    exact ⟨_, fd, F, He.cls_ok (c.a 51 (f := .cls "Group")), He.meth_ok (c.a 56 (f := .meth "Group" "__eq__")), (FunD.bindsN F fun _ _ _ _ _ _ us hl => match us, hl with | [_, _], _ => rfl)⟩
  m_Group_names := by
    obtain ⟨fd, F⟩ := c.d 56
    exact ⟨_, fd, F, He.cls_ok (c.a 51 (f := .cls "Group")), He.meth_ok (c.a 57 (f := .meth "Group" "names")), (FunD.bindsN F fun _ _ _ _ _ _ us hl => match us, hl with | [_], _ => rfl)⟩
  m_Group_low_ends := by
    obtain ⟨fd, F⟩ := c.d 57
    exact ⟨_, fd, F, He.cls_ok (c.a 51 (f := .cls "Group")), He.meth_ok (c.a 58 (f := .meth "Group" "low_ends")), (FunD.bindsN F fun _ _ _ _ _ _ us hl => match us, hl with | [_, _], _ => rfl)⟩
  m_Group_passes := by
    obtain ⟨fd, F⟩ := c.d 58
    exact ⟨_, fd, F, He.cls_ok (c.a 51 (f := .cls "Group")), He.meth_ok (c.a 59 (f := .meth "Group" "passes")), (FunD.bindsN F fun _ _ _ _ _ _ us hl => match us, hl with | [_, _], _ => rfl)⟩
  m_Group_mirror := by
    obtain ⟨fd, F⟩ := c.d 59
    exact ⟨_, fd, F, He.cls_ok (c.a 51 (f := .cls "Group")), He.meth_ok (c.a 60 (f := .meth "Group" "mirror")), (FunD.bindsN F fun _ _ _ _ _ _ us hl => match us, hl with | [_], _ => rfl)⟩
  n_Group_picks := He.noat_ok (c.a 61 (f := .noat "Group" "picks"))
  n_Group_rows := He.noat_ok (c.a 62 (f := .noat "Group" "rows"))
  n_Group_taken := He.noat_ok (c.a 63 (f := .noat "Group" "taken"))
  c_Report := He.glo_ok X G (c.a 64 (f := .glo "Report"))
  i_Report := ins_ok (c.x 10 (f := .ins "Report"))
  m_Report___init__ := by
    obtain ⟨fd, F⟩ := c.d 60
    exact ⟨_, fd, F, He.cls_ok (c.a 65 (f := .cls "Report")), He.meth_ok (c.a 66 (f := .meth "Report" "__init__")), (FunD.bindsN F fun _ _ _ _ _ _ us hl => match us, hl with | [_, _, _], _ => rfl)⟩
  k_Report := mkc_ok (c.x 11 (f := .mk "Report"))
  m_Report_tree := by
    obtain ⟨fd, F⟩ := c.d 61
    exact ⟨_, _, fd, F, He.cls_ok (c.a 65 (f := .cls "Report")), prop_ok (c.x 12 (f := .prop "Report" "tree")), (FunD.bindsN F fun _ _ _ _ _ _ us hl => match us, hl with | [_], _ => rfl)⟩
  m_Report_told := by
    obtain ⟨fd, F⟩ := c.d 62
    exact ⟨_, _, fd, F, He.cls_ok (c.a 65 (f := .cls "Report")), prop_ok (c.x 13 (f := .prop "Report" "told")), (FunD.bindsN F fun _ _ _ _ _ _ us hl => match us, hl with | [_], _ => rfl)⟩
  m_Report_low_told := by
    obtain ⟨fd, F⟩ := c.d 63
    exact ⟨_, fd, F, He.cls_ok (c.a 65 (f := .cls "Report")), He.meth_ok (c.a 67 (f := .meth "Report" "low_told")), (FunD.bindsN F fun _ _ _ _ _ _ us hl => match us, hl with | [_, _], _ => rfl)⟩
  m_Report_upto := by
    obtain ⟨fd, F⟩ := c.d 64
    exact ⟨_, fd, F, He.cls_ok (c.a 65 (f := .cls "Report")), He.meth_ok (c.a 68 (f := .meth "Report" "upto")), (FunD.bindsN F fun _ _ _ _ _ _ us hl => match us, hl with | [_, _], _ => rfl)⟩
  o_Report := obj_ok (c.x 14 (f := .obj "Report"))
  n_Report_plan := He.noat_ok (c.a 69 (f := .noat "Report" "plan"))
  n_Report_heard := He.noat_ok (c.a 70 (f := .noat "Report" "heard"))
  kit_Leaf_Tree := kit_ok (c.x 15 (f := .kit "Leaf" "Tree" true))
  kit_Leaf_Leaf := kit_ok (c.x 16 (f := .kit "Leaf" "Leaf" true))
  kit_Leaf_Group := kit_ok (c.x 17 (f := .kit "Leaf" "Group" false))
  kit_Leaf_Report := kit_ok (c.x 18 (f := .kit "Leaf" "Report" false))
  kit_Group_Tree := kit_ok (c.x 19 (f := .kit "Group" "Tree" true))
  kit_Group_Leaf := kit_ok (c.x 20 (f := .kit "Group" "Leaf" false))
  kit_Group_Group := kit_ok (c.x 21 (f := .kit "Group" "Group" true))
  kit_Group_Report := kit_ok (c.x 22 (f := .kit "Group" "Report" false))
  kit_Report_Tree := kit_ok (c.x 23 (f := .kit "Report" "Tree" false))
  kit_Report_Leaf := kit_ok (c.x 24 (f := .kit "Report" "Leaf" false))
  kit_Report_Group := kit_ok (c.x 25 (f := .kit "Report" "Group" false))
  kit_Report_Report := kit_ok (c.x 26 (f := .kit "Report" "Report" true))
  b_len := He.free_ok X G (c.a 71 (f := .free "len"))
  b_sum := He.free_ok X G (c.a 72 (f := .free "sum"))
  b_min := He.free_ok X G (c.a 73 (f := .free "min"))
  b_max := He.free_ok X G (c.a 74 (f := .free "max"))
  b_sorted := He.free_ok X G (c.a 75 (f := .free "sorted"))
  b_isinstance := He.free_ok X G (c.a 76 (f := .free "isinstance"))
  b_int := He.free_ok X G (c.a 77 (f := .free "int"))
  b_list := He.free_ok X G (c.a 78 (f := .free "list"))
  b_tuple := He.free_ok X G (c.a 79 (f := .free "tuple"))
  b_str := He.free_ok X G (c.a 80 (f := .free "str"))
  b_bool := He.free_ok X G (c.a 81 (f := .free "bool"))
  b_set := He.free_ok X G (c.a 82 (f := .free "set"))
  b_range := He.free_ok X G (c.a 83 (f := .free "range"))
  b_enumerate := He.free_ok X G (c.a 84 (f := .free "enumerate"))
  b_dict := He.free_ok X G (c.a 85 (f := .free "dict"))
  g_ALPHABET := He.str_ok X G (c.a 86 (f := .str "ALPHABET" "abcdefghijklmnopqrstuvwxyz"))
theorem law_facts {P : Program} {w : World} {K : PySem.W.Frag} {h : Heap} {mg : Str → Option Value} {f : Addr} (X : K.In h) (G : h.Ns mainGlobals mg) (hfa' : mg ("law" : Str) = some (.ref f)) (c : SaysX hfa hfx hds K) :
    ∃ fd : FuncData, (∀ (s : Shared) (v : Value), BindsTo s fd ⟨[v], []⟩ [("script", v)]) ∧ ∀ base : Heap, K.In base → base.Ns mainGlobals mg → FnOk P w K mg base CX0 160 f fd ["script"] (sp_law K) := by
  obtain ⟨f', fd', F', hm', b'⟩ := (top_ok X G c).f_law
  rw [hfa'] at hm'
  cases hm'
  have b := FunD.bindsA (ps := ["script"]) F' fun _ _ _ _ _ _ us hl => match us, hl with | [_], _ => rfl
  exact ⟨fd', fun s v => b s [v] rfl, fun base _ _ => law_ok (top_ok X G c) F'⟩
end LW
open PySem PySem.W PySem.Calls PyProof.Rows
theorem PySem.Challenge.cw_rankpicks_k68_kth_worths_holds : PySem.Challenge.rw_rankpicks_k68_kth_worths.Holds := by
  w_on; o_law
  refine HandSHeadRun.head_any (r := LW.hR) (q := view LW.hR.prog [54]) (H := LW.hHk) (ob := LW.hOb) (M := 8000) (loose := LW.hLoose) (d := HandSHeadRun.topDef LW.hR.prog 54) (kwd := []) LW.hOb_eq
    (by kernel_rfl) (fun s => by kernel_rfl) LW.hRun (by kernel_rfl) (by kernel_rfl) (by kernel_rfl) (by rfl) (by first | assumption | decide +kernel) (by decide +kernel) ⟨rfl, rfl, rfl, rfl, rfl, by decide +kernel⟩ ?hw ?hc
  case hw => w_witness2
  case hc =>
    refine L2.walk_ofE (l := PySem.Challenge.rw_rankpicks_k68_kth_worths) (n := 63) (k := 160) (x := "script") (CX := L2.CX0) rfl (by decide) (by kernel_rfl) ⟨rfl, by decide, by decide⟩ ?F (fun _ _ _ _ z => z)
    intro w mg fa h Y G hmg0
    obtain ⟨K, KX, c⟩ := Y
    have hmg : mg ("law" : PySem.Str) = some (.ref fa) := by
      have e : (HandSHeadRun.topDef LW.hR.prog 54).name = ("law" : PySem.Str) := by kernel_rfl
      rw [← e]; exact hmg0
    obtain ⟨fd, hb, hF⟩ := LW.law_facts (P := (PySem.Challenge.rw_rankpicks_k68_kth_worths).prog) (w := w) KX G hmg c
    exact ⟨K, fd, LW.sp_law K, KX, hb, fun H a ns hl _ hS => ⟨ns, hS, fun _ => rfl⟩, hF⟩

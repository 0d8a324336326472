import PyProof.Rows.All
import Wide.All
import OpenK.AllK
import Wide.FinOn
import HandS.ForMost
import HandS.IsInst
import HandS.Property
import HandS.OwnEq
import HandS.SortInts
import HandS.Defaults
import HandS.Walk
import HandS.SetKeys
import HandS.DictComp
import HandS.HeadHook1
import HandS.HeadHook2
import HandS.Strs
import HandS.Style
import HandS.SetBool
import HandS.Dict
import HandS.Small
import HandS.Conv
import HandS.SetFor
import HandS.More
import KE.KOpsOwn
import KE.SortData
import HandS.Iter
import HandS.WordsDict
import HandS.TryOnly
import PyProof.Rows.SortWalkRead
import KE.KStateDown
import Lean
import HandS.Ends
import HandS.Words
import HandS.WordsExc
import HandS.Head0
import HandS.Head1
import HandS.Head2
import HandS.HeadEnd
import PySem.Challenge.RW_rankpicks_k78_copies_of_desks
set_option Elab.async false
set_option linter.all false
set_option maxRecDepth 100000
set_option maxHeartbeats 0
namespace GG
open PySem PySem.Spec L2
/-! ### readings may be strengthened -/
section
variable {X : Cx}
theorem PEi {e : Expr} {t t' : TE} (h : PE X e t) (i : ∀ σ H Q, t' σ H Q → t σ H Q) : PE X e t' := ⟨fun pins s σ H Q I q => h.run pins s σ H Q I (i σ H Q q)⟩
theorem PTi {e : Expr} {t t' : TT} (h : PT X e t) (i : ∀ σ H Q, t' σ H Q → t σ H Q) : PT X e t' := ⟨fun pins s σ H Q I q => h.run pins s σ H Q I (i σ H Q q)⟩
theorem PWi {e : Expr} {t t' : TT} (h : PW X e t) (i : ∀ σ H Q, t' σ H Q → t σ H Q) : PW X e t' := ⟨fun wh pins s σ H Q I q => h.run wh pins s σ H Q I (i σ H Q q)⟩
theorem PSi {e : Stmt} {t t' : TS} (h : PS X e t) (i : ∀ D σ H, t' D σ H → t D σ H) : PS X e t' := ⟨fun pins s σ H D I q => h.run pins s σ H D I (i D σ H q)⟩
theorem PEor {e : Expr} {t t' : TE} (h : PE X e t) (h' : PE X e t') : PE X e (fun σ H Q => t σ H Q ∨ t' σ H Q) :=
  ⟨fun pins s σ H Q I q => q.elim (h.run pins s σ H Q I) (h'.run pins s σ H Q I)⟩
theorem CallRi {f : Value} {r r' : List V → Hp → VK → Prop} (h : CallR X f r) (i : ∀ xs H Q, r' xs H Q → r xs H Q) : CallR X f r' :=
  fun pins s σ H xs us Q I r0 q => h pins s σ H xs us Q I r0 (i xs H Q q)
end
/-! ### heaps -/
theorem Sm.new {H : Hp} {p : Addr} {o : HO} (h : H p = none) : Same H (upd H p o) := fun b u q => by rw [upd_ne (ne_of_none q h)]; exact q
/-- all but what stands at p -/
def SameX (p : Addr) (H H' : Hp) : Prop := ∀ b o, b ≠ p → H b = some o → H' b = some o
theorem SameX.of {p : Addr} {H H' : Hp} (h : Same H H') : SameX p H H' := fun b o _ e => h b o e
theorem SameX.refl {p : Addr} {H : Hp} : SameX p H H := fun _ _ _ e => e
theorem SameX.trans {p : Addr} {H H1 H2 : Hp} (a : SameX p H H1) (b : SameX p H1 H2) : SameX p H H2 := fun c o n e => b c o n (a c o n e)
theorem SameX.upd {p : Addr} {H : Hp} {o : HO} : SameX p H (upd H p o) := fun b u n e => by rw [upd_ne n]; exact e
theorem SameX.un {p : Addr} {H H1 H2 : Hp} (a : Same H H1) (n : H p = none) (b : SameX p H1 H2) : Same H H2 := fun c o e => b c o (ne_of_none e n) (a c o e)
/-- the heap without what stands at D -/
def off (D : Addr) (H : Hp) : Hp := fun b => if b = D then none else H b
theorem off_at {D b : Addr} {H : Hp} (n : b ≠ D) : off D H b = H b := by unfold off; rw [if_neg n]
theorem off_self {D : Addr} {H : Hp} : off D H D = none := by unfold off; rw [if_pos rfl]
theorem off_some {D b : Addr} {H : Hp} {o : HO} (h : off D H b = some o) : b ≠ D ∧ H b = some o := by
  by_cases e : b = D
  · subst e; rw [off_self] at h; cases h
  · rw [off_at e] at h; exact ⟨e, h⟩
theorem off_same {D : Addr} {H : Hp} : Same (off D H) H := fun b o h => (off_some h).2
theorem off_upd {D : Addr} {H : Hp} {o : HO} : off D (upd H D o) = off D H := by
  funext b
  by_cases e : b = D
  · subst e; rw [off_self, off_self]
  · rw [off_at e, off_at e, upd_ne e]
theorem off_mono {D : Addr} {H H' : Hp} (h : Same H H') : Same (off D H) (off D H') := fun b o e => by
  obtain ⟨n, e⟩ := off_some e
  rw [off_at n]; exact h b o e
theorem off_free {D : Addr} {H : Hp} (h : H D = none) : off D H = H := by
  funext b
  by_cases e : b = D
  · subst e; rw [off_self, h]
  · rw [off_at e]
theorem off_from {D : Addr} {H H' : Hp} (h : Same H H') (n : H D = none) : Same H (off D H') := fun b o e => by
  rw [off_at (ne_of_none e n)]; exact h b o e
/-- what is new in H' -/
def fresh (H H' : Hp) : Hp := fun b => match H b with | none => H' b | some _ => none
theorem fresh_some {H H' : Hp} {b : Addr} {o : HO} (h : fresh H H' b = some o) : H b = none ∧ H' b = some o := by
  unfold fresh at h
  cases e : H b with
  | none => rw [e] at h; exact ⟨rfl, h⟩
  | some u => rw [e] at h; cases h
theorem fresh_at {H H' : Hp} {b : Addr} {o : HO} (n : H b = none) (h : H' b = some o) : fresh H H' b = some o := by unfold fresh; rw [n]; exact h
theorem fresh_same {H H' : Hp} : Same (fresh H H') H' := fun b o h => (fresh_some h).2
/-! ### a test's two ways, as one word that stands until it is decided -/
@[irreducible] def way (b : Bool) (A B : Prop) : Prop := if b = true then A else B
theorem way_t {A B : Prop} (h : A) : way true A B := by unfold way; rw [if_pos rfl]; exact h
theorem way_f {A B : Prop} (h : B) : way false A B := by unfold way; rw [if_neg (by decide)]; exact h
theorem way_eq {b : Bool} {A B : Prop} : way b A B = if b = true then A else B := by unfold way; rfl
theorem way_c {b : Bool} {A B : Prop} (h1 : b = true → A) (h2 : b = false → B) : way b A B := by
  cases b
  · exact way_f (h2 rfl)
  · exact way_t (h1 rfl)
theorem way_d {p : Prop} [Decidable p] {A B : Prop} (h1 : p → A) (h2 : ¬ p → B) : way (decide p) A B :=
  way_c (fun h => h1 (of_decide_eq_true h)) fun h => h2 (of_decide_eq_false h)
theorem way_n {b : Bool} {A B : Prop} (h1 : b = false → A) (h2 : b = true → B) : way (!b) A B := by
  cases b
  · exact way_t (h1 rfl)
  · exact way_f (h2 rfl)
theorem way_nd {p : Prop} [Decidable p] {A B : Prop} (h1 : ¬ p → A) (h2 : p → B) : way (!decide p) A B :=
  way_n (fun h => h1 (of_decide_eq_false h)) fun h => h2 (of_decide_eq_true h)
section
variable {X : Cx}
/-! ### names -/
def gVar (i : Nat) : TE := fun σ H Q => match σ[i]? with
  | some (some v) => Q v H
  | _ => False
theorem gv (i : Nat) {x : Str} {pos : Pos} (hN : X.N[i]? = some x := by rfl) (hv : Vis X.env.scope x := by first | exact Or.inl rfl | exact Or.inr (Or.inl rfl) | exact Or.inr (Or.inr rfl)) (hd : (x == ("__debug__" : Str)) = false := by decide)
    (hcd : (x == ("__classdict__" : Str)) = false := by decide) : PE X (.Name x pos) (gVar i) := PEi (pe_var hN hv hd hcd) fun σ H Q h => by
  unfold gVar at h
  split at h
  · rename_i v e
    exact ⟨v, e, h⟩
  · exact h.elim
/-! ### arithmetic -/
def rAddG : R2 := fun x y H Q => match x, y with
  | .int i, .int j => Q (.int (i + j)) H
  | .str a, .str b => a.length + b.length ≤ sizeLine ∧ Q (.str (a ++ b)) H
  | .ref a, .ref b => ∃ xs zs, H a = some (.lst xs) ∧ H b = some (.lst zs) ∧ xs.length + zs.length ≤ sizeLine ∧ ∀ p H', H p = none → Same H H' → H' p = some (.lst (xs ++ zs)) → Q (.ref p) H'
  | _, _ => False
theorem op_addG : OpR X (binaryOp .Add) rAddG := fun pins s σ H x y u v Q I rx ry h => by
  unfold rAddG at h
  split at h
  · exact op_add pins s σ H _ _ u v Q I rx ry ⟨_, _, rfl, rfl, h⟩
  · exact op_add_str pins s σ H _ _ u v Q I rx ry ⟨_, _, rfl, rfl, h.1, h.2⟩
  · obtain ⟨xs, zs, h1, h2, h3, h4⟩ := h
    exact op_cat pins s σ H _ _ u v Q I rx ry ⟨_, _, _, _, rfl, rfl, h1, h2, h3, fun p hp => h4 p _ hp (Sm.new hp) upd_same⟩
  · exact h.elim
def rI1 (C : Int → Int → Prop) (g : Int → Int → V) : R2 := fun x y H Q => match x, y with
  | .int i, .int j => C i j ∧ Q (g i j) H
  | _, _ => False
theorem op_i1 {f : Value → Value → Sem Value} {C : Int → Int → Prop} {g : Int → Int → V} (h : OpR X f (rI C g)) : OpR X f (rI1 C g) := fun pins s σ H x y u v Q I rx ry q => by
  unfold rI1 at q
  split at q
  · exact h pins s σ H _ _ u v Q I rx ry ⟨_, _, rfl, rfl, q.1, q.2⟩
  · exact q.elim
def rI2 (g : Int → Int → V) : R2 := fun x y H Q => match x, y with
  | .int i, .int j => Q (g i j) H
  | _, _ => False
theorem op_i2 {f : Value → Value → Sem Value} {g : Int → Int → V} (h : OpR X f (rI0 g)) : OpR X f (rI2 g) := fun pins s σ H x y u v Q I rx ry q => by
  unfold rI2 at q
  split at q
  · exact h pins s σ H _ _ u v Q I rx ry ⟨_, _, rfl, rfl, q⟩
  · exact q.elim
theorem op_subG : OpR X (binaryOp .Sub) (rI2 fun i j => .int (i - j)) := op_i2 op_sub
theorem op_fdivG : OpR X (binaryOp .FloorDiv) (rI1 CDiv fun i j => .int (i / j)) := op_i1 op_fdiv
theorem op_modG : OpR X (binaryOp .Mod) (rI1 (fun _ j => 0 < j) fun i j => .int (i % j)) := op_i1 op_mod
/-! ### comparisons of scalars -/
def rLtG (fi : Int → Int → Bool) (fs : Str → Str → Bool) : R2 := fun x y H Q => match x, y with
  | .int i, .int j => Q (.bl (fi i j)) H
  | .str i, .str j => Q (.bl (fs i j)) H
  | _, _ => False
theorem op_ltG : OpR X (compareOp .Lt) (rLtG (fun i j => decide (i < j)) fun i j => decide (i.cps.toList < j.cps.toList)) := fun pins s σ H x y u v Q I rx ry q => by
  unfold rLtG at q
  split at q
  · exact op_lt pins s σ H _ _ u v Q I rx ry ⟨_, _, rfl, rfl, q⟩
  · exact op_lt_str pins s σ H _ _ u v Q I rx ry ⟨_, _, rfl, rfl, q⟩
  · exact q.elim
theorem op_leG : OpR X (compareOp .LtE) (rI2 fun i j => .bl (decide (i ≤ j))) := op_i2 op_le
theorem op_gtG : OpR X (compareOp .Gt) (rI2 fun i j => .bl (decide (j < i))) := op_i2 op_gt
theorem op_geG : OpR X (compareOp .GtE) (rI2 fun i j => .bl (decide (j ≤ i))) := op_i2 op_ge
end
end GG
namespace GG
open PySem PySem.Spec L2
section
variable {X : Cx}
/-! ### xs == [], xs != [] whatever stands in xs -/
theorem rc_nil {A : Around} {pins : List (Addr × Obj)} {σ : L2.St} {H : Hp} {s : Shared} {a b : Addr} {xs : List V} {E : Value → Shared → Prop} {Q : Value → Shared → Prop} (I : Inv X pins σ H s) (ha : SqL X.K H a xs) (hb : H b = some (.lst [])) (hu : A.units < cLine)
    (h : Q (.bool xs.isEmpty) s) : wpAny (model X.prog X.w) A (richCompare .Eq (.ref a) (.ref b)) Q E s := by
  obtain ⟨its, r, ⟨o1, n1, e1, c1, d1, q1⟩, z⟩ := I.list ha
  obtain ⟨its2, n2, r2, e2, z2⟩ := I.lst hb
  cases r2
  have L1 : s.heap.IsList a its.toArray := ⟨o1, e1, c1, n1, q1⟩
  have L2' : s.heap.IsList b #[] := ⟨_, e2, rfl, n2, rfl⟩
  cases r with
  | nil => exact SeqAt.RcAt.lists (e := fun _ => true) L1 L2' rfl hu (fun j h1 => by simp at h1) X.prog X.w E Q h
  | cons r0 rs => exact SeqAt.RcAt.lists_lengths L1 L2' (by simp) hu X.prog X.w E Q h
theorem rcne_nil {A : Around} {pins : List (Addr × Obj)} {σ : L2.St} {H : Hp} {s : Shared} {a b : Addr} {xs : List V} {E : Value → Shared → Prop} {Q : Value → Shared → Prop} (I : Inv X pins σ H s) (ha : SqL X.K H a xs) (hb : H b = some (.lst [])) (hu : A.units < cLine)
    (h : Q (.bool !xs.isEmpty) s) : wpAny (model X.prog X.w) A (richCompare .NotEq (.ref a) (.ref b)) Q E s := by
  obtain ⟨its, r, ⟨o1, n1, e1, c1, d1, q1⟩, z⟩ := I.list ha
  obtain ⟨its2, n2, r2, e2, z2⟩ := I.lst hb
  cases r2
  have L1 : s.heap.IsList a its.toArray := ⟨o1, e1, c1, n1, q1⟩
  have L2' : s.heap.IsList b #[] := ⟨_, e2, rfl, n2, rfl⟩
  cases r with
  | nil => exact SeqAt.RcNeAt.lists (e := fun _ => true) L1 L2' rfl hu (fun j h1 => by simp at h1) X.prog X.w E Q h
  | cons r0 rs => exact SeqAt.RcNeAt.lists_lengths L1 L2' (by simp) hu X.prog X.w E Q h
def rEqNil (K : PySem.W.Frag) : R2 := fun x y H Q => ∃ a b xs, x = .ref a ∧ y = .ref b ∧ SqL K H a xs ∧ H b = some (.lst []) ∧ Q (.bl xs.isEmpty) H
def rNeNil (K : PySem.W.Frag) : R2 := fun x y H Q => ∃ a b xs, x = .ref a ∧ y = .ref b ∧ SqL K H a xs ∧ H b = some (.lst []) ∧ Q (.bl (!xs.isEmpty)) H
theorem op_eqNil (hu : X.A.units < cLine) : OpR X (compareOp .Eq) (rEqNil X.K) := by
  intro pins s σ H x y v u Q I rx ry h
  obtain ⟨a, b, xs, rfl, rfl, h1, h2, q⟩ := h
  cases rx; cases ry
  show wpAny _ _ (richCompare .Eq (.ref a) (.ref b)) _ _ _
  exact rc_nil I h1 h2 hu ⟨.bl _, H, I, rfl, q⟩
theorem op_neNil (hu : X.A.units < cLine) : OpR X (compareOp .NotEq) (rNeNil X.K) := by
  intro pins s σ H x y v u Q I rx ry h
  obtain ⟨a, b, xs, rfl, rfl, h1, h2, q⟩ := h
  cases rx; cases ry
  show wpAny _ _ (richCompare .NotEq (.ref a) (.ref b)) _ _ _
  exact rcne_nil I h1 h2 hu ⟨.bl _, H, I, rfl, q⟩
/-! ### ==, != -/
/-- scalars by their constructors; objects: a list beside the empty one, or data -/
def rEqG (K : PySem.W.Frag) (f : Bool → Bool) : R2 := fun x y H Q => match x, y with
  | .ref a, .ref b => (∃ xs, SqL K H a xs ∧ H b = some (.lst []) ∧ Q (.bl (f xs.isEmpty)) H) ∨ (∃ d e, Dp K H (.ref a) d ∧ Dp K H (.ref b) e ∧ SeqAt.shaped d = true ∧ SeqAt.shaped e = true ∧ Q (.bl (f (PyData.eqv d e))) H)
  | .int i, .int j => Q (.bl (f (decide (i = j)))) H
  | .str i, .str j => Q (.bl (f (decide (i = j)))) H
  | .bl i, .bl j => Q (.bl (f (decide (i = j)))) H
  | .non, .non => Q (.bl (f true)) H
  | .non, .int _ => Q (.bl (f false)) H
  | .int _, .non => Q (.bl (f false)) H
  | .non, .str _ => Q (.bl (f false)) H
  | .str _, .non => Q (.bl (f false)) H
  | .int _, .str _ => Q (.bl (f false)) H
  | .str _, .int _ => Q (.bl (f false)) H
  | x, y => ∃ d e, Dp K H x d ∧ Dp K H y e ∧ SeqAt.shaped d = true ∧ SeqAt.shaped e = true ∧ Q (.bl (f (PyData.eqv d e))) H
theorem op_eqG (hu : X.A.units + 64 < cLine) : OpR X (compareOp .Eq) (rEqG X.K fun b => b) := fun pins s σ H x y u v Q I rx ry h => by
  have hu' : X.A.units < cLine := by omega
  unfold rEqG at h
  split at h
  · rcases h with h | h
    · obtain ⟨xs, h1, h2, q⟩ := h
      exact op_eqNil hu' pins s σ H _ _ u v Q I rx ry ⟨_, _, _, rfl, rfl, h1, h2, q⟩
    · exact op_eqD hu pins s σ H _ _ u v Q I rx ry h
  · exact op_eq pins s σ H _ _ u v Q I rx ry ⟨rfl, by rw [show decide (V.int _ = V.int _) = decide (_ = _) from decide_eq_decide.mpr ⟨V.int.inj, congrArg V.int⟩]; exact h⟩
  · exact op_eq pins s σ H _ _ u v Q I rx ry ⟨rfl, by rw [show decide (V.str _ = V.str _) = decide (_ = _) from decide_eq_decide.mpr ⟨V.str.inj, congrArg V.str⟩]; exact h⟩
  · exact op_eq pins s σ H _ _ u v Q I rx ry ⟨rfl, by rw [show decide (V.bl _ = V.bl _) = decide (_ = _) from decide_eq_decide.mpr ⟨V.bl.inj, congrArg V.bl⟩]; exact h⟩
  all_goals first
    | exact op_eq pins s σ H _ _ u v Q I rx ry ⟨rfl, h⟩
    | exact op_eqD hu pins s σ H _ _ u v Q I rx ry h
theorem op_neG (hu : X.A.units + 64 < cLine) : OpR X (compareOp .NotEq) (rEqG X.K fun b => !b) := fun pins s σ H x y u v Q I rx ry h => by
  have hu' : X.A.units < cLine := by omega
  unfold rEqG at h
  split at h
  · rcases h with h | h
    · obtain ⟨xs, h1, h2, q⟩ := h
      exact op_neNil hu' pins s σ H _ _ u v Q I rx ry ⟨_, _, _, rfl, rfl, h1, h2, q⟩
    · exact op_neD hu pins s σ H _ _ u v Q I rx ry h
  · exact op_ne pins s σ H _ _ u v Q I rx ry ⟨rfl, by rw [show decide (V.int _ = V.int _) = decide (_ = _) from decide_eq_decide.mpr ⟨V.int.inj, congrArg V.int⟩]; exact h⟩
  · exact op_ne pins s σ H _ _ u v Q I rx ry ⟨rfl, by rw [show decide (V.str _ = V.str _) = decide (_ = _) from decide_eq_decide.mpr ⟨V.str.inj, congrArg V.str⟩]; exact h⟩
  · exact op_ne pins s σ H _ _ u v Q I rx ry ⟨rfl, by rw [show decide (V.bl _ = V.bl _) = decide (_ = _) from decide_eq_decide.mpr ⟨V.bl.inj, congrArg V.bl⟩]; exact h⟩
  all_goals first
    | exact op_ne pins s σ H _ _ u v Q I rx ry ⟨rfl, h⟩
    | exact op_neD hu pins s σ H _ _ u v Q I rx ry h
end
end GG
namespace GG
open PySem PySem.Spec L2
section
variable {X : Cx}
/-! ### closing a reading under weaker continuations -/
def mcE (t : TE) : TE := fun σ H K => ∃ Q : VK, (∀ v H1, Q v H1 → K v H1) ∧ t σ H Q
def mcT (t : TT) : TT := fun σ H K => ∃ Q : Bool → Hp → Prop, (∀ v H1, Q v H1 → K v H1) ∧ t σ H Q
def mcA (t : TA) : TA := fun σ H K => ∃ Q : List V → Hp → Prop, (∀ v H1, Q v H1 → K v H1) ∧ t σ H Q
theorem PEm {e : Expr} {t : TE} (h : PE X e t) : PE X e (mcE t) := ⟨fun pins s σ H K I ⟨Q, i, q⟩ => thn (h.run pins s σ H Q I q) fun u s' ⟨v, H', I', r, q'⟩ => ⟨v, H', I', r, i v H' q'⟩⟩
theorem PTm {e : Expr} {t : TT} (h : PT X e t) : PT X e (mcT t) := ⟨fun pins s σ H K I ⟨Q, i, q⟩ => thn (h.run pins s σ H Q I q) fun b s' ⟨H', I', q'⟩ => ⟨H', I', i b H' q'⟩⟩
theorem PAm {es : List Expr} {t : TA} (h : PA X es t) : PA X es (mcA t) := ⟨fun pos pins s σ H K I ⟨Q, i, q⟩ => thn (h.run pos pins s σ H Q I q) fun us s' ⟨v, H', I', r, q'⟩ => ⟨v, H', I', r, i v H' q'⟩⟩
/-! ### displays -/
def gLst (t : TA) : TE := fun σ H Q => t σ H fun xs H1 => xs.length ≤ sizeLine ∧ ∀ p H2, H1 p = none → Same H1 H2 → H2 p = some (.lst xs) → Q (.ref p) H2
theorem g_lst {es : List Expr} {t : TA} {pos : Pos} (h : PA X es t) : PE X (.List es pos) (gLst t) :=
  PEi (pe_lst (PAm h)) fun σ H Q q => ⟨_, fun xs H1 r => ⟨r.1, fun p hp => r.2 p _ hp (Sm.new hp) upd_same⟩, q⟩
def gTupD (t : TA) : TE := fun σ H Q => t σ H fun xs H1 => xs.length ≤ sizeLine ∧ ∀ p H2, H1 p = none → Same H1 H2 → H2 p = some (.tup xs) → Q (.ref p) H2
theorem g_tup {es : List Expr} {t : TA} {k : Nat} {pos : Pos} (h : PA X es t) : PE X (.Tuple es k pos) (gTupD t) :=
  PEi (pe_tup (PAm h)) fun σ H Q q => ⟨_, fun xs H1 r => ⟨r.1, fun p hp => r.2 p _ hp (Sm.new hp) upd_same⟩, q⟩
/-! ### tests -/
def gB (t : TE) : TT := fun σ H Q => t σ H fun x H1 => match x with
  | .bl k => Q k H1
  | _ => False
theorem g_val {e : Expr} {te : TE} (h : PE X e te) (he : ∀ whole, isTrue e X.env whole = (do let v ← whole; standAt e.pos; holding [v] (truthy v)) := by intro _; rfl) : PT X e (gB te) :=
  PTi (pt_val (PEm h) he) fun σ H Q q => ⟨_, fun x H1 r => by
    split at r
    · exact ⟨_, rfl, r⟩
    · exact r.elim, q⟩
theorem g_cmp {a b : Expr} {op : CmpOp} {r : R2} {ta tb : TE} {pos : Pos} (ho : OpR X (compareOp op) r) (ha : PE X a ta) (hb : PE X b tb) (hm : behindInMarks op b = false) : PT X (.Compare a [op] [b] pos) (gB (tOp r ta tb)) :=
  PTi (pt_cmpR (r := fun x y H Q => ∃ Q', (∀ v H1, Q' v H1 → Q v H1) ∧ r x y H Q') (fun pins s σ H x y u v K I rx ry ⟨Q, i, q⟩ => thn (ho pins s σ H x y u v Q I rx ry q) fun u s' ⟨v, H', I', r, q'⟩ => ⟨v, H', I', r, i v H' q'⟩) (PEm ha) (PEm hb) hm) fun σ H Q q =>
    ⟨_, fun x H1 r1 => ⟨_, fun y H2 r2 => ⟨_, fun z H3 r3 => by
      split at r3
      · exact ⟨_, rfl, r3⟩
      · exact r3.elim, r2⟩, r1⟩, q⟩
theorem g_cmpV {a b : Expr} {op : CmpOp} {r : R2} {ta tb : TE} {pos : Pos} (ho : OpR X (compareOp op) r) (ha : PE X a ta) (hb : PE X b tb) (hm : behindInMarks op b = false) : PE X (.Compare a [op] [b] pos) (tOp r ta tb) := pe_cmpR ho ha hb hm
def gAnd (t u : TT) : TT := fun σ H Q => t σ H fun c H1 => way c (u σ H1 Q) (Q false H1)
def gOr (t u : TT) : TT := fun σ H Q => t σ H fun c H1 => way c (Q true H1) (u σ H1 Q)
theorem g_and {a b : Expr} {rest : List Expr} {pos : Pos} {t u : TT} (ha : PT X a t) (hb : PW X (.BoolOp .And (b :: rest) pos) u) : PW X (.BoolOp .And (a :: b :: rest) pos) (gAnd t u) :=
  PWi (pw_and (PTm ha) hb) fun σ H Q q => ⟨_, fun c H1 r => by rw [way_eq] at r; exact r, q⟩
theorem g_or {a b : Expr} {rest : List Expr} {pos : Pos} {t u : TT} (ha : PT X a t) (hb : PW X (.BoolOp .Or (b :: rest) pos) u) : PW X (.BoolOp .Or (a :: b :: rest) pos) (gOr t u) :=
  PWi (pw_or (PTm ha) hb) fun σ H Q q => ⟨_, fun c H1 r => by rw [way_eq] at r; exact r, q⟩
/-! ### and, or, not as values -/
def gAndV (ta tb : TE) : TE := fun σ H Q => ta σ H fun x H1 => match x with
  | .bl c => way c (tb σ H1 Q) (Q (.bl false) H1)
  | _ => False
def gNotV (ta : TE) : TE := fun σ H Q => ta σ H fun x H1 => match x with
  | .bl c => Q (.bl (!c)) H1
  | _ => False
theorem g_andV {a b : Expr} {rest : List Expr} {pos : Pos} {ta tb : TE} (ha : PE X a ta) (hb : PE X (.BoolOp .And (b :: rest) pos) tb) : PE X (.BoolOp .And (a :: b :: rest) pos) (gAndV ta tb) :=
  PEi (pe_and (PEm ha) hb) fun σ H Q q => ⟨_, fun x H1 r => by
    split at r
    · rw [way_eq] at r; exact ⟨_, rfl, r⟩
    · exact r.elim, q⟩
theorem g_notV {a : Expr} {pos : Pos} {ta : TE} (ha : PE X a ta) : PE X (.UnaryOp .Not a pos) (gNotV ta) :=
  PEi (pe_not (PEm ha)) fun σ H Q q => ⟨_, fun x H1 r => by
    split at r
    · exact ⟨_, rfl, r⟩
    · exact r.elim, q⟩
def gIfE (t : TT) (ta tb : TE) : TE := fun σ H Q => t σ H fun c H1 => way c (ta σ H1 Q) (tb σ H1 Q)
theorem g_ifE {c a b : Expr} {pos : Pos} {t : TT} {ta tb : TE} (hc : PT X c t) (ha : PE X a ta) (hb : PE X b tb) : PE X (.IfExp c a b pos) (gIfE t ta tb) :=
  PEi (pe_ifExp (PTm hc) ha hb) fun σ H Q q => ⟨_, fun c H1 r => by rw [way_eq] at r; exact r, q⟩
def gIf (t : TT) (u v : TS) : TS := fun D σ H => t σ H fun c H1 => way c (u D σ H1) (v D σ H1)
theorem g_if {c : Expr} {a b : List Stmt} {pos : Pos} {t : TT} {u v : TS} (hc : PT X c t) (ha : PSs X a u) (hb : PSs X b v) : PS X (.If c a b pos) (gIf t u v) :=
  PSi (ps_if (PTm hc) ha hb) fun D σ H q => ⟨_, fun c H1 r => by rw [way_eq] at r; exact r, q⟩
/-! ### a chain of two comparisons -/
def gChain (r r' : R2) (ta tb tc : TE) : TE := fun σ H Q => ta σ H fun x H1 => tb σ H1 fun y H2 => r x y H2 fun z H3 => match z with
  | .bl k => way k (tc σ H3 fun w' H4 => r' y w' H4 Q) (Q (.bl false) H3)
  | _ => False
theorem opm {f : Value → Value → Sem Value} {r : R2} (ho : OpR X f r) : OpR X f (fun x y H Q => ∃ Q', (∀ v H1, Q' v H1 → Q v H1) ∧ r x y H Q') := fun pins s σ H x y u v K I rx ry ⟨Q, i, q⟩ =>
  thn (ho pins s σ H x y u v Q I rx ry q) fun u s' ⟨v, H', I', r, q'⟩ => ⟨v, H', I', r, i v H' q'⟩
theorem g_chainT {a b c : Expr} {op op' : CmpOp} {r r' : R2} {ta tb tc : TE} {pos : Pos} (ho : OpR X (compareOp op) r) (ho' : OpR X (compareOp op') r') (ha : PE X a ta) (hb : PE X b tb) (hc : PE X c tc)
    (hm : lastMarks [op, op'] [b, c] = false := by with_unfolding_all rfl) : PT X (.Compare a [op, op'] [b, c] pos) (gB (gChain r r' ta tb tc)) :=
  PTi (pt_chain (opm ho) (opm ho') (PEm ha) (PEm hb) (PEm hc) hm) fun σ H Q q => ⟨_, fun x H1 r1 => ⟨_, fun y H2 r2 => ⟨_, fun z H3 r3 => by
    split at r3
    · rw [way_eq] at r3
      refine ⟨_, rfl, ?_⟩
      split at r3
      · rename_i hk
        rw [if_pos hk]
        exact ⟨_, fun w' H4 r4 => ⟨_, fun z' H5 r5 => by
          split at r5
          · exact ⟨_, rfl, r5⟩
          · exact r5.elim, r4⟩, r3⟩
      · rename_i hk
        rw [if_neg hk]
        exact ⟨_, rfl, r3⟩
    · exact r3.elim, r2⟩, r1⟩, q⟩
/-! ### places -/
def rIxG (K : PySem.W.Frag) : R2 := fun x y H Q => match x, y with
  | .ref p, .int i => ∃ xs v, (SqL K H p xs ∨ SqT K H p xs) ∧ atI xs i = some v ∧ Q v H
  | .str z, .int i => ∃ c, z.length ≤ sizeLine ∧ atI z.cps.toList i = some c ∧ Q (.str ⟨#[c]⟩) H
  | _, _ => False
theorem ix_G : IxR X (rIxG X.K) := by
  intro value slice pins s σ H x y v u Q I rx ry h hs
  unfold rIxG at h
  split at h
  · obtain ⟨xs, v', h1, h2, h3⟩ := h
    refine ix_seq value slice pins s σ H _ _ v u Q I rx ry ?_ hs
    rcases h1 with h1 | h1
    · exact .inl ⟨_, _, _, _, rfl, rfl, h1, h2, h3⟩
    · exact .inr (.inl ⟨_, _, _, _, rfl, rfl, h1, h2, h3⟩)
  · obtain ⟨c, h1, h2, h3⟩ := h
    exact ix_seq value slice pins s σ H _ _ v u Q I rx ry (.inr (.inr ⟨_, _, _, rfl, rfl, h1, h2, h3⟩)) hs
  · exact h.elim
def rSlG (K : PySem.W.Frag) : V → Option Int → Option Int → Hp → VK → Prop := fun x lo hi H Q => match x with
  | .ref a => ∃ xs, SqL K H a xs ∧ ∀ p H', H p = none → Same H H' → H' p = some (.lst (cutV xs lo hi)) → Q (.ref p) H'
  | .str z => z.length ≤ sizeLine ∧ Q (.str (cutS z lo hi)) H
  | _ => False
theorem sl_G : SlR X (rSlG X.K) := by
  intro pins s σ H x v vl vu lo hi sl Q I rx hs pl pu h
  unfold rSlG at h
  split at h
  · obtain ⟨xs, h1, h2⟩ := h
    exact sl_list pins s σ H _ v vl vu lo hi sl Q I rx hs pl pu ⟨_, _, rfl, h1, fun p hp => h2 p _ hp (Sm.new hp) upd_same⟩
  · exact sl_str pins s σ H _ v vl vu lo hi sl Q I rx hs pl pu ⟨_, rfl, h.1, h.2⟩
  · exact h.elim
/-! ### attributes -/
def gFld (K : PySem.W.Frag) (ta : TE) (f : Str) : TE := fun σ H Q => ta σ H fun x H1 => match x with
  | .ref a => ∃ C dx fs v, H1 a = some (.ins C dx fs) ∧ Cls K C ∧ NoAttr K C f ∧ fs.lookup f = some v ∧ Q v H1
  | _ => False
theorem g_fld {e : Expr} {f : Str} {ta : TE} {pos : Pos} (he : PE X e ta) (hb : attributeBase e f X.env (eval e X.env) = eval e X.env) : PE X (.Attribute e f pos) (gFld X.K ta f) :=
  PEi (pe_fld (PEm he) hb) fun σ H Q q => ⟨_, fun x H1 r => by
    split at r
    · obtain ⟨C, dx, fs, v, r⟩ := r
      exact ⟨_, C, dx, fs, v, rfl, r⟩
    · exact r.elim, q⟩
end
end GG
namespace GG
open PySem PySem.Spec L2
section
variable {X : Cx}
/-! ### built-in functions -/
def rLenG (K : PySem.W.Frag) : List V → Hp → VK → Prop := fun vs H Q => match vs with
  | [.str z] => z.length ≤ sizeLine ∧ Q (.int z.length) H
  | [.ref p] => ∃ xs, (SqL K H p xs ∨ SqT K H p xs) ∧ Q (.int xs.length) H
  | _ => False
theorem c_len : CallR X (.builtin "len") (rLenG X.K) := fun pins s σ H xs us Q I r h => by
  unfold rLenG at h
  split at h
  · exact call_len pins s σ H _ us Q I r ⟨_, _, rfl, ⟨h.1, rfl⟩, h.2⟩
  · obtain ⟨ys, h1, h2⟩ := h
    refine call_len pins s σ H _ us Q I r ⟨_, _, rfl, ?_, h2⟩
    rcases h1 with h1 | h1
    · exact .inl ⟨_, h1, rfl⟩
    · exact .inr ⟨_, h1, rfl⟩
  · exact h.elim
def rSumG (K : PySem.W.Frag) : List V → Hp → VK → Prop := fun vs H Q => match vs with
  | [.ref p] => ∃ ns : List Int, SqL K H p (ns.map V.int) ∧ Q (.int ns.sum) H
  | _ => False
theorem c_sum (hc : X.calm = true) : CallR X (.builtin "sum") (rSumG X.K) := CallRi (cr_sum hc) fun xs H Q h => by
  unfold rSumG at h
  split at h
  · obtain ⟨ns, h1, h2⟩ := h
    exact ⟨_, ns, rfl, h1, h2⟩
  · exact h.elim
def rSortG (K : PySem.W.Frag) : List V → Hp → VK → Prop := fun vs H Q => match vs with
  | [.ref a] => ∃ ns : List Int, SqL K H a (ns.map V.int) ∧ ∀ (ns' : List Int) (p : Addr) (H' : Hp), ns'.Perm ns → ns'.Pairwise (· ≤ ·) → H p = none → Same H H' → H' p = some (.lst (ns'.map V.int)) → Q (.ref p) H'
  | _ => False
theorem c_sorted : CallR X (.builtin "sorted") (rSortG X.K) := CallRi cr_sortedI fun xs H Q h => by
  unfold rSortG at h
  split at h
  · obtain ⟨ns, h1, h2⟩ := h
    exact ⟨_, ns, rfl, h1, fun ns' p a b c => h2 ns' p _ a b c (Sm.new c) upd_same⟩
  · exact h.elim
def rIntG : List V → Hp → VK → Prop := fun vs H Q => match vs with
  | [.int i] => Q (.int i) H
  | [.bl k] => Q (.int (if k = true then 1 else 0)) H
  | _ => False
theorem c_int : CallR X (.type "int") rIntG := CallRi call_int1 fun xs H Q h => by
  unfold rIntG at h
  split at h
  · exact .inl ⟨_, rfl, h⟩
  · exact .inr ⟨_, rfl, h⟩
  · exact h.elim
def rListG (K : PySem.W.Frag) : List V → Hp → VK → Prop := fun vs H Q => match vs with
  | [.ref a] => ∃ xs, (SqL K H a xs ∨ SqT K H a xs) ∧ ∀ (p : Addr) (H' : Hp), H p = none → Same H H' → H' p = some (.lst xs) → Q (.ref p) H'
  | _ => False
theorem c_list : CallR X (.type "list") (rListG X.K) := CallRi call_list_of fun xs H Q h => by
  unfold rListG at h
  split at h
  · obtain ⟨ys, h1, h2⟩ := h
    exact ⟨_, ys, rfl, h1, fun p c => h2 p _ c (Sm.new c) upd_same⟩
  · exact h.elim
def rTupleG (K : PySem.W.Frag) : List V → Hp → VK → Prop := fun vs H Q => match vs with
  | [.ref a] => ∃ xs, SqL K H a xs ∧ ∀ (p : Addr) (H' : Hp), H p = none → Same H H' → H' p = some (.tup xs) → Q (.ref p) H'
  | _ => False
theorem c_tuple : CallR X (.type "tuple") (rTupleG X.K) := CallRi call_tuple_of fun xs H Q h => by
  unfold rTupleG at h
  split at h
  · obtain ⟨ys, h1, h2⟩ := h
    exact ⟨_, ys, rfl, .inl ⟨h1, fun p c => h2 p _ c (Sm.new c) upd_same⟩⟩
  · exact h.elim
/-! ### isinstance -/
/-- isinstance(x, c) answers b -/
def IsT (K : PySem.W.Frag) (H : Hp) (x c : V) (b : Bool) : Prop := ∃ t u, ClsV c u ∧ TyX K H x t ∧ PySem.W.kitOne K t u = some b
def rIsG (K : PySem.W.Frag) : List V → Hp → VK → Prop := fun vs H Q => match vs with
  | [x, c] => ∃ b, IsT K H x c b ∧ Q (.bl b) H
  | _ => False
theorem c_isi : CallR X (.builtin "isinstance") (rIsG X.K) := CallRi call_isi fun xs H Q h => by
  unfold rIsG at h
  split at h
  · obtain ⟨b, ⟨t, u, h1, h2, h3⟩, q⟩ := h
    exact ⟨_, _, t, u, b, rfl, h1, h2, h3, q⟩
  · exact h.elim
section
variable {K : PySem.W.Frag} {H : Hp}
theorem is_ii {i : Int} : IsT K H (.int i) (.ty "int") true := ⟨_, _, .ty _, .base (.int i), kit_ty (by decide +kernel)⟩
theorem is_ib {i : Int} : IsT K H (.int i) (.ty "bool") false := ⟨_, _, .ty _, .base (.int i), kit_ty (by decide +kernel)⟩
theorem is_ss {z : Str} : IsT K H (.str z) (.ty "str") true := ⟨_, _, .ty _, .base (.str z), kit_ty (by decide +kernel)⟩
theorem is_ll {a : Addr} {xs : List V} (e : H a = some (.lst xs)) : IsT K H (.ref a) (.ty "list") true := ⟨_, _, .ty _, .base (.lst e), kit_ty (by decide +kernel)⟩
theorem is_tt {a : Addr} {xs : List V} (e : H a = some (.tup xs)) : IsT K H (.ref a) (.ty "tuple") true := ⟨_, _, .ty _, .base (.tup e), kit_ty (by decide +kernel)⟩
theorem is_ts {a : Addr} {xs : List V} (e : H a = some (.tup xs)) : IsT K H (.ref a) (.ty "str") false := ⟨_, _, .ty _, .base (.tup e), kit_ty (by decide +kernel)⟩
end
/-! ### methods of lists, stores -/
def rAppG : V → List V → Hp → VK → Prop := fun x vs H Q => match x, vs with
  | .ref l, [y] => ∃ xs, H l = some (.lst xs) ∧ xs.length < sizeLine ∧ ∀ H', SameX l H H' → H' l = some (.lst (xs ++ [y])) → Q .non H'
  | _, _ => False
theorem m_append : MtR X "list.append" rAppG := fun pins s σ H x xs v us Q I rx r h => by
  unfold rAppG at h
  split at h
  · obtain ⟨ys, h1, h2, h3⟩ := h
    exact mt_append pins s σ H _ _ v us Q I rx r ⟨_, _, _, rfl, rfl, h1, h2, h3 _ SameX.upd upd_same⟩
  · exact h.elim
def rSetG : V → V → V → Hp → (Hp → Prop) → Prop := fun o i v H Q => match o, i with
  | .ref p, .int k => ∃ xs j, H p = some (.lst xs) ∧ ixN xs.length k = some j ∧ ∀ H', SameX p H H' → H' p = some (.lst (xs.set j v)) → Q H'
  | _, _ => False
theorem s_set : PSet X rSetG := fun pins s σ H o i v ov iv u Q I ro ri rv h => by
  unfold rSetG at h
  split at h
  · obtain ⟨xs, j, h1, h2, h3⟩ := h
    exact set_list pins s σ H _ _ v ov iv u Q I ro ri rv ⟨_, xs, _, j, rfl, rfl, h1, h2, h3 _ SameX.upd upd_same⟩
  · exact h.elim
/-- self.f = e on an instance -/
def gFldS (K : PySem.W.Frag) (ta tv : TE) (f : Str) : TS := fun D σ H => tv σ H fun y H1 => ta σ H1 fun x H2 => match x with
  | .ref a => ∃ C dx fs, H2 a = some (.ins C dx fs) ∧ Cls K C ∧ NoAttr K C f ∧ fs.length < 1000 ∧ ∀ H', SameX a H2 H' → H' a = some (.ins C dx (putF f y fs)) → D.nx σ H'
  | _ => False
theorem g_fldS {o value : Expr} {f : Str} {ta tv : TE} {pos pos' : Pos} (ha : PE X o ta) (hv : PE X value tv) (hs : swapsWith value (some (.Attribute o f pos')) pos.line X.env = pure false) : PS X (.Assign [.Attribute o f pos'] value pos) (gFldS X.K ta tv f) :=
  PSi (ps_fld (PEm ha) (PEm hv) hs) fun D σ H q => ⟨_, fun y H1 r1 => ⟨_, fun x H2 r2 => by
    split at r2
    · obtain ⟨C, dx, fs, h1, h2, h3, h4, h5⟩ := r2
      exact ⟨_, C, dx, fs, rfl, h1, h2, h3, h4, h5 _ SameX.upd upd_same⟩
    · exact r2.elim, r1⟩, q⟩
end
end GG
namespace GG
open PySem PySem.Spec L2
/-! ### own defs by name, methods, classes -/
section
variable (P : Program) (w : World) (K : PySem.W.Frag) (mg : Str → Option Value) (base : Heap)
structure FnN (k : Nat) (x : Str) (dvs : List V) (sp : Sp) : Prop where
  ex : ∃ (f : Addr) (fd : FuncData) (ps : List Str) (ds : List Value), FnOk P w K mg base CX0 k f fd ps sp ∧ mg x = some (.ref f) ∧ PySem.W.keepIn K (.ref f) = true ∧ Binds K fd ps ds ∧ Vals dvs ds
structure MtN (k : Nat) (C : Addr) (m : Str) (dvs : List V) (sp : Sp) : Prop where
  ex : ∃ (f : Addr) (fd : FuncData) (ps : List Str) (ds : List Value), Cls K C ∧ Meth K C m f ∧ FnOk P w K mg base CX0 k f fd ps sp ∧ Binds K fd ps ds ∧ Vals dvs ds
structure MkN (k : Nat) (x : Str) (sp : Sp) : Prop where
  ex : ∃ (C f : Addr) (fd : FuncData) (ps : List Str) (ds : List Value) (dvs : List V) (sp0 : Sp), Mk K C f ∧ FnOk P w K mg base CX0 k f fd ps sp0 ∧ mg x = some (.ref C) ∧ Binds K fd ps ds ∧ Vals dvs ds ∧
    ∀ vs H Q, sp vs H Q E0 → ∀ y dy, H y = none → H dy = none → dy ≠ y → sp0 (.ref y :: (vs ++ dvs)) (upd (upd H dy (.own y)) y (.ins C dy [])) (fun v H2 => v = .non ∧ Q (.ref y) H2) E0
structure PrN (k : Nat) (C : Addr) (f : Str) (sp : Sp) : Prop where
  ex : ∃ (p g : Addr) (fd : FuncData) (ps : List Str), Cls K C ∧ PropOf K C f p g ∧ FnOk P w K mg base CX0 k g fd ps sp ∧ Binds K fd ps []
end
section
variable {X : Cx} {k j : Nat} {x m : Str} {p pos apos : Pos} {e o : Expr} {es : List Expr} {t : TA} {ta : TE} {sp sp2 : Sp} {dvs : List V} {C C2 : Addr}
theorem g_call (c : FnN X.prog X.w X.K X.mg X.base k x dvs sp) (hr : Room j X.A) (hg : Gl X x) (hk : k ≤ j) (ha : PA X (e :: es) t)
    (hdb : (x == ("__debug__" : Str)) = false := by decide) (he : starEach (e :: es) X.env = (false, eval e X.env) :: starEach es X.env := by rfl) (hpl : (backTo pos (starEach es X.env)).any (·.1) = false := by rfl) :
    PE X (.Call (.Name x p) (e :: es) [] pos) (tCall sp dvs E0 t) := by
  obtain ⟨f, fd, ps, ds, F, hm, kp, b, d⟩ := c.ex
  exact pe_call F (hr.mono hk) hg hm kp b d pass0 ha hdb he hpl
theorem g_make (c : MkN X.prog X.w X.K X.mg X.base k x sp) (hr : Room j X.A) (hg : Gl X x) (hk : k + 1 ≤ j) (ha : PA X (e :: es) t)
    (hdb : (x == ("__debug__" : Str)) = false := by decide) (he : starEach (e :: es) X.env = (false, eval e X.env) :: starEach es X.env := by rfl) (hpl : (backTo pos (starEach es X.env)).any (·.1) = false := by rfl) :
    PE X (.Call (.Name x p) (e :: es) [] pos) (fun σ H Q => t σ H fun vs H1 => sp vs H1 Q E0) := by
  obtain ⟨C, f, fd, ps, ds, dvs, sp0, M, F, hm, b, d, i⟩ := c.ex
  exact PEi (pe_make M F (hr.mono hk) hg hm b d pass0 (PAm ha) hdb he hpl) fun σ H Q q => ⟨_, fun vs H1 r => i vs H1 Q r, q⟩
def gMeth (C : Addr) (m : Str) (sp : Sp) (dvs : List V) (ta : TE) (t : TA) : TE := fun σ H Q => ta σ H fun x H1 => match x with
  | .ref a => ∃ dx fs, H1 a = some (.ins C dx fs) ∧ fs.lookup m = none ∧ t σ H1 fun vs H2 => sp (.ref a :: (vs ++ dvs)) H2 Q E0
  | _ => False
theorem g_meth {pl : Sem Bool} (c : MtN X.prog X.w X.K X.mg X.base k C m dvs sp) (hr : Room j X.A) (hk : k ≤ j) (he : PE X o ta) (ha : PA X (e :: es) t)
    (hst : starEach (e :: es) X.env = (false, eval e X.env) :: starEach es X.env := by rfl) (hpl : (backTo pos (starEach es X.env)).any (·.1) = false := by rfl)
    (ht : eval (.Call (.Attribute o m apos) (e :: es) [] pos) X.env = (do
      let ov ← eval o X.env
      standAt apos.atName
      let (f, first) ← holding [ov] (getMethod ov m pl)
      callWith pos f first (backTo pos (starEach (e :: es) X.env)) (backToKw pos (keywordEach [] X.env))) := by rfl) :
    PE X (.Call (.Attribute o m apos) (e :: es) [] pos) (gMeth C m sp dvs ta t) := by
  obtain ⟨f, fd, ps, ds, hc, hm, F, b, d⟩ := c.ex
  exact PEi (pe_meth (pl := pl) (PEm he) hc hm F (hr.mono hk) b d pass0 ha hst hpl ht) fun σ H Q q => ⟨_, fun x H1 r => by
    split at r
    · obtain ⟨dx, fs, r⟩ := r
      exact ⟨_, dx, fs, rfl, r⟩
    · exact r.elim, q⟩
theorem g_meth0 {pl : Sem Bool} (c : MtN X.prog X.w X.K X.mg X.base k C m dvs sp) (hr : Room j X.A) (hk : k ≤ j) (he : PE X o ta)
    (ht : eval (.Call (.Attribute o m apos) [] [] pos) X.env = (do
      let ov ← eval o X.env
      standAt apos.atName
      let (f, first) ← holding [ov] (getMethod ov m pl)
      callWith pos f first (backTo pos (starEach [] X.env)) (backToKw pos (keywordEach [] X.env))) := by rfl) :
    PE X (.Call (.Attribute o m apos) [] [] pos) (gMeth C m sp dvs ta tNil) := by
  obtain ⟨f, fd, ps, ds, hc, hm, F, b, d⟩ := c.ex
  exact PEi (pe_meth0 (pl := pl) (PEm he) hc hm F (hr.mono hk) b d pass0 ht) fun σ H Q q => ⟨_, fun x H1 r => by
    split at r
    · obtain ⟨dx, fs, r⟩ := r
      exact ⟨_, dx, fs, rfl, r⟩
    · exact r.elim, q⟩
def gProp (C : Addr) (sp : Sp) (ta : TE) : TE := fun σ H Q => ta σ H fun x H1 => match x with
  | .ref a => ∃ dx fs, H1 a = some (.ins C dx fs) ∧ sp [.ref a] H1 Q E0
  | _ => False
theorem g_prop {f : Str} (c : PrN X.prog X.w X.K X.mg X.base k C f sp) (hr : Room j X.A) (hk : k + 1 ≤ j) (he : PE X e ta)
    (hab : attributeBase e f X.env (eval e X.env) = eval e X.env) : PE X (.Attribute e f pos) (gProp C sp ta) := by
  obtain ⟨p, g, fd, ps, hc, hp, F, b⟩ := c.ex
  exact PEi (pe_prop (E := E0) (PEm he) hc hp F (hr.mono hk) b .nil pass0 hab) fun σ H Q q => ⟨_, fun x H1 r => by
    split at r
    · obtain ⟨dx, fs, r⟩ := r
      exact ⟨_, dx, fs, rfl, r⟩
    · exact r.elim, q⟩
end
/-! ### comprehensions: one clause, the target a name -/
section
/-- what is asked of a comprehension over the walk J from the heap H1 on -/
@[irreducible] def Comp (J : It) (j : Nat) (tt : TT) (te : TE) (vs : List Nat) (σ : L2.St) (Q : VK) (H1 : Hp) : Prop := ∀ D, H1 D = none → ∃ W : Nat → Nat → Hp → Prop, (∃ m, W 0 m (upd H1 D (.lst []))) ∧ ∀ i m H, W i m H →
  (J.stop i H ∧ Q (.ref D) H) ∨ (J.go i H ∧ ∃ Nx : Hp → Prop, (∀ H', Nx H' → ∃ m', m' < m ∧ W (i + 1) m' H') ∧ ∀ x H', J.yld i H x H' → wipe ((wipe σ vs).set j (some x)) vs = wipe σ vs ∧ tt ((wipe σ vs).set j (some x)) H' fun b H3 =>
    if b = true then te ((wipe σ vs).set j (some x)) H3 fun y H4 => ∃ acc, H4 D = some (.lst acc) ∧ acc.length < sizeLine ∧ Nx (upd H4 D (.lst (acc ++ [y]))) else Nx H3)
variable {J : It} {n : Nat} {Gd : Hp → Prop} {Y : Nat → V → Prop} {j : Nat} {tt : TT} {te : TE} {vs : List Nat} {σ : L2.St} {Q : VK} {H1 : Hp}
/-- F: what holds behind i items of the list acc that was made so far, of the heap without the list that is being made -/
theorem comp_by (w : Walk J n Gd (fun i H x H' => H' = H ∧ Y i x)) (F : Nat → List V → Hp → Prop) (hn : n < sizeLine) (h0 : F 0 [] H1) (hG : ∀ i acc H G, i ≤ n → F i acc G → Same G H → Gd H)
    (hs : ∀ D i x acc H', i < n → Y i x → H1 D = none → H' D = some (.lst acc) → acc.length ≤ i → F i acc (off D H') → wipe ((wipe σ vs).set j (some x)) vs = wipe σ vs ∧
      tt ((wipe σ vs).set j (some x)) H' fun b H3 => way b (te ((wipe σ vs).set j (some x)) H3 fun y H4 => H4 D = some (.lst acc) ∧ F (i + 1) (acc ++ [y]) (off D H4)) (H3 D = some (.lst acc) ∧ F (i + 1) acc (off D H3)))
    (hd : ∀ D H' acc, H1 D = none → H' D = some (.lst acc) → acc.length ≤ n → F n acc (off D H') → Q (.ref D) H')
    (mt : ∀ σ H (Q Q' : Bool → Hp → Prop), (∀ b H1, Q b H1 → Q' b H1) → tt σ H Q → tt σ H Q') (me : ∀ σ H (Q Q' : VK), (∀ v H1, Q v H1 → Q' v H1) → te σ H Q → te σ H Q') : Comp J j tt te vs σ Q H1 := by
  unfold Comp
  intro D hD
  refine lc_it (g := gName j) w (fun i H => ∃ acc, H D = some (.lst acc) ∧ acc.length ≤ i ∧ F i acc (off D H)) ⟨[], upd_same, Nat.le_refl _, by rw [off_upd, off_free hD]; exact h0⟩ (fun i H hi ⟨acc, _, _, f⟩ => hG i acc H _ hi f off_same) ?_
    (fun H ⟨acc, e, l, f⟩ => hd D H acc hD e l f)
  rintro i x H H' hi ⟨acc, e, l, f⟩ ⟨rfl, hy⟩
  obtain ⟨z, r⟩ := hs D i x acc H' hi hy hD e l f
  refine ⟨z, mt _ _ _ _ (fun b H3 q => ?_) r⟩
  rw [way_eq] at q
  split at q
  · rename_i hb
    rw [if_pos hb]
    exact me _ _ _ _ (fun y H4 ⟨e4, f4⟩ => ⟨acc, e4, by omega, acc ++ [y], upd_same, by rw [List.length_append]; simp; omega, by rw [off_upd]; exact f4⟩) q
  · rename_i hb
    rw [if_neg hb]
    exact ⟨acc, q.1, by omega, q.2⟩
end
section
variable {X : Cx} {K : PySem.W.Frag} {j : Nat} {tt : TT} {te : TE} {vs : List Nat} {σ : L2.St} {Q : VK} {H1 : Hp} {F : Nat → List V → Hp → Prop}
theorem mcT_m : ∀ σ H (Q Q' : Bool → Hp → Prop), (∀ b H1, Q b H1 → Q' b H1) → mcT tt σ H Q → mcT tt σ H Q' := fun σ H Q Q' i ⟨R, h, q⟩ => ⟨R, fun b H1 r => i b H1 (h b H1 r), q⟩
theorem mcE_m : ∀ σ H (Q Q' : VK), (∀ b H1, Q b H1 → Q' b H1) → mcE te σ H Q → mcE te σ H Q' := fun σ H Q Q' i ⟨R, h, q⟩ => ⟨R, fun b H1 r => i b H1 (h b H1 r), q⟩
/-- over a list -/
theorem comp_list {a : Addr} {xs : List V} (F : Nat → List V → Hp → Prop) (hn : xs.length < sizeLine) (h0 : F 0 [] H1) (hG : ∀ i acc G, F i acc G → SqL K G a xs)
    (hs : ∀ D i x acc H', xs[i]? = some x → H1 D = none → H' D = some (.lst acc) → acc.length ≤ i → F i acc (off D H') → wipe ((wipe σ vs).set j (some x)) vs = wipe σ vs ∧
      tt ((wipe σ vs).set j (some x)) H' fun b H3 => way b (te ((wipe σ vs).set j (some x)) H3 fun y H4 => H4 D = some (.lst acc) ∧ F (i + 1) (acc ++ [y]) (off D H4)) (H3 D = some (.lst acc) ∧ F (i + 1) acc (off D H3)))
    (hd : ∀ D H' acc, H1 D = none → H' D = some (.lst acc) → acc.length ≤ xs.length → F xs.length acc (off D H') → Q (.ref D) H') : (∃ ys, SqL K H1 a ys) ∧ Comp (Itl K a) j (mcT tt) (mcE te) vs σ Q H1 :=
  ⟨⟨xs, hG _ _ _ h0⟩, comp_by walk_list F hn h0 (fun i acc H G _ f s => s.seq (hG i acc G f)) (fun D i x acc H' _ hx a b c d => ⟨(hs D i x acc H' hx a b c d).1, _, fun _ _ r => by
    rw [way_eq] at r ⊢
    split at r
    · rename_i hb
      rw [if_pos hb]
      exact ⟨_, fun _ _ z => z, r⟩
    · rename_i hb
      rw [if_neg hb]
      exact r, (hs D i x acc H' hx a b c d).2⟩) hd mcT_m mcE_m⟩
theorem SqT_same {K : PySem.W.Frag} {H H' : Hp} {a : Addr} {xs : List V} (h : SqT K H a xs) (e : Same H H') : SqT K H' a xs :=
  h.elim (fun h => .inl (h.elim (fun h => .inl (e _ _ h)) fun ⟨o, h⟩ => .inr ⟨o, e _ _ h⟩)) fun h => .inr h
/-- over a tuple -/
theorem comp_tup {a : Addr} {xs : List V} (F : Nat → List V → Hp → Prop) (hn : xs.length < sizeLine) (h0 : F 0 [] H1) (hG : ∀ i acc G, F i acc G → SqT K G a xs)
    (hs : ∀ D i x acc H', xs[i]? = some x → H1 D = none → H' D = some (.lst acc) → acc.length ≤ i → F i acc (off D H') → wipe ((wipe σ vs).set j (some x)) vs = wipe σ vs ∧
      tt ((wipe σ vs).set j (some x)) H' fun b H3 => way b (te ((wipe σ vs).set j (some x)) H3 fun y H4 => H4 D = some (.lst acc) ∧ F (i + 1) (acc ++ [y]) (off D H4)) (H3 D = some (.lst acc) ∧ F (i + 1) acc (off D H3)))
    (hd : ∀ D H' acc, H1 D = none → H' D = some (.lst acc) → acc.length ≤ xs.length → F xs.length acc (off D H') → Q (.ref D) H') : (∃ ys, SqT K H1 a ys) ∧ Comp (Itt K a) j (mcT tt) (mcE te) vs σ Q H1 :=
  ⟨⟨xs, hG _ _ _ h0⟩, comp_by walk_tup F hn h0 (fun i acc H G _ f s => SqT_same (hG i acc G f) s) (fun D i x acc H' _ hx a b c d => ⟨(hs D i x acc H' hx a b c d).1, _, fun _ _ r => by
    rw [way_eq] at r ⊢
    split at r
    · rename_i hb
      rw [if_pos hb]
      exact ⟨_, fun _ _ z => z, r⟩
    · rename_i hb
      rw [if_neg hb]
      exact r, (hs D i x acc H' hx a b c d).2⟩) hd mcT_m mcE_m⟩
/-- over range(lo, lo + n) -/
theorem comp_range {lo : Int} {n : Nat} (F : Nat → List V → Hp → Prop) (hn : n < sizeLine) (h0 : F 0 [] H1)
    (hs : ∀ D i acc H', i < n → H1 D = none → H' D = some (.lst acc) → acc.length ≤ i → F i acc (off D H') → wipe ((wipe σ vs).set j (some (.int (lo + i)))) vs = wipe σ vs ∧
      tt ((wipe σ vs).set j (some (.int (lo + i)))) H' fun b H3 => way b (te ((wipe σ vs).set j (some (.int (lo + i)))) H3 fun y H4 => H4 D = some (.lst acc) ∧ F (i + 1) (acc ++ [y]) (off D H4)) (H3 D = some (.lst acc) ∧ F (i + 1) acc (off D H3)))
    (hd : ∀ D H' acc, H1 D = none → H' D = some (.lst acc) → acc.length ≤ n → F n acc (off D H') → Q (.ref D) H') : Comp (Itr lo n) j (mcT tt) (mcE te) vs σ Q H1 :=
  comp_by walk_range F hn h0 (fun _ _ _ _ _ _ _ => trivial) (fun D i x acc H' hi hx a b c d => by
    subst hx
    exact ⟨(hs D i acc H' hi a b c d).1, _, fun _ _ r => by
      rw [way_eq] at r ⊢
      split at r
      · rename_i hb
        rw [if_pos hb]
        exact ⟨_, fun _ _ z => z, r⟩
      · rename_i hb
        rw [if_neg hb]
        exact r, (hs D i acc H' hi a b c d).2⟩) hd mcT_m mcE_m
/-- over a text -/
theorem comp_str {z : Str} (F : Nat → List V → Hp → Prop) (hn : z.length < sizeLine) (h0 : F 0 [] H1)
    (hs : ∀ D i c acc H', z.cps[i]? = some c → H1 D = none → H' D = some (.lst acc) → acc.length ≤ i → F i acc (off D H') → wipe ((wipe σ vs).set j (some (.str ⟨#[c]⟩))) vs = wipe σ vs ∧
      tt ((wipe σ vs).set j (some (.str ⟨#[c]⟩))) H' fun b H3 => way b (te ((wipe σ vs).set j (some (.str ⟨#[c]⟩))) H3 fun y H4 => H4 D = some (.lst acc) ∧ F (i + 1) (acc ++ [y]) (off D H4)) (H3 D = some (.lst acc) ∧ F (i + 1) acc (off D H3)))
    (hd : ∀ D H' acc, H1 D = none → H' D = some (.lst acc) → acc.length ≤ z.length → F z.length acc (off D H') → Q (.ref D) H') : Comp (Its z) j (mcT tt) (mcE te) vs σ Q H1 :=
  comp_by (n := z.cps.size) (Y := fun i v => ∃ c, z.cps[i]? = some c ∧ v = .str ⟨#[c]⟩) walk_str F hn h0 (fun _ _ _ _ _ _ _ => trivial) (fun D i x acc H' hi hx a b c d => by
    obtain ⟨ch, hc, rfl⟩ := hx
    exact ⟨(hs D i ch acc H' hc a b c d).1, _, fun _ _ r => by
      rw [way_eq] at r ⊢
      split at r
      · rename_i hb
        rw [if_pos hb]
        exact ⟨_, fun _ _ z => z, r⟩
      · rename_i hb
        rw [if_neg hb]
        exact r, (hs D i ch acc H' hc a b c d).2⟩) hd mcT_m mcE_m
end
end GG
namespace GG
open PySem PySem.Spec L2
section
variable {X : Cx} {elt tg iter : Expr} {ifs : List Expr} {scope : Scope} {own : List (Str × Nat)} {pos : Pos} {tl te : TE} {ta : TA} {tt : TT} {j : Nat}
theorem PTsm {cs : List Expr} {t : TT} (h : PTs X cs t) : PTs X cs (mcT t) := ⟨fun pins s σ H K I ⟨Q, i, q⟩ => thn (h.run pins s σ H Q I q) fun b s' ⟨H', I', q'⟩ => ⟨H', I', i b H' q'⟩⟩
theorem PIi {tg iter : Expr} {wi wi' : TI} (h : PI X tg iter wi) (i : ∀ σ H R, wi' σ H R → wi σ H R) : PI X tg iter wi' := ⟨fun pins s σ H R I q => h.run pins s σ H R I (i σ H R q)⟩
/-- what a for, a comprehension walks: a list, a tuple, a range, a text -/
def wL (K : PySem.W.Frag) (tl : TE) : TI := fun σ H R => tl σ H fun x H1 => match x with
  | .ref a => (∃ xs, SqL K H1 a xs) ∧ R (Itl K a) H1
  | _ => False
def wT (K : PySem.W.Frag) (tl : TE) : TI := fun σ H R => tl σ H fun x H1 => match x with
  | .ref a => (∃ xs, SqT K H1 a xs) ∧ R (Itt K a) H1
  | _ => False
def wR1 (ta : TA) : TI := fun σ H R => ta σ H fun vs H1 => match vs with
  | [.int j] => (-(2 ^ 62) ≤ j ∧ j < 2 ^ 62) ∧ R (Itr 0 j.toNat) H1
  | _ => False
def wR2 (ta : TA) : TI := fun σ H R => ta σ H fun vs H1 => match vs with
  | [.int i, .int j] => (-(2 ^ 62) ≤ i ∧ i < 2 ^ 62 ∧ -(2 ^ 62) ≤ j ∧ j < 2 ^ 62) ∧ R (Itr i (j - i).toNat) H1
  | _ => False
def wS (te : TE) : TI := fun σ H R => te σ H fun x H1 => match x with
  | .str z => z.length ≤ sizeLine ∧ R (Its z) H1
  | _ => False
def mcI (wi : TI) : TI := fun σ H K => ∃ R : It → Hp → Prop, (∀ J H1, R J H1 → K J H1) ∧ wi σ H R
theorem PIm {wi : TI} (h : PI X tg iter wi) : PI X tg iter (mcI wi) := ⟨fun pins s σ H K I ⟨R, i, q⟩ => thn (h.run pins s σ H R I q) fun v s1 h1 => thn h1 fun itv s2 h2 => by
  obtain ⟨it, fp, tn, J, H2, e, I2, T, st2, f2, r⟩ := h2
  exact ⟨it, fp, tn, J, H2, e, I2, T, st2, f2, i _ _ r⟩⟩
theorem w_list (h : PE X iter tl) : PI X tg iter (wL X.K tl) := PIi (pi_list (PEm h)) fun σ H R q => ⟨_, fun x H1 r => by
  split at r
  · exact ⟨_, rfl, r⟩
  · exact r.elim, q⟩
theorem w_tup (h : PE X iter tl) : PI X tg iter (wT X.K tl) := PIi (pi_tup (PEm h)) fun σ H R q => ⟨_, fun x H1 r => by
  split at r
  · exact ⟨_, rfl, r⟩
  · exact r.elim, q⟩
theorem w_str (h : PE X iter te) : PI X tg iter (wS te) := PIi (pi_str (PEm h)) fun σ H R q => ⟨_, fun x H1 r => by
  split at r
  · exact ⟨_, rfl, r.2⟩
  · exact r.elim, q⟩
theorem w_range1 {a : Expr} {p : Pos} (hg : Gl X "range") (hm : X.mg "range" = none) (ha : PA X [a] ta) (hs : starEach [a] X.env = [(false, eval a X.env)] := by rfl) : PI X tg (.Call (.Name "range" p) [a] [] pos) (wR1 ta) :=
  PIi (pi_range1 hg hm (PAm ha) hs) fun σ H R q => ⟨_, fun vs H1 r => by
    split at r
    · exact ⟨_, rfl, r.1.1, r.1.2, r.2⟩
    · exact r.elim, q⟩
theorem w_range2 {a b : Expr} {p : Pos} (hg : Gl X "range") (hm : X.mg "range" = none) (ha : PA X [a, b] ta) (hs : starEach [a, b] X.env = [(false, eval a X.env), (false, eval b X.env)] := by rfl) (hs2 : starEach [b] X.env = [(false, eval b X.env)] := by rfl) :
    PI X tg (.Call (.Name "range" p) [a, b] [] pos) (wR2 ta) :=
  PIi (pi_range2 hg hm (PAm ha) hs hs2) fun σ H R q => ⟨_, fun vs H1 r => by
    split at r
    · exact ⟨_, _, rfl, r.1, r.2⟩
    · exact r.elim, q⟩
/-- a list made by a comprehension of one clause, the target a name -/
def gLc (wi : TI) (j : Nat) (tt : TT) (te : TE) (vs : List Nat) : TE := fun σ H Q => wi σ H fun J H1 => Comp J j (mcT tt) (mcE te) vs σ Q H1
theorem g_lc {wi : TI} (hc : X.calm = true) (hN : X.N.Nodup) (hi : PI X tg iter wi) (ok : BlkOk X.N X.env.scope scope own)
    (hg : ∀ (s : Shared) (H : Hp) (C : Addr) (cl : List (Str × Addr)) (fp : List Addr), PG (X.blk s H scope (compEnvC scope cl C X.env) fp) tg (gName j))
    (ht : ∀ (s : Shared) (H : Hp) (C : Addr) (cl : List (Str × Addr)) (fp : List Addr), PTs (X.blk s H scope (compEnvC scope cl C X.env) fp) ifs tt)
    (he : ∀ (s : Shared) (H : Hp) (C : Addr) (cl : List (Str × Addr)) (fp : List Addr), PE (X.blk s H scope (compEnvC scope cl C X.env) fp) elt te) (hs : ∀ x, foldedSetIterable iter X.env x = pure x := by intro _; rfl) :
    PE X (.ListComp elt [⟨tg, iter, ifs, 0⟩] scope pos) (gLc wi j tt te (own.map (·.2))) :=
  PEi (pe_lc hc hN (PIm hi) ok hg (fun s H C cl fp => PTsm (ht s H C cl fp)) (fun s H C cl fp => PEm (he s H C cl fp)) hs) fun σ H Q q => ⟨_, fun J H1 r => by
    unfold Comp at r
    exact r, q⟩
theorem g_setLc {wi : TI} {i : Nat} {y : Str} {py spos : Pos} (hc : X.calm = true) (hN : X.N.Nodup) (hy : X.N[i]? = some y) (hyl : X.env.scope.names.lookup y = some .local)
    (hsw : swapsWith (.ListComp elt [⟨tg, iter, ifs, 0⟩] scope pos) (some (.Name y py)) spos.line X.env = pure true) (hi : PI X tg iter wi) (ok : BlkOk X.N X.env.scope scope own)
    (hg : ∀ (s : Shared) (H : Hp) (C : Addr) (cl : List (Str × Addr)) (fp : List Addr), PG (X.blk s H scope (compEnvC scope cl C X.env) fp) tg (gName j))
    (ht : ∀ (s : Shared) (H : Hp) (C : Addr) (cl : List (Str × Addr)) (fp : List Addr), PTs (X.blk s H scope (compEnvC scope cl C X.env) fp) ifs tt)
    (he : ∀ (s : Shared) (H : Hp) (C : Addr) (cl : List (Str × Addr)) (fp : List Addr), PE (X.blk s H scope (compEnvC scope cl C X.env) fp) elt te) (hs : ∀ x, foldedSetIterable iter X.env x = pure x := by intro _; rfl) :
    PS X (.Assign [.Name y py] (.ListComp elt [⟨tg, iter, ifs, 0⟩] scope pos) spos) (tAsg (gLc wi j tt te (own.map (·.2))) (gName i)) :=
  PSi (ps_setLc hc hN hy hyl hsw (PIm hi) ok hg (fun s H C cl fp => PTsm (ht s H C cl fp)) (fun s H C cl fp => PEm (he s H C cl fp)) hs) fun D σ H q => ⟨_, fun J H1 r => by
    unfold Comp at r
    exact r, q⟩
end
/-! ### loops -/
@[irreducible] def ForW (J : It) (g : TG) (tb : TS) (D : Ends) (σ : L2.St) (H : Hp) : Prop := ∃ W : Nat → Nat → L2.St → Hp → Prop, (∃ m, W 0 m σ H) ∧ ∀ i m σ H, W i m σ H →
  (J.stop i H ∧ D.nx σ H) ∨ (J.go i H ∧ ∃ N : L2.St → Hp → Prop, (∀ σ' H', N σ' H' → ∃ m', m' < m ∧ W (i + 1) m' σ' H') ∧ ∀ x H', J.yld i H x H' → g x σ H' fun σ2 H2 => tb { D with nx := N, ct := N, bk := D.nx } σ2 H2)
def gFor (wi : TI) (g : TG) (tb : TS) : TS := fun D σ H => wi σ H fun J H1 => ForW J g tb D σ H1
section
variable {X : Cx} {tg iter : Expr} {wi : TI} {g : TG} {tb : TS} {body : List Stmt} {pos : Pos}
theorem g_for (hp : PassesOwn (model X.prog X.w) X.A X.env X.xe) (hc : X.calm = true) (hi : PI X tg iter wi) (hg : PG X tg g) (hb : PSs X body tb)
    (hs : ∀ x, foldedSetIterable iter X.env x = pure x := by intro _; rfl) : PS X (.For tg iter body [] pos) (gFor wi g tb) :=
  PSi (ps_for hp hc (PIm hi) hg hb hs) fun D σ H q => ⟨_, fun J H1 r => by
    unfold ForW at r
    exact r, q⟩
end
section
variable {K : PySem.W.Frag} {g : TG} {tb : TS} {D : Ends} {σ : L2.St} {H : Hp}
theorem forw_list {a : Addr} {xs : List V} (Pv : Nat → L2.St → Hp → Prop) (h0 : Pv 0 σ H) (hl : ∀ i σ H, i ≤ xs.length → Pv i σ H → SqL K H a xs)
    (hs : ∀ i x σ H, xs[i]? = some x → Pv i σ H → g x σ H fun σ2 H2 => tb { D with nx := Pv (i + 1), ct := Pv (i + 1), bk := D.nx } σ2 H2) (hd : ∀ σ H, Pv xs.length σ H → D.nx σ H) : (∃ ys, SqL K H a ys) ∧ ForW (Itl K a) g tb D σ H := by
  refine ⟨⟨xs, hl 0 _ _ (Nat.zero_le _) h0⟩, ?_⟩
  unfold ForW
  exact for_list Pv h0 hl hs hd
theorem forw_range {lo : Int} {n : Nat} (Pv : Nat → L2.St → Hp → Prop) (h0 : Pv 0 σ H)
    (hs : ∀ i σ H, i < n → Pv i σ H → g (.int (lo + i)) σ H fun σ2 H2 => tb { D with nx := Pv (i + 1), ct := Pv (i + 1), bk := D.nx } σ2 H2) (hd : ∀ σ H, Pv n σ H → D.nx σ H) : ForW (Itr lo n) g tb D σ H := by
  unfold ForW
  exact for_range Pv h0 hs hd
end
end GG
namespace GG
open PySem PySem.Spec L2
section
variable {X : Cx}
/-! ### products, powers -/
def rMulG : R2 := fun x y H Q => match x, y with
  | .int i, .int j => CMul i j ∧ Q (.int (i * j)) H
  | .str z, .int n => MulOk z n ∧ Q (.str (Txt.mul z n)) H
  | .ref l, .int k => ∃ xs, H l = some (.lst xs) ∧ -(2 ^ 63) ≤ k ∧ k < 2 ^ 63 ∧ xs.length * k.toNat ≤ sizeLine ∧ ∀ p H', H p = none → Same H H' → H' p = some (.lst (List.replicate k.toNat xs).flatten) → Q (.ref p) H'
  | _, _ => False
theorem op_mulG : OpR X (binaryOp .Mult) rMulG := fun pins s σ H x y u v Q I rx ry h => by
  unfold rMulG at h
  split at h
  · exact op_mul pins s σ H _ _ u v Q I rx ry ⟨_, _, rfl, rfl, h.1, h.2⟩
  · obtain ⟨t, rfl⟩ := rx
    obtain ⟨t', rfl⟩ := ry
    exact SB.mul h.1 fun t k => ⟨.str _, H, I.tok k, ⟨_, rfl⟩, h.2⟩
  · obtain ⟨xs, h1, h2, h3, h4, h5⟩ := h
    exact op_rep pins s σ H _ _ u v Q I rx ry ⟨_, _, xs, rfl, rfl, h1, h2, h3, h4, fun p hp => h5 p _ hp (Sm.new hp) upd_same⟩
  · exact h.elim
def rPowG : R2 := fun x y H Q => match x, y with
  | .int i, .int j => (0 ≤ j ∧ (Builtin.Int.intBits i : Int) * j ≤ 2 ^ 27) ∧ Q (.int (i ^ j.toNat)) H
  | _, _ => False
theorem op_powW : OpR X (binaryOp .Pow) rPowG := fun pins s σ H x y u v Q I rx ry h => by
  unfold rPowG at h
  split at h
  · obtain ⟨t, rfl⟩ := rx
    obtain ⟨t', rfl⟩ := ry
    exact PyProof.Rows.pow_int h.1.1 h.1.2 ⟨.int _, H, I.tok _, ⟨_, rfl⟩, h.2⟩
  · exact h.elim
/-! ### in, is -/
def rInG (K : PySem.W.Frag) (neg : Bool) : R2 := fun x y H Q => match x, y with
  | .str a, .str z => ∃ c, a = ⟨#[c]⟩ ∧ Q (.bl (if neg then !decide (c ∈ z.cps.toList) else decide (c ∈ z.cps.toList))) H
  | x, .ref p => ∃ xs, (SqL K H p xs ∨ SqT K H p xs) ∧ flatV x = true ∧ xs.all flatV = true ∧ Q (.bl (if neg then !inV x xs else inV x xs)) H
  | _, _ => False
theorem op_inG : OpR X (compareOp .In) (rInG X.K false) := fun pins s σ H x y u v Q I rx ry h => by
  unfold rInG at h
  split at h
  · obtain ⟨c, rfl, q⟩ := h
    exact op_in_sign pins s σ H _ _ u v Q I rx ry ⟨c, _, rfl, rfl, q⟩
  · obtain ⟨xs, h1, h2, h3, q⟩ := h
    exact op_in_seq pins s σ H _ _ u v Q I rx ry ⟨_, xs, rfl, h1, h2, h3, q⟩
  · exact h.elim
theorem op_ninG : OpR X (compareOp .NotIn) (rInG X.K true) := fun pins s σ H x y u v Q I rx ry h => by
  unfold rInG at h
  split at h
  · obtain ⟨c, rfl, q⟩ := h
    exact op_notIn_sign pins s σ H _ _ u v Q I rx ry ⟨c, _, rfl, rfl, q⟩
  · obtain ⟨xs, h1, h2, h3, q⟩ := h
    exact op_notIn_seq pins s σ H _ _ u v Q I rx ry ⟨_, xs, rfl, h1, h2, h3, q⟩
  · exact h.elim
def rIsN (f : Bool → Bool) : R2 := fun x y H Q => match x, y with
  | .non, .non => Q (.bl (f true)) H
  | .int _, .non => Q (.bl (f false)) H
  | .ref _, .non => Q (.bl (f false)) H
  | .str _, .non => Q (.bl (f false)) H
  | .bl _, .non => Q (.bl (f false)) H
  | _, _ => False
theorem op_isG : OpR X (compareOp .Is) (rIsN fun b => b) := fun pins s σ H x y u v Q I rx ry h => by
  unfold rIsN at h
  split at h <;> first
    | exact op_isN pins s σ H _ _ u v Q I rx ry ⟨rfl, h⟩
    | exact h.elim
theorem op_isnG : OpR X (compareOp .IsNot) (rIsN fun b => !b) := fun pins s σ H x y u v Q I rx ry h => by
  unfold rIsN at h
  split at h <;> first
    | exact op_notN pins s σ H _ _ u v Q I rx ry ⟨rfl, h⟩
    | exact h.elim
/-! ### a call at some place below the body -/
theorem call_at {A : Around} {k : Nat} {f : Addr} {fd : FuncData} {ps : List Str} {sp : Sp} {pins : List (Addr × Obj)} {σ : L2.St} {H : Hp} {s : Shared} {us : List Value} {vs : List V} {Q : VK} {E : Value → Shared → Prop} (sb : Sub X k A) (F : FnOk X.prog X.w X.K X.mg X.base CX0 k f fd ps sp) (b : Binds X.K fd ps [])
    (I : L2.Inv X pins σ H s) (r : Vals vs us) (h : sp vs H Q E0) : wpAny (model X.prog X.w) A (call (.ref f) us) (EP X pins σ Q) E s := by
  have e0 : Env0 X.prog X.w X.K X.mg X.base A X.stack s H := by
    have e := I.env0
    exact ⟨by rw [sb.fr]; exact e.frames, e.mod, e.bs, e.bsz, e.funs, e.frf, e.hok, e.bare⟩
  have hl := F.len _ _ _ _ h
  refine wpAny_call (codeAny_mono (F.run A X.stack s H ⟨us, []⟩ us vs Q E0 sb.room e0 (by
    have z := b s us I.kIn (by rw [List.append_nil, ← r.length]; exact hl)
    rw [List.append_nil] at z
    exact z) r h) fun r s' hq => ?_)
  cases r with
  | error e => exact False.elim hq
  | ok fl =>
    cases fl with
    | ret u => exact I.after hq
    | next => exact False.elim hq
    | brk => exact False.elim hq
    | cont => exact False.elim hq
/-! ### len of an own instance -/
/-- the class at C has the special method m at f, which keeps sp -/
structure SpN (P : Program) (w : World) (K : PySem.W.Frag) (mg : Str → Option Value) (base : Heap) (k : Nat) (C : Addr) (m : Str) (sp : Sp) : Prop where
  ex : ∃ (f : Addr) (fd : FuncData) (ps : List Str), PySem.W.findIn K (.ref C) m = some (some (.ref f)) ∧ PySem.W.isFn K (.ref f) = true ∧ FnOk P w K mg base CX0 k f fd ps sp ∧ Binds K fd ps []
/-- len(x), x an instance of the class at C -/
def rLenO (C : Addr) (sp : Sp) : List V → Hp → VK → Prop := fun vs H Q => match vs with
  | [.ref a] => ∃ dx fs, H a = some (.ins C dx fs) ∧ sp [.ref a] H (fun v H' => ∃ n : Nat, v = .int n ∧ n < 2 ^ 62 ∧ Q (.int n) H') E0
  | _ => False
theorem c_lenO {k : Nat} {C : Addr} {sp : Sp} (c : SpN X.prog X.w X.K X.mg X.base k C "__len__" sp) (hr : Room (k + 1) X.A) : CallR X (.builtin "len") (rLenO C sp) := fun pins s σ H xs us Q I r h => by
  unfold rLenO at h
  split at h
  · obtain ⟨dx, fs, ha, h⟩ := h
    obtain ⟨f, fd, ps, h1, h2, F, b⟩ := c.ex
    cases r with
    | cons r0 rs =>
      cases rs
      cases r0
      obtain ⟨mA, O, _⟩ := ins_get I.hok ha
      obtain ⟨od, J, _⟩ := O.look
      obtain ⟨m, hF⟩ := I.fr
      refine PySem.W.len_K hF I.ok.mod.kin J h1 h2 (wpAny_mono (call_at ⟨hr.in1, rfl⟩ F b I (vs := [.ref _]) (.cons rfl .nil) h) (fun u s' hu => ?_) fun _ _ z => z)
      obtain ⟨v, H', I', rv, n, rfl, hn, q⟩ := hu
      obtain ⟨t, rfl⟩ := rv
      exact ⟨⟨by omega, by omega⟩, .int n, H', I'.tok _, ⟨_, rfl⟩, q⟩
  · exact h.elim
end
end GG
namespace GG
open PySem PySem.Spec L2
open PyProof.Rows (envOfC)
/-! ### what the top has left, one def at a time -/
def FnF (K : PySem.W.Frag) (mg : Str → Option Value) (x : Str) (st : Stmt) (ps : List Str) : Prop :=
  ∃ (f : Addr) (fd : FuncData), FunD K x x (defArgs st) (defBody st) (defScope st) [] [] f fd ∧ mg x = some (.ref f) ∧ Binds K fd ps []
def MtF (K : PySem.W.Frag) (C : Addr) (m q : Str) (st : Stmt) (ps : List Str) : Prop :=
  ∃ (f : Addr) (fd : FuncData), FunD K m q (defArgs st) (defBody st) (defScope st) [] [] f fd ∧ Cls K C ∧ Meth K C m f ∧ Binds K fd ps []
def PrF (K : PySem.W.Frag) (C : Addr) (m q : Str) (st : Stmt) (ps : List Str) : Prop :=
  ∃ (p g : Addr) (fd : FuncData), FunD K m q (defArgs st) (defBody st) (defScope st) [] [] g fd ∧ Cls K C ∧ PropOf K C m p g ∧ Binds K fd ps []
/-- what isinstance asks of an instance's class -/
structure InsF (K : PySem.W.Frag) (C : Addr) : Prop where
  cl : Cls K C
  ha : PySem.W.findIn K (.ref C) "__class__" = some (some (.builtin "object.__class__"))
  hn : PySem.W.specialIn K (.builtin "object.__class__") "__get__" = some (some (.builtin "getset_descriptor.__get__"))
  htk : PySem.W.takesIn K (.builtin "object.__class__") = some true
  hm : PySem.W.mroIn K C (.type "object") = some true
theorem is_own {K : PySem.W.Frag} {H : Hp} {a C D dx : Addr} {fs : List (Str × V)} {b : Bool} (e : H a = some (.ins C dx fs)) (i : InsF K C) (k : PySem.W.kitOne K (.ref C) (.ref D) = some b) : IsT K H (.ref a) (.ref D) b :=
  ⟨_, _, .own D, .base (.ins e i.cl i.ha i.hn i.htk i.hm), k⟩
section
variable {P : Program} {w : World} {K : PySem.W.Frag} {mg : Str → Option Value} {base : Heap} {k : Nat} {sp : Sp} {N ps : List Str} {st : Stmt}
/-- a def by its body -/
theorem fn_by {x : Str} (F : FnF K mg x st ps) (S : FnScope N ps (defScope st)) (len : ∀ vs H Q E, sp vs H Q E → vs.length = ps.length)
    (hbody : ∀ (f : Addr) (cdv : Value) (A : Around) (outer : List Env) (s : Shared) (H : Hp) (vs : List V) (Q : VK) (E : XK), Room k (A.deeper (envOfC x (defScope st) s.heap.objs.size f cdv)) → sp vs H Q E →
      ∃ t, PSs (cxOf CX0 P w K mg base N x (defScope st) f cdv A outer s H E).nox (defBody st) t ∧ t { nx := fun _ H' => Q .non H', rt := Q } (start N vs) H) : FnN P w K mg base (k + 1) x [] sp := by
  obtain ⟨f, fd, F, hm, b⟩ := F
  exact ⟨f, fd, ps, [], F.ok S len fun cdv A outer s H vs Q E hr h => (hbody f cdv A outer s H vs Q E hr h).imp fun t q => ⟨q.1.nox, q.2⟩, hm, F.kp, b, .nil⟩
theorem mt_by {C : Addr} {m q : Str} (F : MtF K C m q st ps) (S : FnScope N ps (defScope st)) (len : ∀ vs H Q E, sp vs H Q E → vs.length = ps.length)
    (hbody : ∀ (f : Addr) (cdv : Value) (A : Around) (outer : List Env) (s : Shared) (H : Hp) (vs : List V) (Q : VK) (E : XK), Room k (A.deeper (envOfC q (defScope st) s.heap.objs.size f cdv)) → sp vs H Q E →
      ∃ t, PSs (cxOf CX0 P w K mg base N q (defScope st) f cdv A outer s H E).nox (defBody st) t ∧ t { nx := fun _ H' => Q .non H', rt := Q } (start N vs) H) : MtN P w K mg base (k + 1) C m [] sp := by
  obtain ⟨f, fd, F, c, hm, b⟩ := F
  exact ⟨f, fd, ps, [], c, hm, F.ok S len fun cdv A outer s H vs Q E hr h => (hbody f cdv A outer s H vs Q E hr h).imp fun t q => ⟨q.1.nox, q.2⟩, b, .nil⟩
theorem pr_by {C : Addr} {m q : Str} (F : PrF K C m q st ps) (S : FnScope N ps (defScope st)) (len : ∀ vs H Q E, sp vs H Q E → vs.length = ps.length)
    (hbody : ∀ (f : Addr) (cdv : Value) (A : Around) (outer : List Env) (s : Shared) (H : Hp) (vs : List V) (Q : VK) (E : XK), Room k (A.deeper (envOfC q (defScope st) s.heap.objs.size f cdv)) → sp vs H Q E →
      ∃ t, PSs (cxOf CX0 P w K mg base N q (defScope st) f cdv A outer s H E).nox (defBody st) t ∧ t { nx := fun _ H' => Q .non H', rt := Q } (start N vs) H) : PrN P w K mg base (k + 1) C m sp := by
  obtain ⟨p, f, fd, F, c, hm, b⟩ := F
  exact ⟨p, f, fd, ps, c, hm, F.ok S len fun cdv A outer s H vs Q E hr h => (hbody f cdv A outer s H vs Q E hr h).imp fun t q => ⟨q.1.nox, q.2⟩, b⟩
/-- a special method (__len__, __eq__ ..) -/
theorem MtN.sp' {C : Addr} {m : Str} (c : MtN P w K mg base k C m [] sp) : SpN P w K mg base k C m sp := by
  obtain ⟨f, fd, ps, ds, hc, hm, F, b, d⟩ := c.ex
  cases d
  exact ⟨f, fd, ps, hm.at_, hm.fn, F, b⟩
theorem mk_by {x q : Str} {C : Addr} {sp0 : Sp} (F : MtF K C "__init__" q st ps) (M : PySem.W.makesIn K C = true) (kp : PySem.W.keepIn K (.ref C) = true) (hm : mg x = some (.ref C)) (S : FnScope N ps (defScope st)) (len : ∀ vs H Q E, sp0 vs H Q E → vs.length = ps.length)
    (i : ∀ vs H Q, sp vs H Q E0 → ∀ y dy, H y = none → H dy = none → dy ≠ y → sp0 (.ref y :: vs) (upd (upd H dy (.own y)) y (.ins C dy [])) (fun v H2 => v = .non ∧ Q (.ref y) H2) E0)
    (hbody : ∀ (f : Addr) (cdv : Value) (A : Around) (outer : List Env) (s : Shared) (H : Hp) (vs : List V) (Q : VK) (E : XK), Room k (A.deeper (envOfC q (defScope st) s.heap.objs.size f cdv)) → sp0 vs H Q E →
      ∃ t, PSs (cxOf CX0 P w K mg base N q (defScope st) f cdv A outer s H E).nox (defBody st) t ∧ t { nx := fun _ H' => Q .non H', rt := Q } (start N vs) H) : MkN P w K mg base (k + 1) x sp := by
  obtain ⟨f, fd, F, c, hme, b⟩ := F
  exact ⟨C, f, fd, ps, [], [], sp0, ⟨M, hme.at_, hme.fn, kp⟩, F.ok S len fun cdv A outer s H vs Q E hr h => (hbody f cdv A outer s H vs Q E hr h).imp fun t q => ⟨q.1.nox, q.2⟩, hm, b, .nil, fun vs H Q h y dy h1 h2 h3 => by
    rw [List.append_nil]
    exact i vs H Q h y dy h1 h2 h3⟩
end
end GG
/-! len(set(texts)) -/
namespace GG
open PySem PySem.Spec PyProof.Rows
/-- the different ones, first come first -/
def dd {κ : Type} [DecidableEq κ] (l : List κ) : List κ := l.foldl (fun a x => if x ∈ a then a else a ++ [x]) []
theorem dd_snoc {κ : Type} [DecidableEq κ] (l : List κ) (x : κ) : dd (l ++ [x]) = if x ∈ dd l then dd l else dd l ++ [x] := by
  unfold dd
  rw [List.foldl_append]
  rfl
theorem dd_le {κ : Type} [DecidableEq κ] : ∀ (n : Nat) (l : List κ), l.length = n → (dd l).length ≤ n
  | 0, l, h => by
    have e : l = [] := List.length_eq_zero_iff.mp h
    subst e; exact Nat.le_refl _
  | n + 1, l, h => by
    obtain ⟨m, x, e⟩ : ∃ m x, l = m ++ [x] := ⟨l.dropLast, l.getLast (by intro z; rw [z] at h; simp at h), (List.dropLast_concat_getLast _).symm⟩
    subst e
    rw [List.length_append] at h
    have ih := dd_le n m (by simp at h; omega)
    rw [dd_snoc]
    split
    · omega
    · rw [List.length_append]; simp; omega
theorem dd_nodup_eq {κ : Type} [DecidableEq κ] : ∀ (n : Nat) (l : List κ), l.length = n → l.Nodup → dd l = l
  | 0, l, h, _ => by
    have e : l = [] := List.length_eq_zero_iff.mp h
    subst e; rfl
  | n + 1, l, h, nd => by
    obtain ⟨m, y, e⟩ : ∃ m y, l = m ++ [y] := ⟨l.dropLast, l.getLast (by intro z; rw [z] at h; simp at h), (List.dropLast_concat_getLast _).symm⟩
    subst e
    rw [List.length_append] at h
    have q := List.nodup_append.mp nd
    have ih := dd_nodup_eq n m (by simp at h; omega) q.1
    rw [dd_snoc, ih, if_neg]
    intro hm
    exact q.2.2 y hm y (List.mem_singleton.mpr rfl) rfl
section
variable {prog : Program} {w : World} {A : Around} {R : Result → Shared → Prop} {I : Addr} {fp wr : List Addr} {G : Array GenState → Array GenState → Prop} {P : Nat → Value → Prop} {St : Nat → Shared → Prop}
  {κ : Type} [DecidableEq κ] {knd : KeyKind prog w κ}
/-- set.update's loop over any walk, the keys of any kind -/
theorem upd_loop {keys : List κ} (W : WalksS prog w A.in1 I fp wr G keys.length P St) (S : Addr) (hSf : S ∉ fp) (hval : ∀ i v, P i v → ∃ k, keys[i]? = some k ∧ knd.is k v = true ∧ v.scannable = true) (hb : keys.length + 1 < scanBound) :
    ∀ (k i : Nat) (s : Shared), keys.length - i = k → i ≤ keys.length → St i s → s.heap.SetOf knd S (fun z => decide (z ∈ dd (keys.take i))) (dd (keys.take i)).length →
      (∀ s', Moved (S :: wr) G s s' → s'.heap.SetOf knd S (fun z => decide (z ∈ dd keys)) (dd keys).length → R (.ok (.ret .none)) s') →
      codeAny (model prog w) A (.builtin "set.update.loop" ⟨[.ref S, .ref I], []⟩) R s := by
  have nwr : S ∉ wr := fun h => hSf (W.sub _ h)
  have grow : ∀ b ∈ wr, b ∈ S :: wr := fun b hb => List.mem_cons_of_mem _ hb
  have stays : ∀ {s s' : Shared} {T : κ → Bool} {n : Nat}, Moved wr G s s' → s.heap.SetOf knd S T n → s'.heap.SetOf knd S T n := fun hm ⟨o, es, ep, t, ho, r⟩ => ⟨o, es, ep, t, hm.heap S _ nwr ho, r⟩
  intro k
  induction k with
  | zero =>
    intro i s hk hi hst hS hR
    have e : i = keys.length := by omega
    subst e
    rw [List.take_length] at hS
    refine codeAny_builtin PyProof.Rows.F.entry_set_update_loop ?_
    rw [Around.under_plainId PyProof.Rows.F.plain_set_update_loop _]
    show wpAny _ A.in1 (pyNext (.ref I) >>= _) _ _ s
    refine wpAny_bind (W.done s _ _ hst fun s' hm => ?_)
    exact wpAny_pure (hR s' (hm.mono grow) (stays hm hS))
  | succ k ih =>
    intro i s hk hi hst hS hR
    have hlt : i < keys.length := by omega
    refine codeAny_builtin PyProof.Rows.F.entry_set_update_loop ?_
    rw [Around.under_plainId PyProof.Rows.F.plain_set_update_loop _]
    show wpAny _ A.in1 (pyNext (.ref I) >>= _) _ _ s
    refine wpAny_bind (W.item i s _ _ hlt hst fun v s' hP hst' hm => ?_)
    obtain ⟨key, hkey, his, hsc⟩ := hval i v hP
    have hS' := stays hm hS
    have tk : keys.take (i + 1) = keys.take i ++ [key] := by
      rw [List.take_add_one, hkey]
      rfl
    have hlen : (dd (keys.take i)).length + 1 < scanBound := by
      have := dd_le _ (keys.take i) rfl
      rw [List.length_take] at this
      omega
    show wpAny _ A.in1 (holding [v] (setAdd S v) >>= _) _ _ s'
    refine wpAny_bind (wpAny_holding ?_)
    unfold setAdd
    refine wpAny_holding ?_
    refine wpAny_bind (knd.pyHash (k := key) his ?_)
    refine wpAny_setAddHashed_of (knd := knd) (s := { s' with toks := s'.toks + 1 }) his hsc hS' hlen fun h' hsb hS2 => ?_
    have hnext : h'.SetOf knd S (fun z => decide (z ∈ dd (keys.take (i + 1)))) (dd (keys.take (i + 1))).length := by
      rw [tk, dd_snoc]
      by_cases hin : key ∈ dd (keys.take i)
      · rw [if_pos hin]
        refine SetOf_congr hS2 (fun z => ?_) (by simp [hin])
        by_cases hz : z = key
        · subst hz; simp [hin]
        · simp [hz]
      · rw [if_neg hin]
        refine SetOf_congr hS2 (fun z => ?_) (by simp [hin])
        simp [List.mem_append, Bool.decide_or]
    refine wpAny_pure ⟨plainId_quiet PyProof.Rows.F.plain_set_update_loop _, ih (i + 1) _ (by omega) hlt (W.frame _ s' _ _ hst' (Nat.le_succ _) fun b hb o e => ?_) hnext fun s2 hm2 hS3 => ?_⟩
    · rw [hsb.2 b (fun z : b = S => hSf (by rw [← z]; exact hb))]; exact e
    · refine hR s2 (Moved.trans W.gtrans ((hm.mono grow).then_heap (Nat.le_succ _) fun b o hb e => ?_) hm2) hS3
      rw [hsb.2 b (fun z : b = S => hb (by rw [z]; exact List.mem_cons_self))]; exact e
/-- set(l), l a list whose items are keys -/
theorem set_list_keys {keys : List κ} {l : Addr} {items : Array Value} {E : Value → Shared → Prop} {s : Shared} {Q : Value → Shared → Prop} (hh : A.handled = none) (hl : s.heap.IsList l items) (hsz : items.size = keys.length)
    (hi : ∀ (i : Nat) (v : Value), items[i]? = some v → ∃ k, keys[i]? = some k ∧ knd.is k v = true ∧ v.scannable = true) (hb : keys.length + 1 < scanBound)
    (h : ∀ (h' : Heap) (tk : Nat), h'.SetOf knd s.heap.objs.size (fun z => decide (z ∈ dd keys)) (dd keys).length → (∀ b o, b < s.heap.objs.size → s.heap.get? b = some o → h'.get? b = some o) → Q (.ref s.heap.objs.size) { s with heap := h', toks := tk }) :
    wpAny (model prog w) A (call (.type "set") [.ref l]) Q E s := by
  obtain ⟨c, tl, hmro⟩ := PySem.F.called_set.mro
  have hmade := PySem.F.called_set.made
  have hsub := PySem.F.called_set.sub
  have h1 := PySem.F.called_set.notType
  have h2 := PySem.F.called_set.canCreate
  have hct := PySem.F.typeCall_set_1 (.ref l)
  refine wpAny_call (codeAny_of_tree ?_)
  show wpAny _ _ (callAny (.type "set") _) _ _ _
  refine wpAny_pure ⟨Code.quiet_builtin _ (by decide +kernel), codeAny_builtin PySem.F.entry_type_call ?_⟩
  rw [Around.under_plain (weight_type_call_type "set" [.ref l] []) rfl]
  repeat (any_goals (first | assumption | wp_step))
  let newSet : Bool → Obj := fun led => { cls := .type "set", dict := none, data := .set #[] 0 (.fresh 0 0 led) }
  refine codeAny_mono (code_set_new_1 (.ref l) (E := E) (Q₁ := fun obj s1 => ∃ led : Bool, obj = .ref s.heap.objs.size ∧ s1 = { s with heap := s.heap.push (newSet led) }) fun led => ⟨led, rfl, rfl⟩) fun r s1 hr => ?_
  match r, hr with
  | .error e, hr => exact hr
  | .ok (.ret obj), hr =>
    obtain ⟨led, rfl, rfl⟩ := hr
    have hS : (s.heap.push (newSet led)).get? s.heap.objs.size = some (newSet led) := Heap.get?_push_size _ rfl
    have hT : Shared.TypeIs { s with heap := s.heap.push (newSet led) } (.ref s.heap.objs.size) "set" := ⟨_, hS, rfl⟩
    have hli := PySem.F.called_set.init.lookup
    have hbi := PySem.F.called_set.init.bind (.ref s.heap.objs.size)
    repeat (any_goals (first | assumption | wp_step))
    refine codeAny_mono (codeAny_call_builtin (R := wants (fun r s2 => r = .none ∧ ∃ h' tk, s2 = { s with heap := h', toks := tk } ∧
        h'.SetOf knd s.heap.objs.size (fun z => decide (z ∈ dd keys)) (dd keys).length ∧ ∀ b o, b < s.heap.objs.size → s.heap.get? b = some o → h'.get? b = some o) E) PySem.F.called_set.init.plain PySem.F.entry_set_init (check_set_init_1 hT ?_)) fun r2 s2 hr2 => ?_
    · obtain ⟨⟨ocls, odict, odata, oslots⟩, hol, hcl, nl, hdl⟩ := hl
      simp only at hcl hdl
      subst hcl; subst hdl
      have hol' : (s.heap.push (newSet led)).get? l = some { cls := .type "list", dict := odict, data := .seq items nl, slots := oslots } := Heap.get?_push_of_some _ hol
      have hsls := PySem.F.sub_list_set
      have hslf := PySem.F.sub_list_frozenset
      have hne : (Value.type "list" == Value.type "dict") = false := by decide
      have hl1 : (s.heap.push (newSet led)).IsList l items := ⟨_, hol', rfl, nl, rfl⟩
      unfold Builtin.«set.__init__» noKeywords Builtin.Frozenset.updateFrom
      generalize hPI : pyIter = PI
      wp_walk
      subst hPI
      refine wpAny_pyIter_list hl1 ?_
      refine wpAny_bind (wpAny_runValue ?_)
      have hlS : l < s.heap.objs.size := Heap.lt_size hol
      have hh3 : A.in1.in1.in1.handled = none := by simp [hh]
      have hneI : l ≠ (s.heap.push (newSet led)).objs.size := by rw [Heap.size_push]; exact Nat.ne_of_lt (Nat.lt_succ_of_lt hlS)
      have hSf : s.heap.objs.size ∉ [(s.heap.push (newSet led)).objs.size, l] := by
        rw [Heap.size_push]
        simp only [List.mem_cons, List.not_mem_nil, or_false, not_or]
        exact ⟨Nat.ne_of_lt (Nat.lt_succ_self _), Nat.ne_of_gt hlS⟩
      have W0 := (Walks.list (prog := prog) (w := w) hh3 _ l hneI items).toS
      rw [hsz] at W0
      refine upd_loop (keys := keys) (knd := knd) W0 s.heap.objs.size hSf hi hb (keys.length - 0) 0 _ (by omega) (Nat.zero_le _) ⟨⟨_, Heap.get?_push_size _ rfl, rfl, rfl⟩, (hl1.push _)⟩ ?_ ?_
      · have hget : ((s.heap.push (newSet led)).push { cls := .type "list_iterator", data := .fields #[.ref l, .int 0 0] }).get? s.heap.objs.size = some (newSet led) := Heap.get?_push_of_some _ hS
        exact SetOf_congr ((setObjOf_fresh (knd := knd) led).setOf hget (by unfold scanBound; omega)) (fun _ => rfl) rfl
      · intro s' hm hS'
        obtain ⟨h', g', d', tk', os'⟩ := s'
        have eg : g' = s.gens := hm.gens
        have ed : d' = s.drawn := hm.drawn
        have eo : os' = s.os := hm.os
        subst eg; subst ed; subst eo
        refine wpAny_pure ?_
        refine wpAny_pure ⟨rfl, h', tk', rfl, hS', fun b o hb e => ?_⟩
        refine hm.heap b o ?_ (Heap.get?_push_of_some _ (Heap.get?_push_of_some _ e))
        rw [Heap.size_push]
        simp only [List.mem_cons, List.not_mem_nil, or_false, not_or]
        exact ⟨Nat.ne_of_lt hb, Nat.ne_of_lt (Nat.lt_succ_of_lt hb)⟩
    · match r2, hr2 with
      | .error e, hr2 => exact hr2
      | .ok (.ret r), hr2 =>
        obtain ⟨rfl, h', tk, rfl, hS', hk'⟩ := hr2
        repeat (any_goals (first | assumption | wp_step))
        exact h _ _ hS' hk'
end
section
open L2
variable {X : Cx}
/-- len(set(xs)), xs a list of texts -/
def gLenSet (K : PySem.W.Frag) (ta : TE) : TE := fun σ H Q => ta σ H fun x H1 => match x with
  | .ref l => ∃ xs : List Str, SqL K H1 l (xs.map V.str) ∧ xs.length ≤ 4000 ∧ Q (.int (dd xs).length) H1
  | _ => False
theorem strs_item : ∀ {us : List Value} {xs : List Str}, Vals (xs.map V.str) us → ∀ (i : Nat) (v : Value), us[i]? = some v → ∃ z t, xs[i]? = some z ∧ v = .str z t
  | us, [], r, i, v, h => by cases r; simp at h
  | us, x :: xs, r, i, v, h => by
    cases r with
    | cons r0 rs =>
      obtain ⟨t, e⟩ := r0
      cases i with
      | zero => simp at h; subst h; exact ⟨x, t, rfl, e⟩
      | succ i =>
        obtain ⟨z, t, h1, h2⟩ := strs_item rs i v (by simpa using h)
        exact ⟨z, t, by simpa using h1, h2⟩
theorem g_lenSet {a : Expr} {ta : TE} {p p2 q pos : Pos} (hg : Gl X "len") (hm : X.mg "len" = none) (hg2 : Gl X "set") (hm2 : X.mg "set" = none) (ha : PE X a ta) (hc : X.calm = true)
    (na : starEach [a] X.env = (false, eval a X.env) :: starEach [] X.env := by rfl) : PE X (.Call (.Name "len" p) [.Call (.Name "set" p2) [a] [] q] [] pos) (gLenSet X.K ta) := by
  refine ⟨fun pins s σ H Q I h => ?_⟩
  refine Call_ (ld_blt I hg hm boot_len ?_)
  refine PyProof.Rows.callWith_builtin1 (PyProof.Rows.args_cons ?_ rfl) rfl rfl
  refine Call_ (ld_blt I hg2 hm2 boot_set ?_)
  refine PyProof.Rows.callWith_type1 (PyProof.Rows.args_cons (thn (ha.run pins s σ H _ I h) fun v s1 ⟨x, H1, I1, r1, q1⟩ => PyProof.Rows.args_nil ?_) na) na rfl
  dsimp only at q1
  split at q1
  · obtain ⟨xs, hq, hl, q1⟩ := q1
    cases r1
    obtain ⟨its, r, pl, hz⟩ := I1.list hq
    have hlen : its.length = xs.length := by rw [← r.length, List.length_map]
    refine set_list_keys (keys := xs) (knd := strKind X.prog X.w) (I1.ok.hd hc) pl.isList (by rw [List.size_toArray, hlen]) (fun i v hv => ?_) (by unfold scanBound; omega) fun h' tk hS hk => ?_
    · obtain ⟨z, t, h1, h2⟩ := strs_item r i v (by simpa using hv)
      subst h2
      exact ⟨z, h1, strKind_is _ _ _ _, rfl⟩
    · refine PyProof.Rows.args_nil ?_
      obtain ⟨o, es, ep, t, ho, hex, hd, _, _, _, hf, hn⟩ := hS
      have I2 : L2.Inv X pins σ H1 { s1 with heap := h', toks := tk } := I1.kept fun b o e => hk b o (Heap.lt_size e) e
      have le := dd_le _ xs rfl
      exact call_len_set ho hex hd hf (by rw [hn] <;> omega) ⟨.int (dd xs).length, H1, I2.tok _, ⟨_, by rw [hn]⟩, q1⟩
  · exact q1.elim
end
end GG
/-! the rules that read the written part, with it said -/
namespace GG
open PySem PySem.Spec L2
section
variable {X : Cx} (K : PySem.W.Frag) (h : X.K = K)
include h
theorem k_eqG (hu : X.A.units + 64 < cLine) : OpR X (compareOp .Eq) (rEqG K fun b => b) := by subst h; exact op_eqG hu
theorem k_neG (hu : X.A.units + 64 < cLine) : OpR X (compareOp .NotEq) (rEqG K fun b => !b) := by subst h; exact op_neG hu
theorem k_inG : OpR X (compareOp .In) (rInG K false) := by subst h; exact op_inG
theorem k_ninG : OpR X (compareOp .NotIn) (rInG K true) := by subst h; exact op_ninG
theorem k_ix : IxR X (rIxG K) := by subst h; exact ix_G
theorem k_sl : SlR X (rSlG K) := by subst h; exact sl_G
theorem k_len : CallR X (.builtin "len") (rLenG K) := by subst h; exact c_len
theorem k_sum (hc : X.calm = true) : CallR X (.builtin "sum") (rSumG K) := by subst h; exact c_sum hc
theorem k_sorted : CallR X (.builtin "sorted") (rSortG K) := by subst h; exact c_sorted
theorem k_list : CallR X (.type "list") (rListG K) := by subst h; exact c_list
theorem k_tuple : CallR X (.type "tuple") (rTupleG K) := by subst h; exact c_tuple
theorem k_isi : CallR X (.builtin "isinstance") (rIsG K) := by subst h; exact c_isi
theorem k_fld {e : Expr} {f : Str} {ta : TE} {pos : Pos} (he : PE X e ta) (hb : attributeBase e f X.env (eval e X.env) = eval e X.env) : PE X (.Attribute e f pos) (gFld K ta f) := by subst h; exact g_fld he hb
theorem k_fldS {o value : Expr} {f : Str} {ta tv : TE} {pos pos' : Pos} (ha : PE X o ta) (hv : PE X value tv) (hs : swapsWith value (some (.Attribute o f pos')) pos.line X.env = pure false) : PS X (.Assign [.Attribute o f pos'] value pos) (gFldS K ta tv f) := by subst h; exact g_fldS ha hv hs
theorem kw_list {tg iter : Expr} {tl : TE} (he : PE X iter tl) : PI X tg iter (wL K tl) := by subst h; exact w_list he
theorem kw_tup {tg iter : Expr} {tl : TE} (he : PE X iter tl) : PI X tg iter (wT K tl) := by subst h; exact w_tup he
theorem k_lenSet {a : Expr} {ta : TE} {p p2 q pos : Pos} (hg : Gl X "len") (hm : X.mg "len" = none) (hg2 : Gl X "set") (hm2 : X.mg "set" = none) (ha : PE X a ta) (hc : X.calm = true)
    (na : starEach [a] X.env = (false, eval a X.env) :: starEach [] X.env := by rfl) : PE X (.Call (.Name "len" p) [.Call (.Name "set" p2) [a] [] q] [] pos) (gLenSet K ta) := by subst h; exact g_lenSet hg hm hg2 hm2 ha hc na
end
section
variable {P : Program} {w : World} {K : PySem.W.Frag} {mg : Str → Option Value} {base : Heap} {k j : Nat} {sp : Sp}
theorem MtN.up {C : Addr} {m : Str} {dvs : List V} (c : MtN P w K mg base k C m dvs sp) (h : k ≤ j) : MtN P w K mg base j C m dvs sp := by
  obtain ⟨f, fd, ps, ds, a, b, F, r⟩ := c.ex
  exact ⟨f, fd, ps, ds, a, b, F.mono h, r⟩
theorem FnN.up {x : Str} {dvs : List V} (c : FnN P w K mg base k x dvs sp) (h : k ≤ j) : FnN P w K mg base j x dvs sp := by
  obtain ⟨f, fd, ps, ds, F, r⟩ := c.ex
  exact ⟨f, fd, ps, ds, F.mono h, r⟩
theorem PrN.up {C : Addr} {m : Str} (c : PrN P w K mg base k C m sp) (h : k ≤ j) : PrN P w K mg base j C m sp := by
  obtain ⟨p, g, fd, ps, a, b, F, r⟩ := c.ex
  exact ⟨p, g, fd, ps, a, b, F.mono h, r⟩
end
end GG
/-! comprehensions of two clauses without tests, the targets names; len of own instances by K; reversed slices -/
namespace GG
open PySem PySem.Spec L2
@[irreducible] def Comp2 (J : It) (j : Nat) (wi1 : TI) (j1 : Nat) (te : TE) (vs vs1 : List Nat) (σ : L2.St) (Q : VK) (H1 : Hp) : Prop :=
  ∀ D, H1 D = none → ∃ W : Nat → Nat → Hp → Prop, (∃ m, W 0 m (upd H1 D (.lst []))) ∧ ∀ i m H, W i m H →
  (J.stop i H ∧ Q (.ref D) H) ∨ (J.go i H ∧ ∃ Nx : Hp → Prop, (∀ H', Nx H' → ∃ m', m' < m ∧ W (i + 1) m' H') ∧ ∀ x H', J.yld i H x H' → wipe ((wipe σ vs).set j (some x)) vs = wipe σ vs ∧
    wi1 ((wipe σ vs).set j (some x)) H' fun J1 H4 => ∃ W1 : Nat → Nat → Hp → Prop, (∃ m, W1 0 m H4) ∧ ∀ j' k H, W1 j' k H →
      (J1.stop j' H ∧ Nx H) ∨ (J1.go j' H ∧ ∃ Nx1 : Hp → Prop, (∀ H', Nx1 H' → ∃ k', k' < k ∧ W1 (j' + 1) k' H') ∧ ∀ z H', J1.yld j' H z H' →
        wipe ((wipe ((wipe σ vs).set j (some x)) vs1).set j1 (some z)) vs1 = wipe ((wipe σ vs).set j (some x)) vs1 ∧
        te ((wipe ((wipe σ vs).set j (some x)) vs1).set j1 (some z)) H' fun y H7 => ∃ acc, H7 D = some (.lst acc) ∧ acc.length < sizeLine ∧ Nx1 (upd H7 D (.lst (acc ++ [y])))))
def gLc2 (wi : TI) (j : Nat) (wi1 : TI) (j1 : Nat) (te : TE) (vs vs1 : List Nat) : TE := fun σ H Q => wi σ H fun J H1 => Comp2 J j (mcI wi1) j1 (mcE te) vs vs1 σ Q H1
section
variable {X : Cx} {elt tg iter tg1 iter1 : Expr} {scope : Scope} {own : List (Str × Nat)} {pos : Pos} {te : TE} {wi wi1 : TI} {j j1 : Nat} {vs1 : List Nat}
theorem g_lc2 (hc : X.calm = true) (hN : X.N.Nodup) (hi : PI X tg iter wi) (ok : BlkOk X.N X.env.scope scope own) (hv : ∀ i ∈ vs1, i ∈ own.map (·.2))
    (hg : ∀ (s : Shared) (H : Hp) (C : Addr) (cl : List (Str × Addr)) (fp : List Addr), PG (X.blk s H scope (compEnvC scope cl C X.env) fp) tg (gName j))
    (hi1 : ∀ (s : Shared) (H : Hp) (C : Addr) (cl : List (Str × Addr)) (fp : List Addr), PI (X.blk s H scope (compEnvC scope cl C X.env) fp) tg1 iter1 wi1)
    (hg1 : ∀ (s : Shared) (H : Hp) (C : Addr) (cl : List (Str × Addr)) (fp : List Addr), PG (X.blk s H scope (compEnvC scope cl C X.env) fp) tg1 (gName j1))
    (he : ∀ (s : Shared) (H : Hp) (C : Addr) (cl : List (Str × Addr)) (fp : List Addr), PE (X.blk s H scope (compEnvC scope cl C X.env) fp) elt te)
    (hs : ∀ x, foldedSetIterable iter X.env x = pure x := by intro _; rfl) (hs1 : ∀ env x, foldedSetIterable iter1 env x = pure x := by intro _ _; rfl) :
    PE X (.ListComp elt [⟨tg, iter, [], 0⟩, ⟨tg1, iter1, [], 0⟩] scope pos) (gLc2 wi j wi1 j1 te (own.map (·.2)) vs1) :=
  PEi (pe_lc2 (tt := tYes) (tt1 := tYes) (vs1 := vs1) hc hN (PIm hi) ok hv hg (fun _ _ _ _ _ => pts_nil) (fun s H C cl fp => PIm (hi1 s H C cl fp)) hg1 (fun _ _ _ _ _ => pts_nil) (fun s H C cl fp => PEm (he s H C cl fp)) hs hs1) fun σ H Q q => ⟨_, fun J H1 r => by
    unfold Comp2 at r
    exact r, q⟩
theorem g_setLc2 {i : Nat} {y : Str} {py spos : Pos} (hc : X.calm = true) (hN : X.N.Nodup) (hy : X.N[i]? = some y) (hyl : X.env.scope.names.lookup y = some .local)
    (hsw : swapsWith (.ListComp elt [⟨tg, iter, [], 0⟩, ⟨tg1, iter1, [], 0⟩] scope pos) (some (.Name y py)) spos.line X.env = pure true) (hi : PI X tg iter wi) (ok : BlkOk X.N X.env.scope scope own) (hv : ∀ i ∈ vs1, i ∈ own.map (·.2))
    (hg : ∀ (s : Shared) (H : Hp) (C : Addr) (cl : List (Str × Addr)) (fp : List Addr), PG (X.blk s H scope (compEnvC scope cl C X.env) fp) tg (gName j))
    (hi1 : ∀ (s : Shared) (H : Hp) (C : Addr) (cl : List (Str × Addr)) (fp : List Addr), PI (X.blk s H scope (compEnvC scope cl C X.env) fp) tg1 iter1 wi1)
    (hg1 : ∀ (s : Shared) (H : Hp) (C : Addr) (cl : List (Str × Addr)) (fp : List Addr), PG (X.blk s H scope (compEnvC scope cl C X.env) fp) tg1 (gName j1))
    (he : ∀ (s : Shared) (H : Hp) (C : Addr) (cl : List (Str × Addr)) (fp : List Addr), PE (X.blk s H scope (compEnvC scope cl C X.env) fp) elt te)
    (hs : ∀ x, foldedSetIterable iter X.env x = pure x := by intro _; rfl) (hs1 : ∀ env x, foldedSetIterable iter1 env x = pure x := by intro _ _; rfl) :
    PS X (.Assign [.Name y py] (.ListComp elt [⟨tg, iter, [], 0⟩, ⟨tg1, iter1, [], 0⟩] scope pos) spos) (tAsg (gLc2 wi j wi1 j1 te (own.map (·.2)) vs1) (gName i)) :=
  PSi (ps_setLc2 (tt := tYes) (tt1 := tYes) (vs1 := vs1) hc hN hy hyl hsw (PIm hi) ok hv hg (fun _ _ _ _ _ => pts_nil) (fun s H C cl fp => PIm (hi1 s H C cl fp)) hg1 (fun _ _ _ _ _ => pts_nil) (fun s H C cl fp => PEm (he s H C cl fp)) hs hs1) fun D σ H q => ⟨_, fun J H1 r => by
    unfold Comp2 at r
    exact r, q⟩
end
section
variable {J : It} {n : Nat} {Gd : Hp → Prop} {Y : Nat → V → Prop} {j j1 : Nat} {wi1 : TI} {te : TE} {vs vs1 : List Nat} {σ : L2.St} {Q : VK} {H1 : Hp}
/-- what the inner clause is to give: F1 behind k of its items -/
def Inner (j1 : Nat) (te : TE) (vs1 : List Nat) (σ2 : L2.St) (D : Addr) (acc0 : List V) (Fend : List V → Hp → Prop) (J1 : It) (H4 : Hp) : Prop :=
  H4 D = some (.lst acc0) ∧ ∃ (m : Nat) (G1 : Hp → Prop) (Y1 : Nat → V → Prop) (F1 : Nat → List V → Hp → Prop), Walk J1 m G1 (fun i H x H' => H' = H ∧ Y1 i x) ∧ F1 0 acc0 (off D H4) ∧ (∀ k acc H G, k ≤ m → F1 k acc G → Same G H → G1 H) ∧
    (∀ k z acc H5, k < m → Y1 k z → H5 D = some (.lst acc) → F1 k acc (off D H5) → wipe ((wipe σ2 vs1).set j1 (some z)) vs1 = wipe σ2 vs1 ∧
      te ((wipe σ2 vs1).set j1 (some z)) H5 fun y H6 => H6 D = some (.lst acc) ∧ acc.length < sizeLine ∧ F1 (k + 1) (acc ++ [y]) (off D H6)) ∧ ∀ acc G, F1 m acc G → Fend acc G
theorem comp2_by (w : Walk J n Gd (fun i H x H' => H' = H ∧ Y i x)) (F : Nat → List V → Hp → Prop) (h0 : F 0 [] H1) (hG : ∀ i acc H G, i ≤ n → F i acc G → Same G H → Gd H)
    (hs : ∀ D i x acc H', i < n → Y i x → H1 D = none → H' D = some (.lst acc) → F i acc (off D H') → wipe ((wipe σ vs).set j (some x)) vs = wipe σ vs ∧
      wi1 ((wipe σ vs).set j (some x)) H' (Inner j1 te vs1 ((wipe σ vs).set j (some x)) D acc (F (i + 1))))
    (hd : ∀ D H' acc, H1 D = none → H' D = some (.lst acc) → F n acc (off D H') → Q (.ref D) H') : Comp2 J j (mcI wi1) j1 (mcE te) vs vs1 σ Q H1 := by
  unfold Comp2
  intro D hD
  refine ⟨fun i m H => m = n - i ∧ i ≤ n ∧ ∃ acc, H D = some (.lst acc) ∧ F i acc (off D H), ⟨n, by simp, Nat.zero_le _, [], upd_same, by rw [off_upd, off_free hD]; exact h0⟩, ?_⟩
  rintro i m H ⟨rfl, hi, acc, e, f⟩
  have g := hG i acc H _ hi f off_same
  by_cases hlt : i < n
  · refine .inr ⟨w.goes i H hlt g, fun H' => ∃ acc, H' D = some (.lst acc) ∧ F (i + 1) acc (off D H'), fun H' ⟨acc, e, f⟩ => ⟨n - (i + 1), by omega, rfl, hlt, acc, e, f⟩, fun x H' y => ?_⟩
    obtain ⟨rfl, hy⟩ := w.yields i H x H' hlt g y
    obtain ⟨hw, hr⟩ := hs D i x acc _ hlt hy hD e f
    refine ⟨hw, _, fun J1 H4 r => ?_, hr⟩
    obtain ⟨e4, m, G1, Y1, F1, w1, f0, hG1, hs1, hend⟩ := r
    refine ⟨fun k mm H => mm = m - k ∧ k ≤ m ∧ ∃ acc, H D = some (.lst acc) ∧ F1 k acc (off D H), ⟨m, by simp, Nat.zero_le _, acc, e4, f0⟩, ?_⟩
    rintro k mm H5 ⟨rfl, hk, acc5, e5, f5⟩
    have g5 := hG1 k acc5 H5 _ hk f5 off_same
    by_cases hkt : k < m
    · refine .inr ⟨w1.goes k H5 hkt g5, fun H' => ∃ acc, H' D = some (.lst acc) ∧ F1 (k + 1) acc (off D H'), fun H' ⟨acc, e, f⟩ => ⟨m - (k + 1), by omega, rfl, hkt, acc, e, f⟩, fun z H6 y6 => ?_⟩
      obtain ⟨rfl, hy6⟩ := w1.yields k H5 z H6 hkt g5 y6
      obtain ⟨hw6, hr6⟩ := hs1 k z acc5 _ hkt hy6 e5 f5
      exact ⟨hw6, _, fun y H7 ⟨e7, l7, f7⟩ => ⟨acc5, e7, l7, acc5 ++ [y], upd_same, by rw [off_upd]; exact f7⟩, hr6⟩
    · have ek : k = m := by omega
      subst ek
      exact .inl ⟨w1.stops H5 g5, acc5, e5, hend _ _ f5⟩
  · have ei : i = n := by omega
    subst ei
    exact .inl ⟨w.stops H g, hd D H acc hD e f⟩
end
section
variable {K : PySem.W.Frag} {j j1 : Nat} {wi1 : TI} {te : TE} {vs vs1 : List Nat} {σ σ2 : L2.St} {Q : VK} {H1 : Hp}
theorem comp2_list {a : Addr} {xs : List V} (F : Nat → List V → Hp → Prop) (h0 : F 0 [] H1) (hG : ∀ i acc G, F i acc G → SqL K G a xs)
    (hs : ∀ D i x acc H', xs[i]? = some x → H1 D = none → H' D = some (.lst acc) → F i acc (off D H') → wipe ((wipe σ vs).set j (some x)) vs = wipe σ vs ∧
      wi1 ((wipe σ vs).set j (some x)) H' (Inner j1 te vs1 ((wipe σ vs).set j (some x)) D acc (F (i + 1))))
    (hd : ∀ D H' acc, H1 D = none → H' D = some (.lst acc) → F xs.length acc (off D H') → Q (.ref D) H') : (∃ ys, SqL K H1 a ys) ∧ Comp2 (Itl K a) j (mcI wi1) j1 (mcE te) vs vs1 σ Q H1 :=
  ⟨⟨xs, hG _ _ _ h0⟩, comp2_by walk_list F h0 (fun i acc H G _ f s => s.seq (hG i acc G f)) (fun D i x acc H' _ hx a b c => hs D i x acc H' hx a b c) hd⟩
theorem comp2_tup {a : Addr} {xs : List V} (F : Nat → List V → Hp → Prop) (h0 : F 0 [] H1) (hG : ∀ i acc G, F i acc G → SqT K G a xs)
    (hs : ∀ D i x acc H', xs[i]? = some x → H1 D = none → H' D = some (.lst acc) → F i acc (off D H') → wipe ((wipe σ vs).set j (some x)) vs = wipe σ vs ∧
      wi1 ((wipe σ vs).set j (some x)) H' (Inner j1 te vs1 ((wipe σ vs).set j (some x)) D acc (F (i + 1))))
    (hd : ∀ D H' acc, H1 D = none → H' D = some (.lst acc) → F xs.length acc (off D H') → Q (.ref D) H') : (∃ ys, SqT K H1 a ys) ∧ Comp2 (Itt K a) j (mcI wi1) j1 (mcE te) vs vs1 σ Q H1 :=
  ⟨⟨xs, hG _ _ _ h0⟩, comp2_by walk_tup F h0 (fun i acc H G _ f s => SqT_same (hG i acc G f) s) (fun D i x acc H' _ hx a b c => hs D i x acc H' hx a b c) hd⟩
/-- the inner clause walks a list and keeps its items -/
theorem inner_flat {b D : Addr} {zs acc0 : List V} {Fend : List V → Hp → Prop} {H4 : Hp} (hD : H4 D = some (.lst acc0)) (hb : SqL K (off D H4) b zs) (hz : acc0.length + zs.length < sizeLine) (hw : ∀ z, wipe ((wipe σ2 vs1).set j1 (some z)) vs1 = wipe σ2 vs1)
    (hv : ∀ z, ((wipe σ2 vs1).set j1 (some z))[j1]? = some (some z)) (he : ∀ G, Same (off D H4) G → Fend (acc0 ++ zs) G) : (∃ ys, SqL K H4 b ys) ∧ Inner j1 (gVar j1) vs1 σ2 D acc0 Fend (Itl K b) H4 := by
  refine ⟨⟨zs, off_same.seq hb⟩, hD, zs.length, fun H => SqL K H b zs, fun i x => zs[i]? = some x, fun k acc G => Same (off D H4) G ∧ acc = acc0 ++ zs.take k, walk_list, ⟨Same.refl _, by simp⟩, fun k acc H G _ f s => s.seq (f.1.seq hb), fun k z acc H5 hk hz5 e5 f5 => ⟨hw z, ?_⟩, fun acc G f => ?_⟩
  · unfold gVar
    rw [hv z]
    dsimp only
    refine ⟨e5, ?_, f5.1, ?_⟩
    · rw [f5.2, List.length_append, List.length_take]; omega
    · rw [f5.2, List.append_assoc, List.take_add_one, hz5]; rfl
  · obtain ⟨s, rfl⟩ := f
    rw [List.take_length]
    exact he G s
end
/-! ### xs[::-1] -/
end GG
/-! t[::-1] of a tuple, xs[::-1] of a list -/
namespace GG
open PySem PySem.Spec L2 PyProof.Rows
section
variable {X : Cx} {e : Expr} {te : TE} {k : Nat} {p1 p2 p3 pos : Pos}
def rNegG : V → Hp → VK → Prop := fun x H Q => match x with
  | .int i => Q (.int (-i)) H
  | _ => False
theorem un_negG : UnR X (unaryOp .USub) rNegG := fun pins s σ H x v Q I rx h => by
  unfold rNegG at h
  split at h
  · exact un_neg pins s σ H _ v Q I rx ⟨_, rfl, h⟩
  · exact h.elim
end
end GG
namespace GG
open PySem PySem.Spec L2
open PyProof.Rows (envOfC)
section
variable {P : Program} {w : World} {K : PySem.W.Frag} {mg : Str → Option Value} {base : Heap} {k : Nat} {sp : Sp} {N ps : List Str} {st : Stmt}
/-- a def by its body, the function object said -/
theorem fo_by {x : Str} {f : Addr} {fd : FuncData} (F : FunD K x x (defArgs st) (defBody st) (defScope st) [] [] f fd) (S : FnScope N ps (defScope st)) (len : ∀ vs H Q E, sp vs H Q E → vs.length = ps.length)
    (hb : ∀ (g : Addr) (cdv : Value) (A : Around) (outer : List Env) (s : Shared) (H : Hp) (vs : List V) (Q : VK) (E : XK), Room k (A.deeper (envOfC x (defScope st) s.heap.objs.size g cdv)) → sp vs H Q E →
      ∃ t, PSs (cxOf CX0 P w K mg base N x (defScope st) g cdv A outer s H E).nox (defBody st) t ∧ t { nx := fun _ H' => Q .non H', rt := Q } (start N vs) H) : FnOk P w K mg base CX0 (k + 1) f fd ps sp :=
  F.ok S len fun cdv A outer s H vs Q E hr h => (hb f cdv A outer s H vs Q E hr h).imp fun t q => ⟨q.1.nox, q.2⟩
end
end GG
/-! comprehensions clause by clause: one loop for a clause of any comprehension, whatever its body -/
namespace GG
open PySem PySem.Spec L2 PyProof.Rows
def turnOf (p : Pos) (it : Value) (t0 : Expr) (ifs : List Expr) (env : Env) (go : Sem PySem.Fin → Sem PySem.Fin) (k : Sem PySem.Fin) : Sem PySem.Fin := do
  standAt p
  match ← pyNext it with
  | none => pure (.done .next)
  | some v =>
    letOwnedTupleGo t0 it v
    assign t0 env v
    let mut ok := true
    for c in ifs do
      if ok then ok ← isTrue c env (eval c env)
    if ok then go k else k
abbrev TB := L2.St → Hp → (Hp → Prop) → Prop
/-- a clause's body leaves, for what comes behind it, a heap with N; the slots ws may have been stored -/
def Body (Y : Cx) (ws : List Nat) (go : Sem PySem.Fin → Sem PySem.Fin) (tb : TB) : Prop :=
  ∀ (pins : List (Addr × Obj)) (s : Shared) (σ : L2.St) (H : Hp) (N : Hp → Prop) (k : Sem PySem.Fin) (QF : PySem.Fin → Shared → Prop) (E : Value → Shared → Prop), Inv Y pins σ H s → tb σ H N →
    (∀ s' H', Inv Y pins (wipe σ ws) H' s' → N H' → wpAny (model Y.prog Y.w) Y.A k QF E s') → wpAny (model Y.prog Y.w) Y.A (go k) QF E s
/-- what one clause is asked, from H0 on, so that F holds behind its loop -/
def Cl (J : It) (g : TG) (tt : TT) (tb : TB) (vs : List Nat) (σ : L2.St) (H0 : Hp) (F : Hp → Prop) : Prop :=
  ∃ W : Nat → Nat → Hp → Prop, (∃ m, W 0 m H0) ∧ ∀ i m H, W i m H → (J.stop i H ∧ F H) ∨ (J.go i H ∧ ∃ Nx : Hp → Prop, (∀ H', Nx H' → ∃ m', m' < m ∧ W (i + 1) m' H') ∧
    ∀ x H', J.yld i H x H' → g x (wipe σ vs) H' fun σ2 H2 => wipe σ2 vs = wipe σ vs ∧ tt σ2 H2 fun b H3 => if b = true then tb σ2 H3 Nx else Nx H3)
section
variable {Y : Cx} {e t0 : Expr} {idx : Nat} {it : Addr} {acc : Value} {p : Pos} {ifs : List Expr} {go : Sem PySem.Fin → Sem PySem.Fin} {fp : List Addr} {tn : Nat → Heap → Prop} {J : It} {g : TG} {tt : TT} {tb : TB} {vs ws : List Nat} {σ : L2.St} {H0 : Hp} {F : Hp → Prop} {pins : List (Addr × Obj)} {R : Result → Shared → Prop} {s : Shared}
theorem thnX {α : Type} {t : Sem α} {M : Model} {A : Around} {X E : Value → Shared → Prop} {Q Q' : α → Shared → Prop} (hx : ∀ e s, X e s → False) (h : wpAny M A t Q X s) (hQ : ∀ a s, Q a s → Q' a s) : wpAny M A t Q' E s := wpAny_mono h hQ fun e s z => (hx e s z).elim
theorem clause_loop (hu : Y.A.under (.compLoop e idx (.ref it) acc Y.env) = Y.A) (hd : (model Y.prog Y.w).den (.compLoop e idx (.ref it) acc Y.env) = (compTurn e idx (.ref it) acc Y.env).onRaise fun x => do noteFrame x Y.env; theTreesLotGoes x) (hc : Y.calm = true) (hx : ∀ e s, Y.xe e s → False) (turn : compTurn e idx (.ref it) acc Y.env = turnOf p (.ref it) t0 ifs Y.env go (again (.compLoop e idx (.ref it) acc Y.env)))
    (T : Turn Y.prog Y.w Y.K t0 J fp it tn) (pg : PG Y t0 g) (pt : PTs Y ifs tt) (pb : Body Y ws go tb) (hw : ∀ i ∈ ws, i ∈ vs) (stat : ∀ H' : Hp, (∀ b ∈ fp, H' b = none) → ∀ b ∈ fp, FpOk Y pins H' b)
    (I : Inv Y pins (wipe σ vs) H0 s) (st : tn 0 s.heap) (nf : ∀ b ∈ fp, H0 b = none) (h : Cl J g tt tb vs σ H0 F) (fin : ∀ s' H', Inv Y pins (wipe σ vs) H' s' → F H' → R (.ok .next) s') :
    codeAny (model Y.prog Y.w) Y.A (.compLoop e idx (.ref it) acc Y.env) R s := by
  obtain ⟨W, ⟨m0, w0⟩, step⟩ := h
  refine codeAny_loop rfl (fun n s' => ∃ i H', Inv Y pins (wipe σ vs) H' s' ∧ tn i s'.heap ∧ (∀ b ∈ fp, H' b = none) ∧ W i n H') (fun n s5 ⟨i, H5, I5, st5, n5, w5⟩ => ?_) m0 ⟨0, H0, I, st, nf, w0⟩
  rw [hu, hd, turn]
  refine wpAny_noted ?_
  unfold turnOf
  refine wpAny_bind (wpAny_standAt (wpAny_bind ?_))
  rcases step i n H5 w5 with ⟨stop, fq⟩ | ⟨goes, Nx, hN, stp⟩
  · refine thnF (T.done Y rfl rfl rfl hc i pins s5 _ H5 (fun _ _ => False) I5 (stat H5 n5) st5 stop) fun r s6 ⟨hr, I6⟩ => ?_
    subst hr; exact wpAny_pure (fin s6 H5 I6 fq)
  · refine thnF (T.item Y rfl rfl rfl hc i pins s5 _ H5 (fun _ _ => False) I5 (stat H5 n5) st5 goes) fun r s6 ⟨u, hr, h6⟩ => ?_
    subst hr
    refine wpAny_bind (thnF h6 fun _ s7 ⟨x, H7, I7, r7, y7, st7, n7⟩ => ?_)
    refine wpAny_bind (thnX hx (pg.run _ s7 _ H7 x u _ (I7.pinned (stat H7 n7) (T.obj _ _ st7)) r7 (stp x H7 y7)) fun _ s8 ⟨σ8, H8, I8, hw8, q8⟩ => ?_)
    refine wpAny_bind (thnX hx (pt.run _ s8 σ8 H8 _ I8 q8) fun b s9 ⟨H9, I9, q9⟩ => ?_)
    have back : ∀ {σ9 : L2.St} {s' : Shared} {H' : Hp}, Inv Y (pins ++ pinsAt fp s7.heap) σ9 H' s' → (wipe σ vs).length = σ9.length → (∀ (j : Nat) v, (wipe σ vs)[j]? = some (some v) → σ9[j]? = some (some v)) → Nx H' →
        ∃ m, m < n ∧ ∃ i H', Inv Y pins (wipe σ vs) H' s' ∧ tn i s'.heap ∧ (∀ b ∈ fp, H' b = none) ∧ W i m H' := fun {σ9 s' H'} I' hl hk nx => by
      obtain ⟨m', hm, w'⟩ := hN H' nx
      have there : ∀ b ∈ fp, ∀ o, s7.heap.get? b = some o → s'.heap.get? b = some o ∧ H' b = none := fun b hb o eo =>
        ⟨(I'.pin (b, o) (List.mem_append_right _ (List.mem_append_right _ (mem_pinsAt hb eo)))).1, (I'.pin (b, o) (List.mem_append_right _ (List.mem_append_right _ (mem_pinsAt hb eo)))).2.1⟩
      exact ⟨m', hm, i + 1, H', (I'.unpinned (pins := pins)).weak hl hk, T.keep _ _ _ st7 fun b hb o eo => (there b hb o eo).1, fun b hb => let ⟨o, eo, _⟩ := T.obj _ _ st7 b hb; (there b hb o eo).2, w'⟩
    have l8 : (wipe σ vs).length = σ8.length := by rw [← hw8, wipe_length]
    have k8 : ∀ (j : Nat) v, (wipe σ vs)[j]? = some (some v) → σ8[j]? = some (some v) ∧ j ∉ vs := fun j v ej => by rw [← hw8] at ej; exact wipe_some ej
    have lp : ∀ (s' : Shared), (∃ m, m < n ∧ ∃ i H', Inv Y pins (wipe σ vs) H' s' ∧ tn i s'.heap ∧ (∀ b ∈ fp, H' b = none) ∧ W i m H') → wpAny (model Y.prog Y.w) Y.A (again (.compLoop e idx (.ref it) acc Y.env))
        (fun fin s' => match fin with | .done f => R (.ok f) s' | .again c' => c' = .compLoop e idx (.ref it) acc Y.env ∧ ∃ m, m < n ∧ ∃ i H', Inv Y pins (wipe σ vs) H' s' ∧ tn i s'.heap ∧ (∀ b ∈ fp, H' b = none) ∧ W i m H') (notedBy (model Y.prog Y.w) Y.A Y.env fun e s' => R (.error e) s') s' := fun s' z => wpAny_pure ⟨rfl, z⟩
    cases b with
    | false => exact lp s9 (back I9 l8 (fun j v ej => (k8 j v ej).1) (by simpa using q9))
    | true =>
      refine pb _ s9 σ8 H9 Nx _ _ _ I9 (by simpa using q9) fun s' H' I' nx => lp s' (back I' (l8.trans (wipe_length σ8 ws).symm) (fun j v ej => ?_) nx)
      obtain ⟨e1, e2⟩ := k8 j v ej
      rw [wipe_out fun z => e2 (hw j z)]; exact e1
end
end GG
/-! sets made by comprehensions, items ints -/
namespace GG
open PySem PySem.Spec L2 PyProof.Rows
/-- the set at a with one more member -/
def moreO (w : World) (a : Addr) (S : Int → Bool) (n : Nat) (c : Int) : HO := SetO w a (fun j => S j || decide (j = c)) (if S c = true then n else n + 1)
section
variable {Y : Cx} {D : Addr} {elt i1 t1 : Expr} {ws vs1 : List Nat} {te : TE} {env : Env}
theorem set_more {pins : List (Addr × Obj)} {σ : L2.St} {H : Hp} {s : Shared} {E : Value → Shared → Prop} {S : Int → Bool} {n : Nat} {c : Int} {v : Value} {Q : Value → Shared → Prop} (I : Inv Y pins σ H s) (hD : H D = some (SetO Y.w D S n)) (room : n + 1 < scanBound) (r : RelV (.int c) v)
    (h : ∀ s', Inv Y pins σ (upd H D (moreO Y.w D S n c)) s' → Q .none s') : wpAny (model Y.prog Y.w) Y.A (call (.builtin "set.add") [.ref D, v]) Q E s := by
  obtain ⟨tk, rfl⟩ := r
  refine setR_add (setO_get I hD) room fun h' sb new => h _ (I.write (e := D) (t' := s.toks + 1) (by rw [hD]; trivial) (.inl rfl) (fun b u hb hu => (sb.2 b hb).trans hu) ?_ (setO_new new))
  obtain ⟨o, _, _, _, ho, _⟩ := new
  exact ⟨o, ho⟩
/-- the last clause's body: the item goes in -/
def tAdd (w : World) (D : Addr) (te : TE) : TB := fun σ H N => te σ H fun y H1 => match y with
  | .int c => ∃ S n, H1 D = some (SetO w D S n) ∧ n + 1 < scanBound ∧ ∀ H2, SameX D H1 H2 → H2 D = some (moreO w D S n c) → N H2
  | _ => False
def goAdd (elt : Expr) (acc : Value) (env : Env) (k : Sem PySem.Fin) : Sem PySem.Fin := (do let v ← eval elt env; standAt elt.pos; let _ ← call (.builtin "set.add") [acc, v]) >>= fun (_ : Unit) => k
theorem body_add (hx : ∀ e s, Y.xe e s → False) (he : PE Y elt te) : Body Y [] (goAdd elt (.ref D) Y.env) (tAdd Y.w D te) := by
  intro pins s σ H N k QF E I h hk
  unfold goAdd
  refine wpAny_bind (wpAny_bind (thnX hx (he.run pins s σ H _ I h) fun v s1 ⟨y, H1, I1, r1, q1⟩ => ?_))
  refine wpAny_bind (wpAny_standAt (wpAny_bind ?_))
  dsimp only at q1
  split at q1
  next c =>
    obtain ⟨S, n, hD, room, q⟩ := q1
    exact set_more I1 hD room r1 fun s2 I2 => wpAny_pure (hk s2 _ I2 (q _ SameX.upd upd_same))
  next => exact q1.elim
end
end GG
/-! the set as a value -/
namespace GG
open PySem PySem.Spec L2 PyProof.Rows
/-- {.. for tg in iter if .. (for ..)} -/
def tSet (w : World) (wi : TI) (g : TG) (tt : TT) (tb : Addr → TB) (vs : List Nat) : TE := fun σ H Q => wi σ H fun J H1 => ∀ D H2, H1 D = none → Same H1 H2 → off D H2 = H1 → H2 D = some (SetO w D (fun _ => false) 0) → Cl J g tt (tb D) vs σ H2 fun H3 => Q (.ref D) H3
section
variable {X : Cx} {elt tg iter : Expr} {ifs : List Expr} {rest : List Comprehension} {scope : Scope} {own : List (Str × Nat)} {pos : Pos} {wi : TI} {g : TG} {tt : TT} {tb : Addr → TB} {ws : List Nat}
theorem pe_set (go : Env → Value → Sem PySem.Fin → Sem PySem.Fin) (hc : X.calm = true) (hN : X.N.Nodup) (hi : PI X tg iter wi) (ok : BlkOk X.N X.env.scope scope own) (hw : ∀ i ∈ ws, i ∈ own.map (·.2))
    (hg : ∀ (s : Shared) (H : Hp) (C : Addr) (cl : List (Str × Addr)) (fp : List Addr), PG (X.blk s H scope (compEnvC scope cl C X.env) fp) tg g)
    (ht : ∀ (s : Shared) (H : Hp) (C : Addr) (cl : List (Str × Addr)) (fp : List Addr), PTs (X.blk s H scope (compEnvC scope cl C X.env) fp) ifs tt)
    (hb : ∀ (s : Shared) (H : Hp) (C : Addr) (cl : List (Str × Addr)) (fp : List Addr) (D : Addr), Body (X.blk s H scope (compEnvC scope cl C X.env) fp) ws (go (compEnvC scope cl C X.env) (.ref D)) (tb D))
    (turn : ∀ (env : Env) (it acc : Value), compTurn (.SetComp elt (⟨tg, iter, ifs, 0⟩ :: rest) scope pos) 0 it acc env = turnOf iter.pos it tg ifs env (go env acc) (again (.compLoop (.SetComp elt (⟨tg, iter, ifs, 0⟩ :: rest) scope pos) 0 it acc env)))
    (hs : ∀ x, foldedSetIterable iter X.env x = pure x := by intro _; rfl) : PE X (.SetComp elt (⟨tg, iter, ifs, 0⟩ :: rest) scope pos) (tSet X.w wi g tt tb (own.map (·.2))) := by
  refine ⟨fun pins s σ H Q I h => ?_⟩
  rw [PpSet.eval_SetComp]
  have free : ∀ y ∈ scope.names, y.2 = .free → ∃ c, X.env.cells.lookup y.1 = some c := fun y hy ey => (ok.free y hy ey).elim (fun k => I.ok.has _ (.inl k)) fun k => I.ok.has _ (.inr k)
  refine wpAny_comprehension_free (use := none) rfl hs (closure_ok free) ok.kind (fun y hy ey => (ok.uniq y hy).trans (congrArg some ey)) (thn (hi.run pins s σ H _ I h) fun xv s1 h1 => thn h1 fun itv s2 h2 => ?_)
  obtain ⟨it, fp, tn, J, H2, ei, I2, T, st2, f2, q⟩ := h2
  subst ei
  refine PpSet.newSet_ok (newEnv_comp ?_)
  have hDn : H2 s2.heap.objs.size = none := I2.hok.fresh (Nat.le_refl _)
  have q := q s2.heap.objs.size (upd H2 s2.heap.objs.size (SetO X.w s2.heap.objs.size (fun _ => false) 0)) hDn (Sm.new hDn) (by rw [off_upd, off_free hDn]) upd_same
  have up : ∀ b o, s2.heap.get? b = some o → (s2.heap.push { cls := .type "set", dict := none, data := .set #[] 0 (.fresh 0 0 (!X.w.params.followText "set-order")) }).get? b = some o := fun b o eo => Heap.get?_push_of_some _ eo
  have I3 : Inv X pins σ (upd H2 s2.heap.objs.size (SetO X.w s2.heap.objs.size (fun _ => false) 0)) { s2 with heap := s2.heap.push { cls := .type "set", dict := none, data := .set #[] 0 (.fresh 0 0 (!X.w.params.followText "set-order")) } } :=
    I2.laid (t' := s2.toks) up (Nat.le_refl _) (setO_new (setR_fresh X.w))
  have lt : ∀ b ∈ fp, b < s2.heap.objs.size := fun b hb => let ⟨o, eo, _⟩ := T.obj _ _ st2 b hb; Heap.lt_size eo
  generalize hO : SetO X.w s2.heap.objs.size (fun _ => false) 0 = o0 at q I3
  generalize hD : s2.heap.objs.size = D at q I3 hDn lt hO ⊢
  generalize hS3 : ({ s2 with heap := s2.heap.push { cls := .type "set", dict := none, data := .set #[] 0 (.fresh 0 0 (!X.w.params.followText "set-order")) } } : Shared) = s3 at I3
  have e3 : s3.heap = s2.heap.push { cls := .type "set", dict := none, data := .set #[] 0 (.fresh 0 0 (!X.w.params.followText "set-order")) } := by rw [← hS3]
  have f3 : ∀ b ∈ fp, FpOk X pins (upd H2 D o0) b ∧ b < s3.heap.objs.size := fun b hb =>
    ⟨⟨by rw [upd_ne (Nat.ne_of_lt (lt b hb))]; exact (f2 b hb).1, (f2 b hb).2⟩, by rw [e3, Heap.size_push, hD]; exact Nat.lt_succ_of_lt (lt b hb)⟩
  have B := block_start I3 ok hN f3
  have st4 : tn 0 (pushCells (s3.heap.push { cls := .type "dict", data := .dict #[] }) scope.names) := T.keep _ _ _ st2 fun b _ o eo => pushCells_keeps _ _ _ _ (Heap.get?_push_of_some _ (by rw [e3]; exact up b o eo))
  have gg := hg s3 (upd H2 D o0) s3.heap.objs.size (cellsFrom (s3.heap.objs.size + 1) scope.names (cloFrom X.env.cells scope.names [])) fp
  have tt' := ht s3 (upd H2 D o0) s3.heap.objs.size (cellsFrom (s3.heap.objs.size + 1) scope.names (cloFrom X.env.cells scope.names [])) fp
  have bb := hb s3 (upd H2 D o0) s3.heap.objs.size (cellsFrom (s3.heap.objs.size + 1) scope.names (cloFrom X.env.cells scope.names [])) fp D
  have stat : ∀ H' : Hp, (∀ b ∈ fp, H' b = none) → ∀ b ∈ fp, FpOk (X.blk s3 (upd H2 D o0) scope (compEnvC scope (cellsFrom (s3.heap.objs.size + 1) scope.names (cloFrom X.env.cells scope.names [])) s3.heap.objs.size X.env) fp) [] H' b := fun H' hn b hb =>
    ⟨hn b hb, (B.ok.exf b hb).1, B.ok.exfs b hb, .inl hb, fun x c eo => (B.ok.exf b hb).2 x c eo, fun p hp => absurd (show p ∈ ([] : List (Addr × Obj)) ++ [] from hp) (by simp)⟩
  have loop := clause_loop (Y := X.blk s3 (upd H2 D o0) scope (compEnvC scope (cellsFrom (s3.heap.objs.size + 1) scope.names (cloFrom X.env.cells scope.names [])) s3.heap.objs.size X.env) fp) (pins := []) (R := compPost (model X.prog X.w) X.A X.xe none (EP X pins σ Q) (.ref D) s3.heap.objs.size) rfl rfl hc (fun _ _ z => z) (turn _ _ _) T gg tt' bb hw stat B st4 (fun b hb => (f3 b hb).1.1) q fun s6 H6 I6 qq => by
    have back : Inv X pins σ H6 s6 := I3.call' (ch := fp) I6.os I6.base I6.hok I6.bare fun b hb => ⟨(f3 b hb).1.2.2.2.1, (f3 b hb).1.2.1, (f3 b hb).1.2.2.2.2.1, (f3 b hb).1.2.2.2.2.2⟩
    obtain ⟨m, hn, _⟩ := I6.loc
    have fr : FpOk X pins H6 s3.heap.objs.size := I3.fpOk (Nat.le_refl _) I6.free
    refine ⟨m, hn, fun h'' sb => ?_⟩
    obtain ⟨f0, f1, f2, f3, f4, f5⟩ := fr
    exact ⟨.ref D, H6, back.turned (t' := s6.toks) (fun b o hb eo => (sb.2 b hb).trans eo) f0 f1 f3 f4 f5, rfl, qq⟩
  exact PpSet.codeAny_compStart_set loop (T.self X.A 0 _ _ _ st4 loop)
end
end GG
namespace GG
open PySem PySem.Spec L2 PyProof.Rows
section
variable {X : Cx} {elt tg iter tg1 iter1 : Expr} {ifs ifs1 : List Expr} {scope : Scope} {own : List (Str × Nat)} {pos : Pos} {wi wi1 : TI} {g g1 : TG} {tt tt1 : TT} {te : TE} {vs1 : List Nat}
/-- {elt for tg in iter if ..} -/
theorem k_set1 (w : World) (hw : X.w = w) (hc : X.calm = true) (hN : X.N.Nodup) (hi : PI X tg iter wi) (ok : BlkOk X.N X.env.scope scope own)
    (hg : ∀ (s : Shared) (H : Hp) (C : Addr) (cl : List (Str × Addr)) (fp : List Addr), PG (X.blk s H scope (compEnvC scope cl C X.env) fp) tg g)
    (ht : ∀ (s : Shared) (H : Hp) (C : Addr) (cl : List (Str × Addr)) (fp : List Addr), PTs (X.blk s H scope (compEnvC scope cl C X.env) fp) ifs tt)
    (he : ∀ (s : Shared) (H : Hp) (C : Addr) (cl : List (Str × Addr)) (fp : List Addr), PE (X.blk s H scope (compEnvC scope cl C X.env) fp) elt te) (hs : ∀ x, foldedSetIterable iter X.env x = pure x := by intro _; rfl) :
    PE X (.SetComp elt [⟨tg, iter, ifs, 0⟩] scope pos) (tSet w wi g (mcT tt) (fun D => tAdd w D te) (own.map (·.2))) := by
  subst hw
  exact pe_set (ws := []) (goAdd elt |> fun f env acc => f acc env) hc hN hi ok (fun i z => by simp at z) hg (fun s H C cl fp => PTsm (ht s H C cl fp)) (fun s H C cl fp D => body_add (fun _ _ z => z) (he s H C cl fp)) (fun env it acc => by rfl) hs
end
end GG
/-! list comprehensions with any target; dicts with text keys; sorted sets -/
namespace GG
open PySem PySem.Spec L2
section
variable {X : Cx} {elt tg iter : Expr} {ifs : List Expr} {scope : Scope} {own : List (Str × Nat)} {pos : Pos} {te : TE} {tt : TT} {g : TG}
@[irreducible] def CompG (J : It) (g : TG) (tt : TT) (te : TE) (vs : List Nat) (σ : L2.St) (Q : VK) (H1 : Hp) : Prop := ∀ D, H1 D = none → ∃ W : Nat → Nat → Hp → Prop, (∃ m, W 0 m (upd H1 D (.lst []))) ∧ ∀ i m H, W i m H →
  (J.stop i H ∧ Q (.ref D) H) ∨ (J.go i H ∧ ∃ Nx : Hp → Prop, (∀ H', Nx H' → ∃ m', m' < m ∧ W (i + 1) m' H') ∧ ∀ x H', J.yld i H x H' → g x (wipe σ vs) H' fun σ2 H2 => wipe σ2 vs = wipe σ vs ∧ tt σ2 H2 fun b H3 =>
    if b = true then te σ2 H3 fun y H4 => ∃ acc, H4 D = some (.lst acc) ∧ acc.length < sizeLine ∧ Nx (upd H4 D (.lst (acc ++ [y]))) else Nx H3)
def gLcG (wi : TI) (g : TG) (tt : TT) (te : TE) (vs : List Nat) : TE := fun σ H Q => wi σ H fun J H1 => CompG J g (mcT tt) (mcE te) vs σ Q H1
theorem g_lcG {wi : TI} (hc : X.calm = true) (hN : X.N.Nodup) (hi : PI X tg iter wi) (ok : BlkOk X.N X.env.scope scope own)
    (hg : ∀ (s : Shared) (H : Hp) (C : Addr) (cl : List (Str × Addr)) (fp : List Addr), PG (X.blk s H scope (compEnvC scope cl C X.env) fp) tg g)
    (ht : ∀ (s : Shared) (H : Hp) (C : Addr) (cl : List (Str × Addr)) (fp : List Addr), PTs (X.blk s H scope (compEnvC scope cl C X.env) fp) ifs tt)
    (he : ∀ (s : Shared) (H : Hp) (C : Addr) (cl : List (Str × Addr)) (fp : List Addr), PE (X.blk s H scope (compEnvC scope cl C X.env) fp) elt te) (hs : ∀ x, foldedSetIterable iter X.env x = pure x := by intro _; rfl) :
    PE X (.ListComp elt [⟨tg, iter, ifs, 0⟩] scope pos) (gLcG wi g tt te (own.map (·.2))) :=
  PEi (pe_lc hc hN (PIm hi) ok hg (fun s H C cl fp => PTsm (ht s H C cl fp)) (fun s H C cl fp => PEm (he s H C cl fp)) hs) fun σ H Q q => ⟨_, fun J H1 r => by
    unfold CompG at r
    exact r, q⟩
end
section
variable {J : It} {n : Nat} {Gd : Hp → Prop} {Y : Nat → V → Prop} {g : TG} {tt : TT} {te : TE} {vs : List Nat} {σ : L2.St} {Q : VK} {H1 : Hp}
/-- the target's reading is closed upwards -/
def UpG (g : TG) : Prop := ∀ v σ H (Q Q' : L2.St → Hp → Prop), (∀ σ H, Q σ H → Q' σ H) → g v σ H Q → g v σ H Q'
/-- (a, b) as a target -/
def tg2 (K : PySem.W.Frag) (i j : Nat) : TG := gTup K 2 (gCons (gName i) (gCons (gName j) gNil))
theorem tg2_up {K : PySem.W.Frag} {i j : Nat} : UpG (tg2 K i j) := fun v σ H Q Q' h q => by
  obtain ⟨a, xs, e, hs, hl, v1, r1, e1, v2, r2, e2, e3, q⟩ := q
  exact ⟨a, xs, e, hs, hl, v1, r1, e1, v2, r2, e2, e3, h _ _ q⟩
theorem tg2_of {K : PySem.W.Frag} {i j : Nat} {a : Addr} {u v : V} {σ : L2.St} {H : Hp} {Q : L2.St → Hp → Prop} (h : H a = some (.tup [u, v])) (q : Q ((σ.set i (some u)).set j (some v)) H) : tg2 K i j (.ref a) σ H Q :=
  ⟨a, [u, v], rfl, SqT.of h, rfl, u, [v], rfl, v, [], rfl, rfl, q⟩
end
/-! ### dicts -/
section
variable {X : Cx} {o i : Expr} {td ty : TE} {pos : Pos}
def gDGet (td ty : TE) : TE := fun σ H Q => td σ H fun x H1 => ty σ H1 fun y H2 => match x, y with
  | .ref a, .str z => ∃ kvs v, H2 a = some (.dK kvs) ∧ valV kvs (.inr z) = some v ∧ Q v H2
  | _, _ => False
theorem g_dget (hu : X.A.units + 1 < cLine) (ho : PE X o td) (hi : PE X i ty) (hs : NoSl i := by intro _ _; rfl) : PE X (.Subscript o i pos) (gDGet td ty) :=
  PEi (pe_dget hu (PEm ho) (PEm hi) hs) fun σ H Q q => ⟨_, fun x H1 r => ⟨_, fun y H2 r2 => by
    split at r2
    · obtain ⟨kvs, v, h1, h2, q⟩ := r2
      exact ⟨_, v, rfl, .inl ⟨kvs, .inr _, .inl h1, rfl, h2.symm⟩, q⟩
    · exact r2.elim, r⟩, q⟩
def gDNew : TE := fun _ H Q => ∀ p H', H p = none → Same H H' → H' p = some (.dK []) → Q (.ref p) H'
theorem g_dnew : PE X (.Dict [] [] pos) gDNew := PEi pe_dnewK fun σ H Q q => fun p hp => q p _ hp (Sm.new hp) upd_same
def rDSet : V → V → V → Hp → (Hp → Prop) → Prop := fun o i v H Q => match o, i with
  | .ref a, .str z => ∃ kvs, H a = some (.dK kvs) ∧ kvs.length < sizeLine ∧ ∀ H', SameX a H H' → H' a = some (.dK (putK kvs (.inr z) v)) → Q H'
  | _, _ => False
theorem s_dict (hu : X.A.units + 1 < cLine) : PSet X rDSet := fun pins s σ H o i v ov iv u Q I ro ri rv h => by
  unfold rDSet at h
  split at h
  · obtain ⟨kvs, h1, h2, h3⟩ := h
    exact set_dict hu pins s σ H _ _ v ov iv u Q I ro ri rv ⟨_, _, rfl, .inl ⟨kvs, .inr _, h1, rfl, h2, rfl⟩, h3 _ SameX.upd upd_same⟩
  · exact h.elim
end
/-! ### sets of ints, sorted -/
def SetL (w : World) (H : Hp) (D : Addr) (l : List Int) : Prop := ∃ S n, H D = some (SetO w D S n) ∧ (∀ k, S k = true ↔ k ∈ l) ∧ n ≤ l.length
theorem SetL.nil {w : World} {H : Hp} {D : Addr} (h : H D = some (SetO w D (fun _ => false) 0)) : SetL w H D [] := ⟨_, 0, h, fun k => by simp, Nat.le_refl _⟩
def rSortSet (w : World) : List V → Hp → VK → Prop := fun vs H Q => match vs with
  | [.ref a] => ∃ l, SetL w H a l ∧ l.length < 64 ∧ ∀ (ns : List Int) p H', ns.Pairwise (· < ·) → (∀ k, k ∈ ns ↔ k ∈ l) → H p = none → Same H H' → H' p = some (.lst (ns.map V.int)) → Q (.ref p) H'
  | _ => False
theorem c_sortSet {X : Cx} (w : World) (hw : X.w = w) (hc : X.calm = true) : CallR X (.builtin "sorted") (rSortSet w) := by
  subst hw
  exact CallRi (cr_sortedSet hc) fun xs H Q h => by
    unfold rSortSet at h
    split at h
    · obtain ⟨l, ⟨S, n, h1, h2, h3⟩, h4, h5⟩ := h
      exact ⟨_, S, n, rfl, h1, by omega, fun ns p a b c d => h5 ns p _ a (fun k => (b k).trans (h2 k)) d (Sm.new d) upd_same⟩
    · exact h.elim
/-- a clause's loop over something that stays -/
theorem cl_by {J : It} {n : Nat} {Gd : Hp → Prop} {Y : Nat → V → Prop} {g : TG} {tt : TT} {tb : TB} {vs : List Nat} {σ : L2.St} {H1 : Hp} {F : Hp → Prop} (ug : UpG g) (w : Walk J n Gd (fun i H x H' => H' = H ∧ Y i x)) (Pv : Nat → Hp → Prop) (h0 : Pv 0 H1) (hG : ∀ i H, i ≤ n → Pv i H → Gd H)
    (hs : ∀ i x H, i < n → Y i x → Pv i H → g x (wipe σ vs) H fun σ2 H2 => wipe σ2 vs = wipe σ vs ∧ tt σ2 H2 fun b H3 => way b (tb σ2 H3 (Pv (i + 1))) (Pv (i + 1) H3)) (hd : ∀ H, Pv n H → F H) : Cl J g (mcT tt) tb vs σ H1 F := by
  refine ⟨fun i m H => m = n - i ∧ i ≤ n ∧ Pv i H, ⟨n, by simp, Nat.zero_le _, h0⟩, ?_⟩
  rintro i m H ⟨rfl, hi, p⟩
  have gd := hG i H hi p
  by_cases hlt : i < n
  · refine .inr ⟨w.goes i H hlt gd, Pv (i + 1), fun H' p' => ⟨n - (i + 1), by omega, rfl, hlt, p'⟩, fun x H' y => ?_⟩
    obtain ⟨rfl, hy⟩ := w.yields i H x H' hlt gd y
    exact ug _ _ _ _ _ (fun σ2 H2 ⟨q1, q2⟩ => ⟨q1, _, fun b H3 r => by rw [way_eq] at r; exact r, q2⟩) (hs i x _ hlt hy p)
  · have ei : i = n := by omega
    subst ei
    exact .inl ⟨w.stops H gd, hd H p⟩
theorem gName_up {j : Nat} : UpG (gName j) := fun v σ H Q Q' h q => h _ _ q
theorem cl_list {K : PySem.W.Frag} {a : Addr} {xs : List V} {g : TG} {tt : TT} {tb : TB} {vs : List Nat} {σ : L2.St} {H1 : Hp} {F : Hp → Prop} (ug : UpG g) (Pv : Nat → Hp → Prop) (h0 : Pv 0 H1) (hG : ∀ i H, i ≤ xs.length → Pv i H → SqL K H a xs)
    (hs : ∀ i x H, xs[i]? = some x → Pv i H → g x (wipe σ vs) H fun σ2 H2 => wipe σ2 vs = wipe σ vs ∧ tt σ2 H2 fun b H3 => way b (tb σ2 H3 (Pv (i + 1))) (Pv (i + 1) H3)) (hd : ∀ H, Pv xs.length H → F H) : (∃ ys, SqL K H1 a ys) ∧ Cl (Itl K a) g (mcT tt) tb vs σ H1 F :=
  ⟨⟨xs, hG 0 H1 (Nat.zero_le _) h0⟩, cl_by ug walk_list Pv h0 hG (fun i x H _ hx p => hs i x H hx p) hd⟩
end GG
namespace GG
open PySem PySem.Spec L2
theorem k_tg2 {X : Cx} (K : PySem.W.Frag) (h : X.K = K) {a b : Expr} {k : Nat} {pos : Pos} {i j : Nat} (hc : X.calm = true) (h1 : PG X a (gName i)) (h2 : PG X b (gName j)) (hs : (assignEach [a, b] X.env).map (·.2) = assign a X.env :: (assignEach [b] X.env).map (·.2) := by rfl)
    (hs2 : (assignEach [b] X.env).map (·.2) = assign b X.env :: (assignEach [] X.env).map (·.2) := by rfl) (hn : (assignEach [a, b] X.env).length = 2 := by rfl) (hst : (assignEach [a, b] X.env).findIdx? (·.1) = none := by rfl) : PG X (.Tuple [a, b] k pos) (tg2 K i j) := by
  subst h; exact pg_tup hc (pgs_cons h1 (pgs_cons h2 pgs_nil hs2) hs) hn hst
end GG
namespace GG
open PySem PySem.Spec L2
end GG
namespace GG
open PySem PySem.Spec PyProof.Rows L2
end GG
/-! x != x of an own instance whose class has no comparison of its own -/
namespace GG
open PySem PySem.Spec PyProof.Rows L2
/-- a class that compares by identity -/
structure ObjF (K : PySem.W.Frag) (C : Addr) : Prop where
  cl : Cls K C
  hm : PySem.W.mroIn K C (.type "object") = some true
  eq : PySem.W.findIn K (.ref C) "__eq__" = some (some (.builtin "object.__eq__"))
  ne : PySem.W.findIn K (.ref C) "__ne__" = some (some (.builtin "object.__ne__"))
section
variable {prog : Program} {w : World} {A : Around} {E : Value → Shared → Prop} {s : Shared} {K : PySem.W.Frag} {x C : Addr} {ox : Obj} {od : Option Obj}
theorem bound_ne {args : List Value} {Q : Option Value → Shared → Prop} (X : K.In s.heap) (I : PySem.W.InstAt s.heap x ox C od) (hs : PySem.W.findIn K (.ref C) "__ne__" = some (some (.builtin "object.__ne__")))
    (h : wpAny (model prog w) A (call (.builtin "object.__ne__") (.ref x :: args)) (fun v => Q (some v)) E s) : wpAny (model prog w) A (callSpecialIfBound? (.ref x) "__ne__" args) Q E s := by
  simp only [callSpecialIfBound?, bindSpecialIfBound?]
  refine wpAny_holding (wpAny_bind (wpAny_bind (wpAny_bind (I.type.here ((PySem.W.looks_findIn X hs).here (wpAny_bind (wpAny_askSetting (wpAny_ite ?_))))))))
  have go : wpAny (model prog w) A (call (.builtin "object.__ne__") ([.ref x] ++ args) >>= fun v => pure (some v)) Q E s := wpAny_bind (wpAny_mono h (fun v s' h' => wpAny_pure h') fun _ _ z => z)
  split
  · exact wpAny_bind (wpAny_of_eq (F.cmp_object.ne.bind _) (wpAny_pure (show wpAny (model prog w) A _ Q E s from go)))
  · exact wpAny_tryCatch (wpAny_bind (wpAny_of_eq (F.cmp_object.ne.bind _) (wpAny_pure (show wpAny (model prog w) A _ Q _ s from wpAny_mono go (fun _ _ z => z) fun e s' z => by first | exact z | exact wpAny_pure z | exact ⟨_, z⟩))))
end
end GG
/-! x in o, x not in o, o[x] by own special methods -/
namespace GG
open PySem PySem.Spec L2
section
variable {X : Cx} {k : Nat} {C : Addr} {sp : Sp}
/-- x in o -/
def rInO (C : Addr) (sp : Sp) (f : Bool → Bool) : R2 := fun x y H Q => match y with
  | .ref a => ∃ dx fs, H a = some (.ins C dx fs) ∧ sp [.ref a, x] H (fun v H' => ∃ b : Bool, v = .bl b ∧ Q (.bl (f b)) H') E0
  | _ => False
theorem op_inO (c : SpN X.prog X.w X.K X.mg X.base k C "__contains__" sp) (hr : Room k X.A) : OpR X (compareOp .In) (rInO C sp fun b => b) := fun pins s σ H x y u v Q I rx ry h => by
  unfold rInO at h
  split at h
  next a =>
    obtain ⟨dx, fs, ha, h⟩ := h
    obtain ⟨f, fd, ps, h1, h2, F, b⟩ := c.ex
    cases ry
    obtain ⟨mA, O, _⟩ := ins_get I.hok ha
    obtain ⟨od, J, _⟩ := O.look
    obtain ⟨m, hF⟩ := I.fr
    refine PySem.W.in_K hF I.ok.mod.kin J h1 h2 (wpAny_mono (call_at ⟨hr, rfl⟩ F b I (vs := [.ref _, _]) (.cons rfl (.cons rx .nil)) h) (fun r s' hu => ?_) fun _ _ z => z)
    obtain ⟨v', H', I', rv, b', rfl, q⟩ := hu
    obtain rfl : r = Value.bool b' := rv
    exact wpAny_truthy_bool ⟨.bl b', H', I', rfl, q⟩
  next => exact h.elim
theorem op_ninO (c : SpN X.prog X.w X.K X.mg X.base k C "__contains__" sp) (hr : Room k X.A) : OpR X (compareOp .NotIn) (rInO C sp fun b => !b) := fun pins s σ H x y u v Q I rx ry h => by
  unfold rInO at h
  split at h
  next a =>
    obtain ⟨dx, fs, ha, h⟩ := h
    obtain ⟨f, fd, ps, h1, h2, F, b⟩ := c.ex
    cases ry
    obtain ⟨mA, O, _⟩ := ins_get I.hok ha
    obtain ⟨od, J, _⟩ := O.look
    obtain ⟨m, hF⟩ := I.fr
    refine PySem.W.notIn_K hF I.ok.mod.kin J h1 h2 (wpAny_mono (call_at ⟨hr, rfl⟩ F b I (vs := [.ref _, _]) (.cons rfl (.cons rx .nil)) h) (fun r s' hu => ?_) fun _ _ z => z)
    obtain ⟨v', H', I', rv, b', rfl, q⟩ := hu
    obtain rfl : r = Value.bool b' := rv
    exact wpAny_truthy_bool ⟨.bl (!b'), H', I', rfl, q⟩
  next => exact h.elim
/-- o[x], as an operation -/
def rGetO (C : Addr) (sp : Sp) : R2 := fun x y H Q => match x with
  | .ref a => ∃ dx fs, H a = some (.ins C dx fs) ∧ sp [.ref a, y] H Q E0
  | _ => False
end
end GG
namespace GG
open PySem PySem.Spec L2 PyProof.Rows
section
variable {X : Cx} {k : Nat} {C : Addr} {sp : Sp} {o i : Expr} {to ti : TE} {pos : Pos}
/-- o[x] by own __getitem__ -/
def gGetO (C : Addr) (sp : Sp) (to ti : TE) : TE := fun σ H Q => to σ H fun x H1 => ti σ H1 fun y H2 => rGetO C sp x y H2 Q
theorem g_getO (c : SpN X.prog X.w X.K X.mg X.base k C "__getitem__" sp) (hf : ∀ f, PySem.W.findIn X.K (.ref C) "__getitem__" = some (some (.ref f)) → PySem.W.fnIn X.K f = true) (hr : Room (k + 1) X.A) (ho : PE X o to) (hi : PE X i ti)
    (hs : ∀ ov iv, subscripted i true ov iv = runValue (.builtin "lifetime.subscript" ⟨[ov, iv], []⟩) := by intro _ _; rfl) : PE X (.Subscript o i pos) (gGetO C sp to ti) := by
  refine ⟨fun pins s σ H Q I h => ?_⟩
  refine Subscript_ (thn (ho.run pins s σ H _ I h) fun v s1 ⟨x, H1, I1, r1, q1⟩ => thn (hi.run pins s1 σ H1 _ I1 q1) fun u s2 ⟨y, H2, I2, r2, q2⟩ => ?_)
  unfold rGetO at q2
  split at q2
  next a =>
    obtain ⟨dx, fs, ha, q⟩ := q2
    obtain ⟨f, fd, ps, h1, h2, F, b⟩ := c.ex
    cases r1
    obtain ⟨mA, O, _⟩ := ins_get I2.hok ha
    obtain ⟨od, J, _⟩ := O.look
    obtain ⟨m, hF⟩ := I2.fr
    exact PySem.W.sub_K hF I2.ok.mod.kin J h1 (hf f h1) h2 (call_at ⟨hr.in1, rfl⟩ F b I2 (vs := [.ref _, _]) (.cons rfl (.cons r2 .nil)) q) (hs _ _)
  next => exact q2.elim
end
end GG
namespace GG
open PySem PySem.Spec L2
section
variable {X : Cx} {k : Nat} {C : Addr} {sp : Sp}
/-- o[x] = y by own __setitem__ -/
def rPutO (C : Addr) (sp : Sp) : V → V → V → Hp → (Hp → Prop) → Prop := fun o i v H Q => match o with
  | .ref a => ∃ dx fs, H a = some (.ins C dx fs) ∧ sp [.ref a, i, v] H (fun _ H' => Q H') E0
  | _ => False
theorem s_putO (c : SpN X.prog X.w X.K X.mg X.base k C "__setitem__" sp) (hq : PySem.W.noSeq X.K C = true) (hr : Room k X.A) : PSet X (rPutO C sp) := fun pins s σ H o i v ov iv u Q I ro ri rv h => by
  unfold rPutO at h
  split at h
  next a =>
    obtain ⟨dx, fs, ha, h⟩ := h
    obtain ⟨f, fd, ps, h1, h2, F, b⟩ := c.ex
    cases ro
    obtain ⟨mA, O, _⟩ := ins_get I.hok ha
    obtain ⟨od, J, _⟩ := O.look
    obtain ⟨m, hF⟩ := I.fr
    refine PySem.W.ksp_setItem hF I.ok.mod.kin J hq h1 h2 (wpAny_mono (call_at (Q := fun _ H' => Q H') ⟨hr, rfl⟩ F b I (vs := [.ref _, _, _]) (.cons rfl (.cons ri (.cons rv .nil))) h) (fun r s' hu => ?_) fun _ _ z => z)
    obtain ⟨v', H', I', rv', q⟩ := hu
    exact ⟨H', I', q⟩
  next => exact h.elim
end
end GG
/-! dicts: in, comprehensions, items; lists of pairs, sorted; == and != by own __eq__; x += e; xs.pop() -/
namespace GG
open PySem PySem.Spec L2
section
variable {X : Cx}
/-! ### one rule or the other -/
theorem OpRor {f : Value → Value → Sem Value} {r r' : R2} (h : OpR X f r) (h' : OpR X f r') : OpR X f (fun x y H Q => r x y H Q ∨ r' x y H Q) := fun pins s σ H x y u v Q I rx ry q =>
  q.elim (h pins s σ H x y u v Q I rx ry) (h' pins s σ H x y u v Q I rx ry)
/-! ### x in d -/
def rDIn (f : Bool → Bool) : R2 := fun x y H Q => match x, y with
  | .str z, .ref a => ∃ kvs, H a = some (.dK kvs) ∧ Q (.bl (f (valV kvs (.inr z)).isSome)) H
  | _, _ => False
theorem k_din (hu : X.A.units + 1 < cLine) : OpR X (compareOp .In) (rDIn fun b => b) := fun pins s σ H x y u v Q I rx ry h => by
  unfold rDIn at h
  split at h
  next z a =>
    obtain ⟨kvs, h1, q⟩ := h
    cases ry
    exact d_in hu I (DGet.k (k := .inr z) h1) rx fun s3 I3 => ⟨.bl _, H, I3, rfl, q⟩
  next => exact h.elim
theorem k_ndin (hu : X.A.units + 1 < cLine) : OpR X (compareOp .NotIn) (rDIn fun b => !b) := fun pins s σ H x y u v Q I rx ry h => by
  unfold rDIn at h
  split at h
  next z a =>
    obtain ⟨kvs, h1, q⟩ := h
    cases ry
    exact d_notIn hu I (DGet.k (k := .inr z) h1) rx fun s3 I3 => ⟨.bl _, H, I3, rfl, q⟩
  next => exact h.elim
/-! ### x += e -/
def gAug (i : Nat) (te : TE) : TS := fun D σ H => match σ[i]? with
  | some (some (.int a)) => te σ H fun y H1 => match y with
    | .int b => D.nx (σ.set i (some (.int (a + b)))) H1
    | _ => False
  | _ => False
theorem g_aug {i : Nat} {x : Str} {e : Expr} {te : TE} {pos pos' : Pos} (hN : X.N.Nodup) (hi : X.N[i]? = some x) (hx : Loc X.env.scope x) (he : PE X e te) (hf : X.fn x = true ∨ X.env.scope.names.lookup x = some .local := by first | exact .inl rfl | exact .inr rfl | assumption) :
    PS X (.AugAssign (.Name x pos') .Add e pos) (gAug i te) :=
  PSi (ps_aug hN hi hx (PEm he) ip_add hf) fun D σ H q => by
    unfold gAug at q
    split at q
    next a e0 =>
      refine ⟨_, e0, _, fun y H1 r => ?_, q⟩
      split at r
      next b => exact ⟨_, _, rfl, rfl, r⟩
      next => exact r.elim
    next => exact q.elim
/-! ### xs.pop() -/
/-! ### == and != by own __eq__ -/
structure OwnNe (K : PySem.W.Frag) (C : Addr) : Prop where
  hm : PySem.W.mroIn K C (.type "object") = some true
  ne : PySem.W.findIn K (.ref C) "__ne__" = some (some (.builtin "object.__ne__"))
def rEqO (C : Addr) (sp : Sp) (f : Bool → Bool) : R2 := fun x y H Q => match x, y with
  | .ref a, .ref b => ∃ dx fs dy gs, H a = some (.ins C dx fs) ∧ H b = some (.ins C dy gs) ∧ sp [.ref a, .ref b] H (fun v H' => ∃ c : Bool, v = .bl c ∧ Q (.bl (f c)) H') E0
  | _, _ => False
theorem op_eqO {k : Nat} {C : Addr} {sp : Sp} (c : SpN X.prog X.w X.K X.mg X.base k C "__eq__" sp) (hr : Room k X.A) : OpR X (compareOp .Eq) (rEqO C sp fun b => b) := fun pins s σ H x y u v Q I rx ry h => by
  unfold rEqO at h
  split at h
  next a b =>
    obtain ⟨dx, fs, dy, gs, ha, hb, h⟩ := h
    obtain ⟨f, fd, ps, h1, h2, F, bd⟩ := c.ex
    cases rx; cases ry
    obtain ⟨mA, J, _⟩ := ins_get I.hok ha
    obtain ⟨mB, J', _⟩ := ins_get I.hok hb
    obtain ⟨od, J, _⟩ := J.look
    obtain ⟨od', J', _⟩ := J'.look
    obtain ⟨m, hF⟩ := I.fr
    show wpAny (model X.prog X.w) X.A (richCompare .Eq (.ref a) (.ref b)) (EP X pins σ Q) X.xe s
    refine PySem.W.cmp_K (op := .Eq) (tb := .ref C) hr.units0 hF I.ok.mod.kin J J'.type (by simp [PySem.W.notFirst]) h1 h2 ?_
    refine wpAny_mono (call_at ⟨hr, rfl⟩ F bd I (vs := [.ref _, .ref _]) (.cons rfl (.cons rfl .nil)) h) (fun r s' hu => ?_) fun _ _ z => z
    obtain ⟨v', H', I', rv, b', rfl, q⟩ := hu
    obtain rfl : r = Value.bool b' := rv
    exact ⟨.bl b', H', I', rfl, q⟩
  next => exact h.elim
end
section
variable {prog : Program} {w : World} {A : Around} {E : Value → Shared → Prop} {s : Shared} {K : PySem.W.Frag} {x C f : Addr} {ox : Obj} {od : Option Obj} {b : Value}
open PyProof.Rows
theorem entry_neO (hu : A.units < cLine) (X : K.In s.heap) (I : PySem.W.InstAt s.heap x ox C od) (hs : PySem.W.findIn K (.ref C) "__eq__" = some (some (.ref f))) (hf : PySem.W.isFn K (.ref f) = true) {Q : PySem.Fin → Shared → Prop} {E : Value → Shared → Prop}
    (h : wpAny (model prog w) A (call (.ref f) [.ref x, b]) (fun v s' => ∃ c : Bool, v = .bool c ∧ Q (.done (.ret (.bool (!c)))) s') E s) : wpAny (model prog w) A (Builtin.«object.__ne__» ⟨[.ref x, b], []⟩) Q E s := by
  unfold Builtin.«object.__ne__»
  repeat (first | with_reducible refine wpAny_cRoomFor hu ?_ | with_reducible refine PySem.W.ifBound_K X I hs hf (wpAny_mono h (fun v s' hv => ?_) fun _ _ z => z) | wp_step)
  obtain ⟨c, rfl, q⟩ := hv
  repeat (first | with_reducible exact q | wp_step)
theorem rcne_own (hu : A.units + 1 < cLine) (X : K.In s.heap) (I : PySem.W.InstAt s.heap x ox C od) {bt : Addr} (hb : PySem.W.Looks (model prog w) s.heap (typeOf b) (.ref C)) (o : OwnNe K C) (hs : PySem.W.findIn K (.ref C) "__eq__" = some (some (.ref f))) (hf : PySem.W.isFn K (.ref f) = true) {Q : Value → Shared → Prop}
    (h : wpAny (model prog w) A.in1 (call (.ref f) [.ref x, b]) (fun v s' => ∃ c : Bool, v = .bool c ∧ Q (.bool (!c)) s') E s) : wpAny (model prog w) A (richCompare .NotEq (.ref x) b) Q E s := by
  have one : wpAny (model prog w) A (tryCompare (.ref x) "__ne__" b) (fun r s' => ∃ c : Bool, r = some (.bool c) ∧ Q (.bool c) s') E s := by
    unfold tryCompare
    refine wpAny_bind (bound_ne X I o.ne (wpAny_call (codeAny_call_builtin F.cmp_object.ne.plain F.cmpEntry_ne (PySem.W.check_slot F.cmpKind_ne F.cmpSplit_ne (I.type.andThen (PySem.W.looks_mroIn X o.hm)) (F.cmpArgs_ne _ _) (entry_neO (A := A.in1) (by show A.units + 1 < cLine; exact hu) X I hs hf (wpAny_mono h (fun v s' ⟨c, e, q⟩ => ⟨c, e, wpAny_pure ⟨!c, rfl, q⟩⟩) fun _ _ z => z))))))
  unfold richCompare
  simp only [oneThing_ref, cmpInfo_NotEq]
  refine wpAny_holding (wpAny_bind (wpAny_cRoomFor (Nat.lt_of_succ_lt hu) (wpAny_bind (I.type.here (wpAny_bind (hb.here ?_))))))
  rw [if_neg (by simp)]
  refine wpAny_bind (wpAny_pure ?_)
  simp only [Bool.false_eq_true, if_false]
  refine wpAny_bind (wpAny_mono one (fun r s' ⟨c, z1, z2⟩ => ?_) fun _ _ z => z)
  subst z1
  exact wpAny_pure z2
end
section
variable {X : Cx}
theorem op_neO {k : Nat} {C : Addr} {sp : Sp} (c : SpN X.prog X.w X.K X.mg X.base k C "__eq__" sp) (o : OwnNe X.K C) (hr : Room (k + 1) X.A) : OpR X (compareOp .NotEq) (rEqO C sp fun b => !b) := fun pins s σ H x y u v Q I rx ry h => by
  unfold rEqO at h
  split at h
  next a b =>
    obtain ⟨dx, fs, dy, gs, ha, hb, h⟩ := h
    obtain ⟨f, fd, ps, h1, h2, F, bd⟩ := c.ex
    cases rx; cases ry
    obtain ⟨mA, J, _⟩ := ins_get I.hok ha
    obtain ⟨mB, J', _⟩ := ins_get I.hok hb
    obtain ⟨od, J, _⟩ := J.look
    obtain ⟨od', J', _⟩ := J'.look
    obtain ⟨m, hF⟩ := I.fr
    show wpAny (model X.prog X.w) X.A (richCompare .NotEq (.ref a) (.ref b)) (EP X pins σ Q) X.xe s
    refine rcne_own (bt := C) (Nat.lt_of_le_of_lt (Nat.add_le_add_left (by decide : 1 ≤ 64) _) hr.units) (I.ok.mod.kin.keeps hF.keep) J J'.type o h1 h2 ?_
    refine wpAny_mono (call_at ⟨hr.in1, rfl⟩ F bd I (vs := [.ref _, .ref _]) (.cons rfl (.cons rfl .nil)) h) (fun r s' hu => ?_) fun _ _ z => z
    obtain ⟨v', H', I', rv, b', rfl, q⟩ := hu
    obtain rfl : r = Value.bool b' := rv
    exact ⟨b', rfl, .bl (!b'), H', I', rfl, q⟩
  next => exact h.elim
end
end GG
/-! dict comprehensions; walks over d.items() -/
namespace GG
open PySem PySem.Spec L2
theorem putK_le {κ : Type} [DecidableEq κ] (kvs : List (κ × V)) (k : κ) (v : V) : (putK kvs k v).length ≤ kvs.length + 1 := by
  unfold putK
  split
  · rw [List.length_map]; omega
  · rw [List.length_append]; simp
/-! ### walks that make things -/
/-- F stays while the heap grows -/
def Stays {α : Type} (F : Nat → α → Hp → Prop) : Prop := ∀ i acc G G', Same G G' → F i acc G → F i acc G'
abbrev WalkS (J : It) (n : Nat) (Gd : Hp → Prop) (Y : Nat → V → Hp → Prop) : Prop := Walk J n Gd (fun i H x H' => Same H H' ∧ Y i x H')
theorem walkS_of {J : It} {n : Nat} {Gd : Hp → Prop} {Y : Nat → V → Prop} (w : Walk J n Gd (fun i H x H' => H' = H ∧ Y i x)) : WalkS J n Gd (fun i x _ => Y i x) :=
  w.mono (fun _ h => h) fun i H x H' _ _ y => by obtain ⟨rfl, y⟩ := y; exact ⟨Same.refl _, y⟩
/-- d.items(): a new pair each turn -/
def YIt (kvs : List (Key × V)) : Nat → V → Hp → Prop := fun i x H' => ∃ T k v, kvs[i]? = some (k, v) ∧ x = .ref T ∧ H' T = some (.tup [kV k, v])
theorem walkS_items {d : Addr} {o : Obj} {kvs : List (Key × V)} : WalkS (Iti d o kvs) kvs.length (fun H => H d = some (.frz o (.dK kvs))) (YIt kvs) :=
  walk_items.mono (fun _ h => h) fun i H x H' hi _ y => by
    obtain ⟨T, a, b, rfl, f, rfl, h1, h2⟩ := y
    dsimp only at h1 h2
    rw [List.getElem?_eq_getElem hi] at h1 h2
    simp at h1 h2
    subst h1; subst h2
    exact ⟨Sm.new f, T, _, _, List.getElem?_eq_getElem hi, rfl, upd_same⟩
/-! ### dict comprehensions -/
@[irreducible] def DcG (J : It) (g : TG) (tt : TT) (tk tv : TE) (vs : List Nat) (σ : L2.St) (Q : VK) (H1 : Hp) : Prop := ∀ D, H1 D = none → ∃ W : Nat → Nat → Hp → Prop, (∃ m, W 0 m (upd H1 D (.dK []))) ∧ ∀ i m H, W i m H →
  (J.stop i H ∧ Q (.ref D) H) ∨ (J.go i H ∧ ∃ Nx : Hp → Prop, (∀ H', Nx H' → ∃ m', m' < m ∧ W (i + 1) m' H') ∧ ∀ x H', J.yld i H x H' → g x (wipe σ vs) H' fun σ2 H2 => wipe σ2 vs = wipe σ vs ∧ tt σ2 H2 fun b H3 =>
    if b = true then tk σ2 H3 fun y H4 => tv σ2 H4 fun z H5 => ∃ kvs k, y = kV k ∧ H5 D = some (.dK kvs) ∧ kvs.length < sizeLine ∧ Nx (upd H5 D (.dK (putK kvs k z))) else Nx H3)
def gDc (wi : TI) (g : TG) (tt : TT) (tk tv : TE) (vs : List Nat) : TE := fun σ H Q => wi σ H fun J H1 => DcG J g (mcT tt) (mcE tk) (mcE tv) vs σ Q H1
section
variable {X : Cx} {kx vx tg iter : Expr} {ifs : List Expr} {scope : Scope} {own : List (Str × Nat)} {pos : Pos} {wi : TI} {g : TG} {tt : TT} {tk tv : TE}
theorem g_dc (hc : X.calm = true) (hN : X.N.Nodup) (hi : PI X tg iter wi) (ok : BlkOk X.N X.env.scope scope own)
    (hg : ∀ (s : Shared) (H : Hp) (C : Addr) (cl : List (Str × Addr)) (fp : List Addr), PG (X.blk s H scope (compEnvC scope cl C X.env) fp) tg g) (ht : ∀ (s : Shared) (H : Hp) (C : Addr) (cl : List (Str × Addr)) (fp : List Addr), PTs (X.blk s H scope (compEnvC scope cl C X.env) fp) ifs tt)
    (hk : ∀ (s : Shared) (H : Hp) (C : Addr) (cl : List (Str × Addr)) (fp : List Addr), PE (X.blk s H scope (compEnvC scope cl C X.env) fp) kx tk)
    (he : ∀ (s : Shared) (H : Hp) (C : Addr) (cl : List (Str × Addr)) (fp : List Addr), PE (X.blk s H scope (compEnvC scope cl C X.env) fp) vx tv) (hs : ∀ x, foldedSetIterable iter X.env x = pure x := by intro _; rfl) :
    PE X (.DictComp kx vx [⟨tg, iter, ifs, 0⟩] scope pos) (gDc wi g tt tk tv (own.map (·.2))) :=
  PEi (pe_dc hc hN (PIm hi) ok hg (fun s H C cl fp => PTsm (ht s H C cl fp)) (fun s H C cl fp => PEm (hk s H C cl fp)) (fun s H C cl fp => PEm (he s H C cl fp)) hs) fun σ H Q q => ⟨_, fun J H1 r => by
    unfold DcG at r
    exact r, q⟩
end
section
variable {J : It} {n : Nat} {Gd : Hp → Prop} {Y : Nat → V → Hp → Prop} {g : TG} {tt : TT} {te tk tv : TE} {vs : List Nat} {σ : L2.St} {Q : VK} {H1 : Hp}
theorem dcG_by (ug : UpG g) (w : WalkS J n Gd Y) (F : Nat → List (Key × V) → Hp → Prop) (hF : Stays F) (hn : n < sizeLine) (h0 : F 0 [] H1) (hG : ∀ i acc H G, i ≤ n → F i acc G → Same G H → Gd H)
    (hs : ∀ D i x acc H', i < n → Y i x H' → H1 D = none → H' D = some (.dK acc) → acc.length ≤ i → F i acc (off D H') → g x (wipe σ vs) H' fun σ2 H2 => wipe σ2 vs = wipe σ vs ∧
      tt σ2 H2 fun b H3 => way b (tk σ2 H3 fun y H4 => tv σ2 H4 fun z H5 => match y with
        | .str k => H5 D = some (.dK acc) ∧ F (i + 1) (putK acc (.inr k) z) (off D H5)
        | _ => False) (H3 D = some (.dK acc) ∧ F (i + 1) acc (off D H3)))
    (hd : ∀ D H' acc, H1 D = none → H' D = some (.dK acc) → acc.length ≤ n → F n acc (off D H') → Q (.ref D) H') : DcG J g (mcT tt) (mcE tk) (mcE tv) vs σ Q H1 := by
  unfold DcG
  intro D hD
  refine ⟨fun i m H => m = n - i ∧ i ≤ n ∧ ∃ acc, H D = some (.dK acc) ∧ acc.length ≤ i ∧ F i acc (off D H), ⟨n, by simp, Nat.zero_le _, [], upd_same, Nat.le_refl _, by rw [off_upd, off_free hD]; exact h0⟩, ?_⟩
  rintro i m H ⟨rfl, hi, acc, e, l, f⟩
  have gd := hG i acc H _ hi f off_same
  by_cases hlt : i < n
  · refine .inr ⟨w.goes i H hlt gd, fun H' => ∃ acc, H' D = some (.dK acc) ∧ acc.length ≤ i + 1 ∧ F (i + 1) acc (off D H'), fun H' ⟨acc, e, l, f⟩ => ⟨n - (i + 1), by omega, rfl, hlt, acc, e, l, f⟩, fun x H' y => ?_⟩
    obtain ⟨sm, hy⟩ := w.yields i H x H' hlt gd y
    refine ug _ _ _ _ _ (fun σ2 H2 ⟨q1, q2⟩ => ⟨q1, _, fun b H3 r => ?_, q2⟩) (hs D i x acc _ hlt hy hD (sm _ _ e) l (hF _ _ _ _ (off_mono sm) f))
    rw [way_eq] at r
    split at r
    · rename_i hb
      rw [if_pos hb]
      exact ⟨_, fun y H4 r4 => ⟨_, fun z H5 r5 => by
        split at r5
        · rename_i k
          exact ⟨acc, .inr k, rfl, r5.1, by omega, _, upd_same, Nat.le_trans (putK_le _ _ _) (by omega), by rw [off_upd]; exact r5.2⟩
        · exact r5.elim, r4⟩, r⟩
    · rename_i hb
      rw [if_neg hb]
      exact ⟨acc, r.1, by omega, r.2⟩
  · have ei : i = n := by omega
    subst ei
    exact .inl ⟨w.stops H gd, hd D H acc hD e l f⟩
/-- the same for lists -/
theorem compG_byS (ug : UpG g) (w : WalkS J n Gd Y) (F : Nat → List V → Hp → Prop) (hF : Stays F) (hn : n < sizeLine) (h0 : F 0 [] H1) (hG : ∀ i acc H G, i ≤ n → F i acc G → Same G H → Gd H)
    (hs : ∀ D i x acc H', i < n → Y i x H' → H1 D = none → H' D = some (.lst acc) → acc.length ≤ i → F i acc (off D H') → g x (wipe σ vs) H' fun σ2 H2 => wipe σ2 vs = wipe σ vs ∧
      tt σ2 H2 fun b H3 => way b (te σ2 H3 fun y H4 => H4 D = some (.lst acc) ∧ F (i + 1) (acc ++ [y]) (off D H4)) (H3 D = some (.lst acc) ∧ F (i + 1) acc (off D H3)))
    (hd : ∀ D H' acc, H1 D = none → H' D = some (.lst acc) → acc.length ≤ n → F n acc (off D H') → Q (.ref D) H') : CompG J g (mcT tt) (mcE te) vs σ Q H1 := by
  unfold CompG
  intro D hD
  refine ⟨fun i m H => m = n - i ∧ i ≤ n ∧ ∃ acc, H D = some (.lst acc) ∧ acc.length ≤ i ∧ F i acc (off D H), ⟨n, by simp, Nat.zero_le _, [], upd_same, Nat.le_refl _, by rw [off_upd, off_free hD]; exact h0⟩, ?_⟩
  rintro i m H ⟨rfl, hi, acc, e, l, f⟩
  have gd := hG i acc H _ hi f off_same
  by_cases hlt : i < n
  · refine .inr ⟨w.goes i H hlt gd, fun H' => ∃ acc, H' D = some (.lst acc) ∧ acc.length ≤ i + 1 ∧ F (i + 1) acc (off D H'), fun H' ⟨acc, e, l, f⟩ => ⟨n - (i + 1), by omega, rfl, hlt, acc, e, l, f⟩, fun x H' y => ?_⟩
    obtain ⟨sm, hy⟩ := w.yields i H x H' hlt gd y
    refine ug _ _ _ _ _ (fun σ2 H2 ⟨q1, q2⟩ => ⟨q1, _, fun b H3 r => ?_, q2⟩) (hs D i x acc _ hlt hy hD (sm _ _ e) l (hF _ _ _ _ (off_mono sm) f))
    rw [way_eq] at r
    split at r
    · rename_i hb
      rw [if_pos hb]
      exact ⟨_, fun y H4 ⟨e4, f4⟩ => ⟨acc, e4, by omega, acc ++ [y], upd_same, by rw [List.length_append]; simp; omega, by rw [off_upd]; exact f4⟩, r⟩
    · rename_i hb
      rw [if_neg hb]
      exact ⟨acc, r.1, by omega, r.2⟩
  · have ei : i = n := by omega
    subst ei
    exact .inl ⟨w.stops H gd, hd D H acc hD e l f⟩
end
/-- d.items(), the dict locked -/
def wIt (td : TE) : TI := fun σ H R => td σ H fun x H1 => match x with
  | .ref d => ∃ o kvs, H1 d = some (.frz o (.dK kvs)) ∧ R (Iti d o kvs) H1
  | _ => False
theorem w_items {X : Cx} {e : Expr} {td : TE} {apos cpos : Pos} {elts : List Expr} {kk : Nat} {tpos : Pos} (he : PE X e td) (hbase : attributeBase e "items" X.env (eval e X.env) = eval e X.env := by rfl) (hline : (apos.endLine == cpos.line) = true := by rfl) :
    PI X (.Tuple elts kk tpos) (.Call (.Attribute e "items" apos) [] [] cpos) (wIt td) :=
  PIi (pi_items (PEm he) hbase hline) fun σ H R q => ⟨_, fun x H1 r => by
    split at r
    · obtain ⟨o, kvs, h1, h2⟩ := r
      exact ⟨_, o, kvs, rfl, h1, h2⟩
    · exact r.elim, q⟩
theorem unlock_same {d : Addr} {od : Obj} {u : HO} {H H' : Hp} (hd : H d = some u) (s : Same (upd H d (.frz od u)) H') : Same H (upd H' d u) := fun b o e => by
  by_cases c : b = d
  · subst c; rw [upd_same]; rw [hd] at e; exact e
  · rw [upd_ne c]; exact s b o (by rw [upd_ne c]; exact e)
/-! ### lists of pairs (text, int) -/
def PL (H : Hp) : List (Str × Int) → List V → Prop
  | [], vs => vs = []
  | p :: ps, vs => ∃ q r, vs = .ref q :: r ∧ H q = some (.tup [.str p.1, .int p.2]) ∧ PL H ps r
theorem PL.mono {H H' : Hp} (s : Same H H') : ∀ {ps : List (Str × Int)} {vs : List V}, PL H ps vs → PL H' ps vs
  | [], vs, h => h
  | p :: ps, vs, ⟨q, r, e, h1, h2⟩ => ⟨q, r, e, s _ _ h1, PL.mono s h2⟩
theorem PL.length {H : Hp} : ∀ {ps : List (Str × Int)} {vs : List V}, PL H ps vs → vs.length = ps.length
  | [], vs, h => by subst h; rfl
  | p :: ps, vs, ⟨q, r, e, _, h⟩ => by subst e; simp [PL.length h]
theorem PL.at_ {H : Hp} : ∀ {ps : List (Str × Int)} {vs : List V} {i : Nat} {v : V}, PL H ps vs → vs[i]? = some v → ∃ p q, ps[i]? = some p ∧ v = .ref q ∧ H q = some (.tup [.str p.1, .int p.2])
  | [], vs, i, v, h, e => by subst h; simp at e
  | p :: ps, vs, 0, v, ⟨q, r, u, h1, h2⟩, e => by subst u; simp at e; subst e; exact ⟨p, q, rfl, rfl, h1⟩
  | p :: ps, vs, i + 1, v, ⟨q, r, u, h1, h2⟩, e => by
    subst u
    obtain ⟨p', q', h3, h4⟩ := PL.at_ (i := i) h2 (by simpa using e)
    exact ⟨p', q', by simpa using h3, h4⟩
theorem PL.app {H : Hp} : ∀ {ps : List (Str × Int)} {vs : List V} {rs : List (Str × Int)} {ws : List V}, PL H ps vs → PL H rs ws → PL H (ps ++ rs) (vs ++ ws)
  | [], vs, rs, ws, h, h' => by subst h; exact h'
  | p :: ps, vs, rs, ws, ⟨q, r, e, h1, h2⟩, h' => by subst e; exact ⟨q, r ++ ws, rfl, h1, PL.app h2 h'⟩
theorem PL.one {H : Hp} {q : Addr} {z : Str} {c : Int} (h : H q = some (.tup [.str z, .int c])) : PL H [(z, c)] [.ref q] := ⟨q, [], rfl, h, rfl⟩
theorem PL.refs {H : Hp} : ∀ {ps : List (Str × Int)} {vs : List V}, PL H ps vs → ∃ qs : List Addr, vs = qs.map V.ref ∧ qs.length = ps.length ∧ ∀ b ∈ qs.zip ps, H b.1 = some (.tup [.str b.2.1, .int b.2.2])
  | [], vs, h => ⟨[], h, rfl, fun b hb => by simp at hb⟩
  | p :: ps, vs, ⟨q, r, e, h1, h2⟩ => by
    obtain ⟨qs, a, b, c⟩ := PL.refs h2
    refine ⟨q :: qs, by rw [e, a]; rfl, by rw [List.length_cons, List.length_cons, b], fun x hx => ?_⟩
    rcases List.mem_cons.mp (show x ∈ (q, p) :: qs.zip ps from hx) with z | z
    · subst z; exact h1
    · exact c x z
theorem PL.ofRefs {H : Hp} : ∀ {bs : List (Addr × Str × Int)}, (∀ b ∈ bs, H b.1 = some (.tup [.str b.2.1, .int b.2.2])) → PL H (bs.map (·.2)) (bs.map fun b => V.ref b.1)
  | [], _ => rfl
  | b :: bs, h => ⟨b.1, _, rfl, h b (List.mem_cons_self ..), PL.ofRefs fun x hx => h x (List.mem_cons_of_mem _ hx)⟩
def pLe (p q : Str × Int) : Bool := decide (p.1.cps.toList ≤ q.1.cps.toList)
end GG
/-! sorted of lists of pairs (text, int), the texts different -/
namespace GG
open PySem PySem.Spec L2
open PySem.W (EachIs)
def encP (b : Addr × Str × Int) : PyData := .tuple [.str b.2.1, .int b.2.2]
theorem leP_eq {a b : Addr × Str × Int} (h : a.2.1 = b.2.1 → a.2 = b.2) : PySem.W.dataLe false encP a b = pLe a.2 b.2 := by
  show (!PySem.W.dataLt (.tuple [.str b.2.1, .int b.2.2]) (.tuple [.str a.2.1, .int a.2.2])) = decide (a.2.1.cps.toList ≤ b.2.1.cps.toList)
  rw [PySem.W.dataLt_pair (by simp [PySem.W.alike]) (by simp [PySem.W.alike]), PySem.W.dataLt_str, PySem.W.dataLt_int]
  simp only [PyData.eqv, beq_iff_eq]
  by_cases c : b.2.1 = a.2.1
  · have e := h c.symm
    rw [if_pos c, if_pos (by rw [e]), c]
    simp
  · rw [if_neg c, PySem.W.not_lt_str]
theorem each_zip {H : Hp} : ∀ {qs : List Addr} {ps : List (Str × Int)}, qs.length = ps.length → (∀ b ∈ qs.zip ps, H b.1 = some (.tup [.str b.2.1, .int b.2.2])) →
    EachIs (fun (v : Value) (b : Addr × Str × Int) => v = .ref b.1 ∧ H b.1 = some (.tup [.str b.2.1, .int b.2.2])) (qs.map Value.ref) (qs.zip ps)
  | [], [], _, _ => .nil
  | [], _ :: _, h, _ => by simp at h
  | _ :: _, [], h, _ => by simp at h
  | q :: qs, p :: ps, h, k => .cons ⟨rfl, k (q, p) (List.mem_cons_self ..)⟩ (each_zip (by simpa using h) fun b hb => k b (List.mem_cons_of_mem _ hb))
theorem each_out {H : Hp} : ∀ {out : List Value} {bs : List (Addr × Str × Int)}, EachIs (fun (v : Value) (b : Addr × Str × Int) => v = .ref b.1 ∧ H b.1 = some (.tup [.str b.2.1, .int b.2.2])) out bs → Vals (bs.map fun b => V.ref b.1) out ∧ ∀ b ∈ bs, H b.1 = some (.tup [.str b.2.1, .int b.2.2])
  | _, _, .nil => ⟨.nil, fun b h => by simp at h⟩
  | _, _, .cons ⟨e, h⟩ t => by
    subst e
    obtain ⟨a, b⟩ := each_out t
    exact ⟨.cons rfl a, fun x hx => by
      rcases List.mem_cons.mp hx with z | z
      · subst z; exact h
      · exact b x z⟩
def rSortP (K : PySem.W.Frag) : List V → Hp → VK → Prop := fun vs H Q => match vs with
  | [.ref a] => ∃ xs ps, SqL K H a xs ∧ PL H ps xs ∧ (ps.map (·.1)).Nodup ∧ ∀ ys p H', H p = none → Same H H' → H' p = some (.lst ys) → PL H' (ps.mergeSort pLe) ys → Q (.ref p) H'
  | _ => False
theorem nd_fst {ps : List (Str × Int)} (nd : (ps.map (·.1)).Nodup) {a b : Str × Int} (ha : a ∈ ps) (hb : b ∈ ps) (e : a.1 = b.1) : a = b := by
  induction ps with
  | nil => simp at ha
  | cons p ps ih =>
    rw [List.map_cons, List.nodup_cons] at nd
    rcases List.mem_cons.mp ha with x | x <;> rcases List.mem_cons.mp hb with y | y
    · rw [x, y]
    · subst x; exact absurd (List.mem_map.mpr ⟨b, y, e.symm⟩) nd.1
    · subst y; exact absurd (List.mem_map.mpr ⟨a, x, e⟩) nd.1
    · exact ih nd.2 x y
theorem c_sortP {X : Cx} (hu : X.A.units + 64 < cLine) : CallR X (.builtin "sorted") (rSortP X.K) := fun pins s σ H xs us Q I r h => by
  unfold rSortP at h
  split at h
  next a =>
    obtain ⟨xs, ps, hs, pl, nd, q⟩ := h
    obtain ⟨its, rv, hl, hz⟩ := I.list hs
    cases r with
    | cons r0 rs =>
      cases rs
      cases r0
      obtain ⟨qs, rfl, lq, hq⟩ := pl.refs
      have e1 : its = qs.map Value.ref := by
        have key : ∀ {qs : List Addr} {its : List Value}, Vals (qs.map V.ref) its → its = qs.map Value.ref := by
          intro qs
          induction qs with
          | nil => intro its r; cases r; rfl
          | cons q qs ih => intro its r; cases r with
            | cons r1 r2 => rw [ih r2, r1]; rfl
        exact key rv
      subst e1
      have L : (qs.zip ps).length = ps.length := by rw [List.length_zip]; omega
      have eR := each_zip lq hq
      have eD : EachIs (fun (v : Value) (b : Addr × Str × Int) => ∃ as, Reads s.heap v (encP b) as) (qs.map Value.ref) (qs.zip ps) := eR.mono fun v b ⟨e, hb⟩ => by
        subst e
        obtain ⟨_, its2, r2, o, ho, hc, n, hd⟩ := I.hok _ _ hb
        obtain ⟨u1, u2, rfl, ri, rj⟩ := vals2 r2
        obtain ⟨t1, rfl⟩ := ri
        obtain ⟨t2, rfl⟩ := rj
        exact ⟨_, .tuple ho hc hd (.cons (.str _ _) (.cons (.int _ _) .nil))⟩
      have dep : ∀ b, PyData.depth (encP b) ≤ 2 := fun b => by simp only [encP, PyData.depth, PyData.depthAll]; omega
      refine PySem.W.sorted_data (enc := encP) hl.isList eR eD (PySem.W.AllAlike.of fun b b' => by simp [encP, PySem.W.alike, PySem.W.alikeAll]) (PySem.W.Sortable.tuples fun b => ⟨_, _, rfl⟩) (by rw [L, ← lq]; simpa using hz) (fun b _ => by have := dep b; omega) fun out ho eo => ?_
      obtain ⟨vo, mo⟩ := each_out eo
      obtain ⟨c, hc⟩ := PyProof.Rows.sortedAll_at s.heap (qs.map Value.ref) out.toArray
      have fr : H (s.heap.objs.size + 1) = none := I.hok.fresh (Nat.le_succ _)
      have eS : ((qs.zip ps).mergeSort (PySem.W.dataLe false encP)).map (·.2) = ps.mergeSort pLe := by
        have z := PySem.W.sort_maps (r := PySem.W.dataLe false encP) (s := pLe) (·.2) (l := qs.zip ps) fun a ha b hb => leP_eq fun e => nd_fst nd (List.of_mem_zip ha).2 (List.of_mem_zip hb).2 e
        rw [z]
        congr 1
        exact List.map_snd_zip (by omega)
      have pl2 := PL.ofRefs mo
      rw [eS] at pl2
      refine ⟨.ref _, upd H (s.heap.objs.size + 1) (.lst (((qs.zip ps).mergeSort (PySem.W.dataLe false encP)).map fun b => V.ref b.1)), I.laid (t' := s.toks) (fun b o e => PyProof.Rows.sortedAll_old e) (Nat.le_succ _) ⟨?_, out, c, vo, hc⟩, rfl, q _ _ _ fr (Sm.new fr) upd_same (pl2.mono (Sm.new fr))⟩
      rw [List.length_map, List.length_mergeSort, L, ← lq]
      simpa using hz
  next => exact h.elim
theorem k_sortP {X : Cx} (K : PySem.W.Frag) (h : X.K = K) (hu : X.A.units + 64 < cLine) : CallR X (.builtin "sorted") (rSortP K) := by subst h; exact c_sortP hu
end GG
/-! defs with defaults -/
namespace GG
open PySem PySem.Spec L2
open PyProof.Rows (envOfC)
def FnFd (K : PySem.W.Frag) (mg : Str → Option Value) (x : Str) (st : Stmt) (ps : List Str) (dvs : List V) : Prop :=
  ∃ (f : Addr) (fd : FuncData), FunD K x x (defArgs st) (defBody st) (defScope st) dvs [] f fd ∧ mg x = some (.ref f) ∧ Binds K fd ps [] ∧ ∃ ds, Vals dvs ds ∧ Binds K fd ps ds
def MtFd (K : PySem.W.Frag) (C : Addr) (m q : Str) (st : Stmt) (ps : List Str) (dvs : List V) : Prop :=
  ∃ (f : Addr) (fd : FuncData), FunD K m q (defArgs st) (defBody st) (defScope st) dvs [] f fd ∧ Cls K C ∧ Meth K C m f ∧ Binds K fd ps [] ∧ ∃ ds, Vals dvs ds ∧ Binds K fd ps ds
section
variable {P : Program} {w : World} {K : PySem.W.Frag} {mg : Str → Option Value} {base : Heap} {k : Nat} {sp : Sp} {N ps : List Str} {st : Stmt} {dvs : List V}
theorem fn_byD {x : Str} (F : FnFd K mg x st ps dvs) (S : FnScope N ps (defScope st)) (len : ∀ vs H Q E, sp vs H Q E → vs.length = ps.length)
    (hbody : ∀ (f : Addr) (cdv : Value) (A : Around) (outer : List Env) (s : Shared) (H : Hp) (vs : List V) (Q : VK) (E : XK), Room k (A.deeper (envOfC x (defScope st) s.heap.objs.size f cdv)) → sp vs H Q E →
      ∃ t, PSs (cxOf CX0 P w K mg base N x (defScope st) f cdv A outer s H E).nox (defBody st) t ∧ t { nx := fun _ H' => Q .non H', rt := Q } (start N vs) H) : FnN P w K mg base (k + 1) x [] sp ∧ FnN P w K mg base (k + 1) x dvs sp := by
  obtain ⟨f, fd, F, hm, b, ds, vd, bd⟩ := F
  have ok := F.ok (CX := CX0) (P := P) (w := w) (mg := mg) (base := base) S len fun cdv A outer s H vs Q E hr h => (hbody f cdv A outer s H vs Q E hr h).imp fun t q => ⟨q.1.nox, q.2⟩
  exact ⟨⟨f, fd, ps, [], ok, hm, F.kp, b, .nil⟩, ⟨f, fd, ps, ds, ok, hm, F.kp, bd, vd⟩⟩
theorem mt_byD {C : Addr} {m q : Str} (F : MtFd K C m q st ps dvs) (S : FnScope N ps (defScope st)) (len : ∀ vs H Q E, sp vs H Q E → vs.length = ps.length)
    (hbody : ∀ (f : Addr) (cdv : Value) (A : Around) (outer : List Env) (s : Shared) (H : Hp) (vs : List V) (Q : VK) (E : XK), Room k (A.deeper (envOfC q (defScope st) s.heap.objs.size f cdv)) → sp vs H Q E →
      ∃ t, PSs (cxOf CX0 P w K mg base N q (defScope st) f cdv A outer s H E).nox (defBody st) t ∧ t { nx := fun _ H' => Q .non H', rt := Q } (start N vs) H) : MtN P w K mg base (k + 1) C m [] sp ∧ MtN P w K mg base (k + 1) C m dvs sp := by
  obtain ⟨f, fd, F, c, hm, b, ds, vd, bd⟩ := F
  have ok := F.ok (CX := CX0) (P := P) (w := w) (mg := mg) (base := base) S len fun cdv A outer s H vs Q E hr h => (hbody f cdv A outer s H vs Q E hr h).imp fun t q => ⟨q.1.nox, q.2⟩
  exact ⟨⟨f, fd, ps, [], c, hm, ok, b, .nil⟩, ⟨f, fd, ps, ds, c, hm, ok, bd, vd⟩⟩
/-- a class whose __init__ has defaults: all written, none written -/
theorem mk_byD {x q : Str} {C : Addr} {sp0 : Sp} (F : MtFd K C "__init__" q st ps dvs) (M : PySem.W.makesIn K C = true) (kp : PySem.W.keepIn K (.ref C) = true) (hm : mg x = some (.ref C)) (S : FnScope N ps (defScope st)) (len : ∀ vs H Q E, sp0 vs H Q E → vs.length = ps.length)
    (i : ∀ vs H Q, sp vs H Q E0 → ∀ y dy, H y = none → H dy = none → dy ≠ y → sp0 (.ref y :: vs) (upd (upd H dy (.own y)) y (.ins C dy [])) (fun v H2 => v = .non ∧ Q (.ref y) H2) E0)
    (hbody : ∀ (f : Addr) (cdv : Value) (A : Around) (outer : List Env) (s : Shared) (H : Hp) (vs : List V) (Q : VK) (E : XK), Room k (A.deeper (envOfC q (defScope st) s.heap.objs.size f cdv)) → sp0 vs H Q E →
      ∃ t, PSs (cxOf CX0 P w K mg base N q (defScope st) f cdv A outer s H E).nox (defBody st) t ∧ t { nx := fun _ H' => Q .non H', rt := Q } (start N vs) H) : MkN P w K mg base (k + 1) x sp ∧ MkN P w K mg base (k + 1) x (fun vs H Q E => sp (vs ++ dvs) H Q E) := by
  obtain ⟨f, fd, F, c, hme, b, ds, vd, bd⟩ := F
  have ok := F.ok (CX := CX0) (P := P) (w := w) (mg := mg) (base := base) S len fun cdv A outer s H vs Q E hr h => (hbody f cdv A outer s H vs Q E hr h).imp fun t q => ⟨q.1.nox, q.2⟩
  refine ⟨⟨C, f, fd, ps, [], [], sp0, ⟨M, hme.at_, hme.fn, kp⟩, ok, hm, b, .nil, fun vs H Q h y dy h1 h2 h3 => ?_⟩, ⟨C, f, fd, ps, ds, dvs, sp0, ⟨M, hme.at_, hme.fn, kp⟩, ok, hm, bd, vd, fun vs H Q h y dy h1 h2 h3 => i (vs ++ dvs) H Q h y dy h1 h2 h3⟩⟩
  rw [List.append_nil]
  exact i vs H Q h y dy h1 h2 h3
end
section
variable {X : Cx} {k j : Nat} {x : Str} {p pos : Pos} {sp : Sp}
/-- C() -/
theorem g_make0 (c : MkN X.prog X.w X.K X.mg X.base k x sp) (hr : Room j X.A) (hg : Gl X x) (hk : k + 1 ≤ j) (hdb : (x == ("__debug__" : Str)) = false := by decide) :
    PE X (.Call (.Name x p) [] [] pos) (fun _ H Q => sp [] H Q E0) := by
  obtain ⟨C, f, fd, ps, ds, dvs, sp0, M, F, hm, b, d, i⟩ := c.ex
  exact PEi (pe_make0 M F (hr.mono hk) hg hm b d pass0 hdb) fun σ H Q q => by
    show ∀ x dx, H x = none → H dx = none → dx ≠ x → _
    exact i [] H Q q
end
end GG
namespace GG
open PySem PySem.Spec L2
/-- a set's comprehension: the item goes in, each once -/
theorem tAdd_ofM {w : World} {D : Addr} {te : TE} {σ : L2.St} {H : Hp} {N : Hp → Prop} {l : List Int} (h : te σ H fun y H1 => match y with
    | .int c => SetL w H1 D l ∧ l.length < 4000 ∧ ∀ H2, SameX D H1 H2 → SetL w H2 D (if c ∈ l then l else l ++ [c]) → N H2
    | _ => False) : tAdd w D (mcE te) σ H N := by
  unfold tAdd mcE
  refine ⟨_, fun v H1 r => ?_, h⟩
  split at r
  next c =>
    obtain ⟨⟨S, n, h1, h2, h3⟩, hl, q⟩ := r
    refine ⟨S, n, h1, by unfold scanBound; omega, fun H2 s e => q H2 s ⟨_, _, e, fun k => ?_, ?_⟩⟩
    · have : (k ∈ (if c ∈ l then l else l ++ [c])) ↔ (k ∈ l ∨ k = c) := by
        by_cases m : c ∈ l
        · rw [if_pos m]; exact ⟨.inl, fun q => q.elim id fun q => q ▸ m⟩
        · rw [if_neg m, List.mem_append, List.mem_singleton]
      rw [this, ← h2 k]
      simp only [Bool.or_eq_true, decide_eq_true_eq]
    · by_cases m : c ∈ l
      · rw [if_pos m, if_pos ((h2 c).mpr m)]; exact h3
      · rw [if_neg m, if_neg (fun z => m ((h2 c).mp z)), List.length_append, List.length_singleton]; omega
  next => exact r.elim
end GG
namespace GG
open PySem PySem.Spec L2
end GG
/-! sorted of lists of pairs of ints, some of them written at the top -/
namespace GG
open PySem PySem.Spec L2
open PySem.W (EachIs)
def encI (b : Addr × Int × Int) : PyData := .tuple [.int b.2.1, .int b.2.2]
def iLe (p q : Int × Int) : Bool := decide (p.1 < q.1 ∨ (p.1 = q.1 ∧ p.2 ≤ q.2))
/-- a list of refs to pairs of ints -/
def PI2 (K : PySem.W.Frag) (H : Hp) : List (Int × Int) → List V → Prop
  | [], vs => vs = []
  | p :: ps, vs => ∃ q r, vs = .ref q :: r ∧ SqT K H q [.int p.1, .int p.2] ∧ PI2 K H ps r
theorem PI2.mono {K : PySem.W.Frag} {H H' : Hp} (s : Same H H') : ∀ {ps : List (Int × Int)} {vs : List V}, PI2 K H ps vs → PI2 K H' ps vs
  | [], vs, h => h
  | p :: ps, vs, ⟨q, r, e, h1, h2⟩ => ⟨q, r, e, SqT_same h1 s, PI2.mono s h2⟩
theorem PI2.length {K : PySem.W.Frag} {H : Hp} : ∀ {ps : List (Int × Int)} {vs : List V}, PI2 K H ps vs → vs.length = ps.length
  | [], vs, h => by subst h; rfl
  | p :: ps, vs, ⟨q, r, e, _, h⟩ => by subst e; simp [PI2.length h]
theorem PI2.at_ {K : PySem.W.Frag} {H : Hp} : ∀ {ps : List (Int × Int)} {vs : List V} {i : Nat} {p : Int × Int}, PI2 K H ps vs → ps[i]? = some p → ∃ q, vs[i]? = some (.ref q) ∧ SqT K H q [.int p.1, .int p.2]
  | [], vs, i, p, h, e => by simp at e
  | p :: ps, vs, 0, p', ⟨q, r, u, h1, h2⟩, e => by subst u; simp at e; subst e; exact ⟨q, rfl, h1⟩
  | p :: ps, vs, i + 1, p', ⟨q, r, u, h1, h2⟩, e => by
    subst u
    obtain ⟨q', h3, h4⟩ := PI2.at_ (i := i) h2 (by simpa using e)
    exact ⟨q', by simpa using h3, h4⟩
theorem PI2.app {K : PySem.W.Frag} {H : Hp} : ∀ {ps : List (Int × Int)} {vs : List V} {rs : List (Int × Int)} {ws : List V}, PI2 K H ps vs → PI2 K H rs ws → PI2 K H (ps ++ rs) (vs ++ ws)
  | [], vs, rs, ws, h, h' => by subst h; exact h'
  | p :: ps, vs, rs, ws, ⟨q, r, e, h1, h2⟩, h' => by subst e; exact ⟨q, r ++ ws, rfl, h1, PI2.app h2 h'⟩
theorem PI2.one {K : PySem.W.Frag} {H : Hp} {q : Addr} {p : Int × Int} (h : SqT K H q [.int p.1, .int p.2]) : PI2 K H [p] [.ref q] := ⟨q, [], rfl, h, rfl⟩
theorem PI2.refs {K : PySem.W.Frag} {H : Hp} : ∀ {ps : List (Int × Int)} {vs : List V}, PI2 K H ps vs → ∃ qs : List Addr, vs = qs.map V.ref ∧ qs.length = ps.length ∧ ∀ b ∈ qs.zip ps, SqT K H b.1 [.int b.2.1, .int b.2.2]
  | [], vs, h => ⟨[], h, rfl, fun b hb => by simp at hb⟩
  | p :: ps, vs, ⟨q, r, e, h1, h2⟩ => by
    obtain ⟨qs, a, b, c⟩ := PI2.refs h2
    refine ⟨q :: qs, by rw [e, a]; rfl, by rw [List.length_cons, List.length_cons, b], fun x hx => ?_⟩
    rcases List.mem_cons.mp (show x ∈ (q, p) :: qs.zip ps from hx) with z | z
    · subst z; exact h1
    · exact c x z
theorem PI2.ofRefs {K : PySem.W.Frag} {H : Hp} : ∀ {bs : List (Addr × Int × Int)}, (∀ b ∈ bs, SqT K H b.1 [.int b.2.1, .int b.2.2]) → PI2 K H (bs.map (·.2)) (bs.map fun b => V.ref b.1)
  | [], _ => rfl
  | b :: bs, h => ⟨b.1, _, rfl, h b (List.mem_cons_self ..), PI2.ofRefs fun x hx => h x (List.mem_cons_of_mem _ hx)⟩
theorem each_zipI {K : PySem.W.Frag} {H : Hp} : ∀ {qs : List Addr} {ps : List (Int × Int)}, qs.length = ps.length → (∀ b ∈ qs.zip ps, SqT K H b.1 [.int b.2.1, .int b.2.2]) →
    EachIs (fun (v : Value) (b : Addr × Int × Int) => v = .ref b.1 ∧ SqT K H b.1 [.int b.2.1, .int b.2.2]) (qs.map Value.ref) (qs.zip ps)
  | [], [], _, _ => .nil
  | [], _ :: _, h, _ => by simp at h
  | _ :: _, [], h, _ => by simp at h
  | q :: qs, p :: ps, h, k => .cons ⟨rfl, k (q, p) (List.mem_cons_self ..)⟩ (each_zipI (by simpa using h) fun b hb => k b (List.mem_cons_of_mem _ hb))
theorem each_outI {K : PySem.W.Frag} {H : Hp} : ∀ {out : List Value} {bs : List (Addr × Int × Int)}, EachIs (fun (v : Value) (b : Addr × Int × Int) => v = .ref b.1 ∧ SqT K H b.1 [.int b.2.1, .int b.2.2]) out bs → Vals (bs.map fun b => V.ref b.1) out ∧ ∀ b ∈ bs, SqT K H b.1 [.int b.2.1, .int b.2.2]
  | _, _, .nil => ⟨.nil, fun b h => by simp at h⟩
  | _, _, .cons ⟨e, h⟩ t => by
    subst e
    obtain ⟨a, b⟩ := each_outI t
    exact ⟨.cons rfl a, fun x hx => by
      rcases List.mem_cons.mp hx with z | z
      · subst z; exact h
      · exact b x z⟩
def rSortI2 (K : PySem.W.Frag) : List V → Hp → VK → Prop := fun vs H Q => match vs with
  | [.ref a] => ∃ xs ps, SqL K H a xs ∧ PI2 K H ps xs ∧ ∀ ys p H', H p = none → Same H H' → H' p = some (.lst ys) → PI2 K H' (ps.mergeSort iLe) ys → Q (.ref p) H'
  | _ => False
theorem c_sortI2 {X : Cx} (hu : X.A.units + 64 < cLine) : CallR X (.builtin "sorted") (rSortI2 X.K) := fun pins s σ H xs us Q I r h => by
  unfold rSortI2 at h
  split at h
  next a =>
    obtain ⟨xs, ps, hs, pl, q⟩ := h
    obtain ⟨its, rv, hl, hz⟩ := I.list hs
    cases r with
    | cons r0 rs =>
      cases rs
      cases r0
      obtain ⟨qs, rfl, lq, hq⟩ := pl.refs
      have e1 : its = qs.map Value.ref := by
        have key : ∀ {qs : List Addr} {its : List Value}, Vals (qs.map V.ref) its → its = qs.map Value.ref := by
          intro qs
          induction qs with
          | nil => intro its r; cases r; rfl
          | cons q qs ih => intro its r; cases r with
            | cons r1 r2 => rw [ih r2, r1]; rfl
        exact key rv
      subst e1
      have L : (qs.zip ps).length = ps.length := by rw [List.length_zip]; omega
      have eR := each_zipI lq hq
      have eD : EachIs (fun (v : Value) (b : Addr × Int × Int) => ∃ as, Reads s.heap v (encI b) as) (qs.map Value.ref) (qs.zip ps) := eR.mono fun v b ⟨e, hb⟩ => by
        subst e
        obtain ⟨its2, r2, ht, _⟩ := I.tuple hb
        obtain ⟨o, ho, hc, n, hd⟩ := ht
        obtain ⟨u1, u2, rfl, ri, rj⟩ := vals2 r2
        obtain ⟨t1, rfl⟩ := ri
        obtain ⟨t2, rfl⟩ := rj
        exact ⟨_, .tuple ho hc hd (.cons (.int _ _) (.cons (.int _ _) .nil))⟩
      have dep : ∀ b, PyData.depth (encI b) ≤ 2 := fun b => by simp only [encI, PyData.depth, PyData.depthAll]; omega
      refine PySem.W.sorted_data (enc := encI) hl.isList eR eD (PySem.W.AllAlike.of fun b b' => by simp [encI, PySem.W.alike, PySem.W.alikeAll]) (PySem.W.Sortable.tuples fun b => ⟨_, _, rfl⟩) (by rw [L, ← lq]; simpa using hz) (fun b _ => by have := dep b; omega) fun out ho eo => ?_
      obtain ⟨vo, mo⟩ := each_outI eo
      obtain ⟨c, hc⟩ := PyProof.Rows.sortedAll_at s.heap (qs.map Value.ref) out.toArray
      have fr : H (s.heap.objs.size + 1) = none := I.hok.fresh (Nat.le_succ _)
      have eS : ((qs.zip ps).mergeSort (PySem.W.dataLe false encI)).map (·.2) = ps.mergeSort iLe := by
        have z := PySem.W.sort_maps (r := PySem.W.dataLe false encI) (s := iLe) (·.2) (l := qs.zip ps) fun a ha b hb => by
          have := congrFun (congrFun (PySem.W.dataLe_ii (fun b : Addr × Int × Int => b.2.1) (fun b : Addr × Int × Int => b.2.2)) a) b
          exact this
        rw [z]
        congr 1
        exact List.map_snd_zip (by omega)
      have pl2 := PI2.ofRefs mo
      rw [eS] at pl2
      refine ⟨.ref _, upd H (s.heap.objs.size + 1) (.lst (((qs.zip ps).mergeSort (PySem.W.dataLe false encI)).map fun b => V.ref b.1)), I.laid (t' := s.toks) (fun b o e => PyProof.Rows.sortedAll_old e) (Nat.le_succ _) ⟨?_, out, c, vo, hc⟩, rfl, q _ _ _ fr (Sm.new fr) upd_same (pl2.mono (Sm.new fr))⟩
      rw [List.length_map, List.length_mergeSort, L, ← lq]
      simpa using hz
  next => exact h.elim
theorem k_sortI2 {X : Cx} (K : PySem.W.Frag) (h : X.K = K) (hu : X.A.units + 64 < cLine) : CallR X (.builtin "sorted") (rSortI2 K) := by subst h; exact c_sortI2 hu
end GG
/-! name = {k: v for ..} on one line, the name a local -/
namespace GG
open PySem PySem.Spec L2 PyProof.Rows
section
variable {X : Cx} {kx vx tg iter : Expr} {ifs : List Expr} {scope : Scope} {own : List (Str × Nat)} {pos spos py : Pos} {y : Str} {i : Nat} {wi : TI} {g : TG} {tt : TT} {tk tv : TE}
theorem sd_true {gs : List Comprehension} {l : Nat} {env : Env} (k1 : env.scope.kind = .function) (k2 : env.scope.names.lookup y = some .local) (k3 : (py.line == pos.line) = true)
    (k4 : (scope.names.any fun (n, k) => n == y && (k == .local || k == .cell)) = false) : swapsWith (.DictComp kx vx gs scope pos) (some (.Name y py)) l env = pure true := by
  have e1 : env.blockKind = .function := by unfold Env.blockKind; rw [k1]; rfl
  have e2 : env.kindOf y = some .local := k2
  unfold swapsWith
  simp only [e1, e2, k4, Expr.pos, k3]
  rfl
theorem g_setDc (hc : X.calm = true) (hN : X.N.Nodup) (hy : X.N[i]? = some y) (hyl : X.env.scope.names.lookup y = some .local)
    (hsw : swapsWith (.DictComp kx vx [⟨tg, iter, ifs, 0⟩] scope pos) (some (.Name y py)) spos.line X.env = pure true) (hi : PI X tg iter wi) (ok : BlkOk X.N X.env.scope scope own)
    (hg : ∀ (s : Shared) (H : Hp) (C : Addr) (cl : List (Str × Addr)) (fp : List Addr), PG (X.blk s H scope (compEnvC scope cl C X.env) fp) tg g)
    (ht : ∀ (s : Shared) (H : Hp) (C : Addr) (cl : List (Str × Addr)) (fp : List Addr), PTs (X.blk s H scope (compEnvC scope cl C X.env) fp) ifs tt)
    (hk : ∀ (s : Shared) (H : Hp) (C : Addr) (cl : List (Str × Addr)) (fp : List Addr), PE (X.blk s H scope (compEnvC scope cl C X.env) fp) kx tk)
    (he : ∀ (s : Shared) (H : Hp) (C : Addr) (cl : List (Str × Addr)) (fp : List Addr), PE (X.blk s H scope (compEnvC scope cl C X.env) fp) vx tv) (hs : ∀ x, foldedSetIterable iter X.env x = pure x := by intro _; rfl) :
    PS X (.Assign [.Name y py] (.DictComp kx vx [⟨tg, iter, ifs, 0⟩] scope pos) spos) (tAsg (gDc wi g tt tk tv (own.map (·.2))) (gName i)) := by
  have core : PS X (.Assign [.Name y py] (.DictComp kx vx [⟨tg, iter, ifs, 0⟩] scope pos) spos) (tAsg (tDc (mcI wi) g (mcT tt) (mcE tk) (mcE tv) (own.map (·.2))) (gName i)) := by
    refine ⟨fun pins s σ H D I h => ?_⟩
    rw [exec_Assign_Name_used _ _ _ _ hsw]
    refine wpAny_bind (wpAny_standAt (wpAny_bind ?_))
    show wpAny _ X.A (do
      let _ ← comprehension (.DictComp kx vx [⟨tg, iter, ifs, 0⟩] scope pos) scope X.env (firstIterPos [⟨tg, iter, ifs, 0⟩] pos) newDict false (eval iter X.env) (some (assign (.Name y py) X.env))) _ _ s
    have h' : tDc (mcI wi) g (mcT tt) (mcE tk) (mcE tv) (own.map (·.2)) σ H (fun x H1 => gName i x σ H1 D.nx) := h
    refine wpAny_bind (thn (dc_core (Qf := fun _ s' => SP X pins D .next s') hc hN I (PIm hi) ok hg (fun s H C cl fp => PTsm (ht s H C cl fp)) (fun s H C cl fp => PEm (hk s H C cl fp)) (fun s H C cl fp => PEm (he s H C cl fp)) hs h'
      fun L C s' m H' I' q hn f => ?_) fun _ s' hq => wpAny_pure (wpAny_pure hq))
    show wpAny _ _ (assign (.Name y py) X.env (.ref L)) _ _ _
    refine wpAny_assign_Name (store_ok2 (v := V.ref L) I' hN hy (.inl hyl) rfl (fun s2 J2 z => ?_) (.inr hyl))
    obtain ⟨a, sb, ha⟩ := z
    obtain ⟨n0, n1, n2, n3, n4, n5⟩ := f
    have ne : C ≠ a := ha.elim (fun z => z ▸ n1) fun z e => n4 y a z e.symm
    refine ⟨m, hn.sameBut sb ne, fun h3 kk => ?_⟩
    exact ⟨_, H', J2.turned (t' := s2.toks) (fun b o hb e => (kk.2 b hb).trans e) n0 n1 n3 n4 n5, q⟩
  exact PSi core fun D σ H q => ⟨_, fun J H1 r => by
    unfold DcG at r
    exact r, q⟩
end
end GG
/-! d.get(k, x); for i, x in enumerate(list) -/
namespace GG
open PySem PySem.Spec L2 PyProof.Rows
end GG
/-! d.get(k) -/
namespace GG
open PySem PySem.Spec L2 PyProof.Rows
def gDGet1 (td ty : TE) : TE := fun σ H Q => td σ H fun x H1 => ∃ a kvs, x = .ref a ∧ H1 a = some (.dK kvs) ∧ ty σ H1 fun y H2 => ∃ kvs2 s, H2 a = some (.dK kvs2) ∧ y = .str s ∧ Q ((valV kvs2 (.inr s)).getD .non) H2
section
variable {X : Cx} {o e : Expr} {apos cpos : Pos} {td ty : TE}
theorem g_dget1 (hu : X.A.units + 1 < cLine) (ho : PE X o td) (he : PE X e ty) (m : M1 X o "get" apos e cpos) : PE X (.Call (.Attribute o "get" apos) [e] [] cpos) (gDGet1 td ty) :=
  PEi (pe_dget1 hu (PEm ho) (PEm he) m) fun σ H Q q => ⟨_, fun x H1 r => by
    obtain ⟨a, kvs, e1, e2, r⟩ := r
    exact ⟨a, e1, .inl ⟨kvs, .inl e2⟩, _, fun y H2 r2 => by
      obtain ⟨k2, s, e3, e4, r3⟩ := r2
      exact ⟨_, .inl ⟨k2, .inr s, .inl e3, e4, rfl⟩, r3⟩, r⟩, q⟩
end
/-- len(d) -/
def rLenD : List V → Hp → VK → Prop := fun vs H Q => match vs with
  | [.ref a] => ∃ kvs, H a = some (.dK kvs) ∧ Q (.int kvs.length) H
  | _ => False
theorem c_lenD {X : Cx} : CallR X (.builtin "len") rLenD := CallRi call_lenD fun xs H Q h => by
  unfold rLenD at h
  split at h
  · obtain ⟨kvs, e, q⟩ := h
    exact ⟨_, kvs, rfl, e, q⟩
  · exact h.elim
end GG
/-! != of lists, item by item; the same object; a def by another name -/
namespace GQ
open PySem PySem.SeqAt
open AutoSeq1 (wpAny_loadPart')
open MeetsSeq MeetsSeq2 MeetsSeq3 SeqRoads2
section
variable {prog : Program} {w : World} {A : Around} {R : Result → Shared → Prop}
theorem ne_loopG (l b : Addr) (N : Nat) (I : Nat → Shared → Prop) (hl : ListI prog w A (fun e s' => R (.error e) s') l b N I)
    (fin : ∀ s, I N s → R (.ok (.ret (.bool false))) s) (k : Nat) :
    ∀ i : Nat, N - i = k → i ≤ N → ∀ s, I i s →
      wpAny (model prog w) A.in1 (Builtin.«list.__eq__.loop» ⟨[.ref l, .ref b, rawInt i, rawInt 3], []⟩) (FinOf prog w A R) (fun e s' => R (.error e) s') s := by
  induction k with
  | zero =>
    intro i hk hi s h
    obtain ⟨items, items2, n, n2, hl1, hb1, hs1, hs2, _⟩ := hl _ _ h
    have hi' : i = N := by omega
    have hR : R (.ok (.ret (.bool false))) s := fin s (hi' ▸ h)
    obtain ⟨hp, g, d, tk, os⟩ := s
    wp_walk using wpAny_loadPart' hl1, wpAny_loadPart' hb1
    have hi1 : items[((i : Nat) : Int).toNat]? = none := by simp; omega
    have hi2 : items2[((i : Nat) : Int).toNat]? = none := by simp; omega
    rw [hi1, hi2]
    wp_walk using wpAny_loadPart' hl1, wpAny_loadPart' hb1
    show R (.ok (.ret (.bool (items.size != items2.size)))) _
    rw [hs1, hs2]
    simpa using hR
  | succ k ih =>
    intro i hk hi s h
    obtain ⟨items, items2, n, n2, hl1, hb1, hs1, hs2, turn⟩ := hl _ _ h
    have hlt : i < items.size := by omega
    have hlt2 : i < items2.size := by omega
    have ht := turn hlt hlt2
    obtain ⟨hp, g, d, tk, os⟩ := s
    wp_walk using wpAny_loadPart' hl1, wpAny_loadPart' hb1
    have hi1 : items[((i : Nat) : Int).toNat]? = some items[i] := by simp [hlt]
    have hi2 : items2[((i : Nat) : Int).toNat]? = some items2[i] := by simp [hlt2]
    have hc : ((i : Int) + 1) = ((i + 1 : Nat) : Int) := by omega
    rw [hi1, hi2]
    refine wpAny_bind (wpAny_mono ht (fun r s2 h2 => ?_) fun _ _ x => x)
    obtain ⟨hr, h2⟩ := h2
    subst hr
    have hrec := ih (i + 1) (by omega) (by omega) s2 h2
    obtain ⟨hp2, g2, d2, tk2, os2⟩ := s2
    wp_walk
    rw [hc]
    exact ⟨plainId_quiet plain_eq_loop _, codeAny_builtin entry_eq_loop (by
      rw [Around.under_plainId plain_eq_loop _]
      exact hrec)⟩
theorem list_neG (l b : Addr) (N : Nat) (I : Nat → Shared → Prop) (hl : ListI prog w A (fun e s' => R (.error e) s') l b N I)
    (fin : ∀ s, I N s → R (.ok (.ret (.bool false))) s) {s : Shared} (h : I 0 s) :
    wpAny (model prog w) A.in1 (Builtin.«list.__ne__» ⟨[.ref l, .ref b], []⟩) (FinOf prog w A R) (fun e s' => R (.error e) s') s := by
  obtain ⟨items, items2, n, n2, hl1, hb1, hs1, hs2, _⟩ := hl _ _ h
  have hrec := ne_loopG (A := A) (R := R) l b N I hl fin _ 0 rfl (Nat.zero_le _) s h
  obtain ⟨hp, g, d, tk, os⟩ := s
  have f3 := AutoSeq1.sub_list_list
  have hne : ¬ (items.size != items2.size) = true := by simp [hs1, hs2]
  wp_walk using wpAny_loadPart' hl1, wpAny_loadPart' hb1
  exact ⟨plainId_quiet plain_eq_loop _, codeAny_builtin entry_eq_loop (by
    rw [Around.under_plainId plain_eq_loop _]
    exact hrec)⟩
end
section
variable {prog : Program} {w : World} {A : Around} {E : Value → Shared → Prop} {s : Shared}
theorem rc_listNeG {l b : Addr} {N : Nat} {Q : Value → Shared → Prop} (hu : A.units < cLine) (I : Nat → Shared → Prop) (hl : ListI prog w A E l b N I)
    (fin : ∀ s, I N s → Q (.bool false) s) (h : I 0 s) : wpAny (model prog w) A (richCompare .NotEq (.ref l) (.ref b)) Q E s := by
  obtain ⟨items, items2, n, n2, hl1, hb1, _, _, _⟩ := hl _ _ h
  refine wpAny_richCompare_same_room (op := .NotEq) ⟨_, hl1, rfl⟩ ⟨_, hb1, rfl⟩ F.slot_list_ne (call_here F.slot_list_ne ⟨_, hl1, rfl⟩ F.entry_list_ne (F.args_list_ne_2 _ _) ?_) hu
  exact list_neG (R := wants (fun v s' => v ≠ .notImplemented ∧ Q v s') E) l b N I hl (fun s' q => ⟨(fun x => nomatch x), fin s' q⟩) h
end
end GQ
namespace GG
open PySem PySem.Spec L2
section
variable {X : Cx} {n : Nat} {D : Eqv}
/-- xs != ys, lists whose items are pairwise equal by D: False -/
def rNeL (D : Eqv) : R2 := fun x y H Q => DList D x y H ∧ ∀ H', Same H H' → Q (.bl false) H'
theorem op_neL (hD : Mon D) (h : EqG X n D) (hr : Room (n + 1) X.A) : OpR X (compareOp .NotEq) (rNeL D) := by
  intro pins s σ H x y v u Q I rx ry hq
  obtain ⟨d, q⟩ := hq
  obtain ⟨a, b, xs, ys, rfl, rfl, ha, hb, p⟩ := d
  cases rx
  cases ry
  have sb : Sub X (n + 1) X.A := ⟨hr, rfl⟩
  show wpAny (model X.prog X.w) X.A (richCompare .NotEq (.ref a) (.ref b)) (EP X pins σ Q) X.xe s
  refine GQ.rc_listNeG (N := xs.length) sb.room.units0 (fun _ s' => LoopI X pins σ H s') (fun i s' q => ?_) (fun s' z => ?_) ⟨H, I, Ext.rfl'⟩
  · obtain ⟨H1, I1, e1⟩ := id q
    obtain ⟨z, its, k, r, e⟩ := I1.hok a _ (e1 _ _ ha)
    obtain ⟨z2, its2, k2, r2, e2⟩ := I1.hok b _ (e1 _ _ hb)
    refine ⟨its.toArray, its2.toArray, k, k2, e, e2, by rw [List.size_toArray, ← r.length], by rw [List.size_toArray, ← r2.length, ← p.1], fun h1 h2 => ?_⟩
    exact turnG hD h sb p r r2 i h1 h2 s' q
  · obtain ⟨H1, I1, e1⟩ := z
    exact ⟨.bl false, H1, I1, rfl, q H1 e1⟩
/-- the same object, or the same flat value -/
def DSame : Eqv := fun x y _ => x = y ∧ (flatV x = true ∨ ∃ a, x = .ref a)
theorem eqV_refl : ∀ x : V, flatV x = true → eqV x x = true := by
  intro x h
  cases x <;> first | rfl | (simp [eqV]; done) | (simp [flatV] at h; done)
theorem eqG_same : EqG X 0 DSame := by
  intro A pins s σ H x y u v sb I rx ry d
  obtain ⟨rfl, f | ⟨a, rfl⟩⟩ := d
  · exact eqG_flat A pins s σ H x x u v sb I rx ry ⟨f, f, eqV_refl x f⟩
  · cases rx
    cases ry
    exact SeqAt.EqAt.same (A := A) (s := s) (.ref a) X.prog X.w X.xe _ ⟨rfl, H, I, Ext.rfl'⟩
theorem FnN.ali {P : Program} {w : World} {K : PySem.W.Frag} {mg : Str → Option Value} {base : Heap} {k : Nat} {x y : Str} {dvs : List V} {sp : Sp} (h : FnN P w K mg base k x dvs sp) (e : mg y = mg x) : FnN P w K mg base k y dvs sp := by
  obtain ⟨f, fd, ps, ds, F, hm, r⟩ := h.ex
  exact ⟨f, fd, ps, ds, F, e.trans hm, r⟩
end
end GG
namespace GG
open PySem PySem.Spec L2
/-! ### trees as data -/
inductive T where
  | leaf (n : Str)
  | grp (rk : List Int) (ps : List T)
mutual
def T.names : T → List Str
  | .leaf n => [n]
  | .grp _ ps => T.namesL ps
def T.namesL : List T → List Str
  | [] => []
  | t :: ts => t.names ++ T.namesL ts
end
def T.width : T → Nat
  | .leaf _ => 1
  | .grp rk _ => rk.length
def T.taken : List T → Nat
  | [] => 0
  | t :: ts => t.width + T.taken ts
mutual
def T.depth : T → Nat
  | .leaf _ => 0
  | .grp _ ps => T.depthL ps + 1
def T.depthL : List T → Nat
  | [] => 0
  | t :: ts => max t.depth (T.depthL ts)
end
/-- a name: one to eight small letters -/
def alph : List Nat := ("abcdefghijklmnopqrstuvwxyz" : Str).cps.toList
def IsNm (z : Str) : Prop := 1 ≤ z.length ∧ z.length ≤ 8 ∧ ∀ c ∈ z.cps.toList, c ∈ alph
/-- ranks that a group over so many ends may have -/
structure RkOk (rk : List Int) (m : Nat) : Prop where
  ne : rk ≠ []
  asc : rk.Pairwise (· < ·)
  lo : ∀ r ∈ rk, 1 ≤ r
  hi : ∀ r ∈ rk, r ≤ (m : Int)
mutual
/-- groups have parts and ranks that fit -/
def T.Sh : T → Prop
  | .leaf n => IsNm n
  | .grp rk ps => ps ≠ [] ∧ RkOk rk (T.taken ps) ∧ T.ShL ps
def T.ShL : List T → Prop
  | [] => True
  | t :: ts => t.Sh ∧ T.ShL ts
end
/-! ### how the law's trees and the program's stand in the heap -/
mutual
def LT (H : Hp) : T → V → Prop
  | .leaf n, v => v = .str n
  | .grp rk ps, v => ∃ a r p vs, v = .ref a ∧ H a = some (.tup [.str "group", .ref r, .ref p]) ∧ H r = some (.lst (rk.map V.int)) ∧ H p = some (.lst vs) ∧ LTs H ps vs
def LTs (H : Hp) : List T → List V → Prop
  | [], vs => vs = []
  | t :: ts, vs => ∃ v r, vs = v :: r ∧ LT H t v ∧ LTs H ts r
end
mutual
theorem LT.mono {H H' : Hp} (s : Same H H') : ∀ {t : T} {v : V}, LT H t v → LT H' t v
  | .leaf n, v, h => h
  | .grp rk ps, v, h => by
    obtain ⟨a, r, p, vs, e, h1, h2, h3, h4⟩ := h
    exact ⟨a, r, p, vs, e, s _ _ h1, s _ _ h2, s _ _ h3, LTs.mono s h4⟩
theorem LTs.mono {H H' : Hp} (s : Same H H') : ∀ {ts : List T} {vs : List V}, LTs H ts vs → LTs H' ts vs
  | [], vs, h => h
  | t :: ts, vs, h => by
    obtain ⟨v, r, e, h1, h2⟩ := h
    exact ⟨v, r, e, LT.mono s h1, LTs.mono s h2⟩
end
theorem LTs.length {H : Hp} : ∀ {ts : List T} {vs : List V}, LTs H ts vs → vs.length = ts.length
  | [], vs, h => by subst h; rfl
  | t :: ts, vs, ⟨v, r, e, _, h⟩ => by subst e; simp [LTs.length h]
theorem LTs.at_ {H : Hp} : ∀ {ts : List T} {vs : List V} {i : Nat} {v : V}, LTs H ts vs → vs[i]? = some v → ∃ t, ts[i]? = some t ∧ LT H t v
  | [], vs, i, v, h, e => by subst h; simp at e
  | t :: ts, vs, 0, v, ⟨x, r, q, h1, h2⟩, e => by subst q; simp at e; subst e; exact ⟨t, rfl, h1⟩
  | t :: ts, vs, i + 1, v, ⟨x, r, q, h1, h2⟩, e => by
    subst q
    obtain ⟨u, h3, h4⟩ := LTs.at_ (i := i) h2 (by simpa using e)
    exact ⟨u, by simpa using h3, h4⟩
theorem LTs.snoc {H : Hp} {t : T} {v : V} (h : LT H t v) : ∀ {ts : List T} {vs : List V}, LTs H ts vs → LTs H (ts ++ [t]) (vs ++ [v])
  | [], vs, e => by subst e; exact ⟨v, [], rfl, h, rfl⟩
  | u :: ts, vs, ⟨x, r, q, h1, h2⟩ => by subst q; exact ⟨x, r ++ [v], rfl, h1, LTs.snoc h h2⟩
section
variable (CL CG : Addr)
def lfs (n : Str) : List (Str × V) := [("label", .str n)]
def gfs (p r : Addr) (m : Nat) : List (Str × V) := [("picks", .ref p), ("rows", .ref r), ("taken", .int m)]
mutual
def MT (H : Hp) : T → V → Prop
  | .leaf n, v => ∃ a dx, v = .ref a ∧ H a = some (.ins CL dx (lfs n))
  | .grp rk ps, v => ∃ a dx p r vs, v = .ref a ∧ H a = some (.ins CG dx (gfs p r (T.taken ps))) ∧ H p = some (.tup (rk.map V.int)) ∧ H r = some (.tup vs) ∧ MTs H ps vs
def MTs (H : Hp) : List T → List V → Prop
  | [], vs => vs = []
  | t :: ts, vs => ∃ v r, vs = v :: r ∧ MT H t v ∧ MTs H ts r
end
end
section
variable {CL CG : Addr}
/-- what trees lean on: tuples and instances -/
def NoL : HO → Prop
  | .tup _ => True
  | .ins _ _ _ => True
  | _ => False
def SameT (H H' : Hp) : Prop := ∀ b o, NoL o → H b = some o → H' b = some o
theorem SameT.of {H H' : Hp} (h : Same H H') : SameT H H' := fun b o _ e => h b o e
theorem SameT.trans {H H1 H2 : Hp} (a : SameT H H1) (b : SameT H1 H2) : SameT H H2 := fun c o n e => b c o n (a c o n e)
theorem SameT.off {D : Addr} {H : Hp} {xs : List V} (h : H D = some (.lst xs)) : SameT H (off D H) := fun b o n e => by
  rw [off_at (by rintro rfl; rw [h] at e; cases e; exact n)]; exact e
mutual
theorem MT.monoT {H H' : Hp} (s : SameT H H') : ∀ {t : T} {v : V}, MT CL CG H t v → MT CL CG H' t v
  | .leaf n, v, ⟨a, dx, e, h⟩ => ⟨a, dx, e, s _ _ trivial h⟩
  | .grp rk ps, v, ⟨a, dx, p, r, vs, e, h1, h2, h3, h4⟩ => ⟨a, dx, p, r, vs, e, s _ _ trivial h1, s _ _ trivial h2, s _ _ trivial h3, MTs.monoT s h4⟩
theorem MTs.monoT {H H' : Hp} (s : SameT H H') : ∀ {ts : List T} {vs : List V}, MTs CL CG H ts vs → MTs CL CG H' ts vs
  | [], vs, h => h
  | t :: ts, vs, ⟨v, r, e, h1, h2⟩ => ⟨v, r, e, MT.monoT s h1, MTs.monoT s h2⟩
end
theorem MT.mono {H H' : Hp} (s : Same H H') {t : T} {v : V} (h : MT CL CG H t v) : MT CL CG H' t v := h.monoT (.of s)
theorem MTs.mono {H H' : Hp} (s : Same H H') {t : List T} {v : List V} (h : MTs CL CG H t v) : MTs CL CG H' t v := h.monoT (.of s)
theorem MTs.length {H : Hp} : ∀ {ts : List T} {vs : List V}, MTs CL CG H ts vs → vs.length = ts.length
  | [], vs, h => by subst h; rfl
  | t :: ts, vs, ⟨v, r, e, _, h⟩ => by subst e; simp [MTs.length h]
theorem MTs.at_ {H : Hp} : ∀ {ts : List T} {vs : List V} {i : Nat} {v : V}, MTs CL CG H ts vs → vs[i]? = some v → ∃ t, ts[i]? = some t ∧ MT CL CG H t v
  | [], vs, i, v, h, e => by subst h; simp at e
  | t :: ts, vs, 0, v, ⟨x, r, q, h1, h2⟩, e => by subst q; simp at e; subst e; exact ⟨t, rfl, h1⟩
  | t :: ts, vs, i + 1, v, ⟨x, r, q, h1, h2⟩, e => by
    subst q
    obtain ⟨u, h3, h4⟩ := MTs.at_ (i := i) h2 (by simpa using e)
    exact ⟨u, by simpa using h3, h4⟩
theorem MTs.snoc {H : Hp} {t : T} {v : V} (h : MT CL CG H t v) : ∀ {ts : List T} {vs : List V}, MTs CL CG H ts vs → MTs CL CG H (ts ++ [t]) (vs ++ [v])
  | [], vs, e => by subst e; exact ⟨v, [], rfl, h, rfl⟩
  | u :: ts, vs, ⟨x, r, q, h1, h2⟩ => by subst q; exact ⟨x, r ++ [v], rfl, h1, MTs.snoc h h2⟩
/-- the object at a tree's address -/
theorem MT.ref {H : Hp} : ∀ {t : T} {v : V}, MT CL CG H t v → ∃ a C dx fs, v = .ref a ∧ H a = some (.ins C dx fs) ∧ (C = CL ∨ C = CG)
  | .leaf n, v, ⟨a, dx, e, h⟩ => ⟨a, CL, dx, _, e, h, .inl rfl⟩
  | .grp rk ps, v, ⟨a, dx, p, r, vs, e, h1, h2, h3, h4⟩ => ⟨a, CG, dx, _, e, h1, .inr rfl⟩
end
/-- facts of data -/
theorem T.taken_eq : ∀ ts : List T, (T.taken ts : Int) = (ts.map fun t => (t.width : Int)).sum
  | [] => rfl
  | t :: ts => by
    have := T.taken_eq ts
    simp only [T.taken, List.map_cons, List.sum_cons, Int.natCast_add]
    omega
theorem T.namesL_eq : ∀ ts : List T, T.namesL ts = ts.flatMap T.names
  | [] => by rw [T.namesL]; rfl
  | t :: ts => by rw [T.namesL, T.namesL_eq ts]; rfl
theorem T.ShL_iff : ∀ {ts : List T}, T.ShL ts ↔ ∀ t ∈ ts, t.Sh
  | [] => by simp [T.ShL]
  | t :: ts => by simp [T.ShL, T.ShL_iff]
theorem T.depthL_le : ∀ {ts : List T} {t : T}, t ∈ ts → t.depth ≤ T.depthL ts
  | [], t, h => by simp at h
  | u :: ts, t, h => by
    rw [T.depthL]
    rcases List.mem_cons.mp h with h | h
    · subst h; exact Nat.le_max_left _ _
    · exact Nat.le_trans (T.depthL_le h) (Nat.le_max_right _ _)
end GG
namespace GG
open PySem L2
theorem asc_len : ∀ {l : List Int} {lo hi : Int}, l.Pairwise (· < ·) → (∀ r ∈ l, lo ≤ r) → (∀ r ∈ l, r ≤ hi) → (l.length : Int) ≤ max 0 (hi - lo + 1)
  | [], _, _, _, _, _ => by simp; omega
  | x :: l, lo, hi, p, h1, h2 => by
    have q := List.pairwise_cons.mp p
    have a := h1 x (List.mem_cons_self ..)
    have b := h2 x (List.mem_cons_self ..)
    have ih := asc_len (l := l) (lo := x + 1) (hi := hi) q.2 (fun r hr => by have := q.1 r hr; omega) (fun r hr => h2 r (List.mem_cons_of_mem _ hr))
    rw [List.length_cons]
    omega
theorem RkOk.len {rk : List Int} {m : Nat} (h : RkOk rk m) : rk.length ≤ m := by
  have := asc_len h.asc h.lo h.hi
  omega
mutual
theorem T.width_le : ∀ {t : T}, t.Sh → t.width ≤ t.names.length ∧ 1 ≤ t.names.length
  | .leaf n, _ => ⟨Nat.le_refl _, Nat.le_refl _⟩
  | .grp rk ps, h => by
    rw [T.Sh] at h
    obtain ⟨a, b⟩ := T.taken_le h.2.2
    rw [T.width, T.names]
    have := h.2.1.len
    refine ⟨by omega, ?_⟩
    have : 1 ≤ ps.length := by
      rcases Nat.eq_zero_or_pos ps.length with z | z
      · exact absurd (List.length_eq_zero_iff.mp z) h.1
      · exact z
    omega
theorem T.taken_le : ∀ {ts : List T}, T.ShL ts → T.taken ts ≤ (T.namesL ts).length ∧ ts.length ≤ (T.namesL ts).length
  | [], _ => ⟨Nat.le_refl _, Nat.le_refl _⟩
  | t :: ts, h => by
    rw [T.ShL] at h
    obtain ⟨a, b⟩ := T.width_le h.1
    obtain ⟨c, d⟩ := T.taken_le h.2
    rw [T.taken, T.namesL, List.length_append, List.length_cons]
    omega
end
/-- a tree as the laws draw it -/
structure T.Gd (t : T) : Prop where
  sh : t.Sh
  nd : t.names.Nodup
  dp : t.depth ≤ 45
  sz : t.names.length ≤ 1000
theorem T.namesL_mem : ∀ {ts : List T} {t : T}, t ∈ ts → t.names.Sublist (T.namesL ts)
  | [], t, h => by simp at h
  | u :: ts, t, h => by
    rw [T.namesL]
    rcases List.mem_cons.mp h with h | h
    · subst h; exact List.sublist_append_left _ _
    · exact (T.namesL_mem h).trans (List.sublist_append_right _ _)
theorem T.Gd.part {rk : List Int} {ps : List T} (g : (T.grp rk ps).Gd) {t : T} (h : t ∈ ps) : t.Gd := by
  have s := g.sh
  rw [T.Sh] at s
  have n := g.nd
  rw [T.names] at n
  have z := g.sz
  rw [T.names] at z
  have d := g.dp
  rw [T.depth] at d
  have sl := T.namesL_mem h
  have := T.depthL_le h
  exact ⟨T.ShL_iff.mp s.2.2 t h, n.sublist sl, by omega, Nat.le_trans sl.length_le z⟩
end GG
namespace GG
open PySem L2
/-! ### least sums -/
def minl : List Int → Int
  | [] => 0
  | x :: xs => xs.foldl (fun a b => if b < a then b else a) x
def fits (a b : List Int) (k i : Nat) : Bool := decide (i ≤ k ∧ k - i < b.length)
def sumsAt (a b : List Int) (k : Nat) : List Int := ((List.range a.length).filter (fits a b k)).map fun i => a.getD i 0 + b.getD (k - i) 0
def conv (a b : List Int) : List Int := (List.range (a.length + b.length - 1)).map fun k => minl (sumsAt a b k)
end GG
namespace GG
open PySem L2
/-! ### low ends of a set of leaves; all sets -/
mutual
def T.low (S : List Str) : T → Nat
  | .leaf n => if n ∈ S then 1 else 0
  | .grp rk ps => (rk.filter fun r => decide (r ≤ (T.lowL S ps : Int))).length
def T.lowL (S : List Str) : List T → Nat
  | [] => 0
  | t :: ts => t.low S + T.lowL S ts
end
/-- lists of texts in the heap -/
def LS (H : Hp) : List (List Str) → List V → Prop
  | [], vs => vs = []
  | S :: Ss, vs => ∃ q r, vs = .ref q :: r ∧ H q = some (.lst (S.map V.str)) ∧ LS H Ss r
theorem LS.mono {H H' : Hp} (s : Same H H') : ∀ {Ss : List (List Str)} {vs : List V}, LS H Ss vs → LS H' Ss vs
  | [], vs, h => h
  | S :: Ss, vs, ⟨q, r, e, h1, h2⟩ => ⟨q, r, e, s _ _ h1, LS.mono s h2⟩
theorem LS.length {H : Hp} : ∀ {Ss : List (List Str)} {vs : List V}, LS H Ss vs → vs.length = Ss.length
  | [], vs, h => by subst h; rfl
  | S :: Ss, vs, ⟨q, r, e, _, h⟩ => by subst e; simp [LS.length h]
theorem LS.at_ {H : Hp} : ∀ {Ss : List (List Str)} {vs : List V} {i : Nat} {v : V}, LS H Ss vs → vs[i]? = some v → ∃ S q, Ss[i]? = some S ∧ v = .ref q ∧ H q = some (.lst (S.map V.str))
  | [], vs, i, v, h, e => by subst h; simp at e
  | S :: Ss, vs, 0, v, ⟨q, r, u, h1, h2⟩, e => by subst u; simp at e; subst e; exact ⟨S, q, rfl, rfl, h1⟩
  | S :: Ss, vs, i + 1, v, ⟨q, r, u, h1, h2⟩, e => by
    subst u
    obtain ⟨S', q', h3, h4⟩ := LS.at_ (i := i) h2 (by simpa using e)
    exact ⟨S', q', by simpa using h3, h4⟩
theorem LS.app {H : Hp} : ∀ {Ss : List (List Str)} {vs : List V} {Rs : List (List Str)} {ws : List V}, LS H Ss vs → LS H Rs ws → LS H (Ss ++ Rs) (vs ++ ws)
  | [], vs, Rs, ws, h, h' => by subst h; exact h'
  | S :: Ss, vs, Rs, ws, ⟨q, r, e, h1, h2⟩, h' => by subst e; exact ⟨q, r ++ ws, rfl, h1, LS.app h2 h'⟩
theorem LS.one {H : Hp} {q : Addr} {S : List Str} (h : H q = some (.lst (S.map V.str))) : LS H [S] [.ref q] := ⟨q, [], rfl, h, rfl⟩
end GG
namespace GG
open PySem PySem.Spec L2
/-! ### the law's names -/
def lets : List Nat := ("abcdefghijklmnopqrstuvw" : Str).cps.toList
def tls : List Str := ["", "", "x", "zy", "yxzzzz"]
def run (l : List Nat) : Nat × Nat := (l.headD 0, (l.takeWhile (· == l.headD 0)).length)
theorem tw_rep (c : Nat) (tl : List Nat) (h : tl = [] ∨ tl.headD 0 ≠ c) : ∀ r, (List.replicate r c ++ tl).takeWhile (· == c) = List.replicate r c
  | 0 => by
    rcases h with rfl | h
    · rfl
    · cases tl with
      | nil => rfl
      | cons x tl =>
        have : (x == c) = false := by simpa using h
        simp [List.takeWhile_cons, this]
  | r + 1 => by simp [List.replicate_succ, List.takeWhile_cons, tw_rep c tl h r]
theorem run_rep {c : Nat} {tl : List Nat} (h : tl = [] ∨ tl.headD 0 ≠ c) (r : Nat) : run (List.replicate (r + 1) c ++ tl) = (c, r + 1) := by
  have e : (List.replicate (r + 1) c ++ tl).headD 0 = c := by simp [List.replicate_succ]
  unfold run
  rw [e, tw_rep c tl h]
  simp
theorem tw_snoc {h x : Nat} : ∀ {l : List Nat}, l ≠ [] → (∀ y, l.getLast? = some y → y ≠ x) → (∀ y, l.getLast? = some y → (y == h) = false ∨ x ≠ h) → (l ++ [x]).takeWhile (· == h) = l.takeWhile (· == h) := by
  intro l
  induction l with
  | nil => intro n; exact absurd rfl n
  | cons a l ih =>
    intro _ h1 h2
    by_cases ha : (a == h) = true
    · simp only [List.cons_append, List.takeWhile_cons, ha, if_true]
      congr 1
      cases l with
      | nil =>
        have z := h2 a rfl
        rw [ha] at z
        have : (x == h) = false := by simpa using z
        simp [List.takeWhile_cons, this]
      | cons b l =>
        exact ih (by simp) (fun y hy => h1 y (by simpa using hy)) (fun y hy => h2 y (by simpa using hy))
    · simp [List.takeWhile_cons, ha]
theorem run_snoc {l : List Nat} {x y : Nat} (hl : l.getLast? = some y) (hne : y ≠ x) : run (l ++ [x]) = run l := by
  have n : l ≠ [] := by rintro rfl; cases hl
  have e : (l ++ [x]).headD 0 = l.headD 0 := by cases l with
    | nil => exact absurd rfl n
    | cons a l => rfl
  unfold run
  rw [e, tw_snoc n (fun z hz => by rw [hl] at hz; cases hz; exact hne) (fun z hz => by
    rw [hl] at hz; cases hz
    by_cases q : y = l.headD 0
    · right; rw [← q]; exact fun z => hne z.symm
    · left; simpa using q)]
theorem lets_len : lets.length = 23 := by decide +kernel
theorem lets_nd : lets.Nodup := by decide +kernel
theorem lets_alph : ∀ c ∈ lets, c ∈ alph := by decide +kernel
theorem tls_ok : ∀ z ∈ tls, z.length ≤ 6 ∧ (∀ c ∈ z.cps.toList, c ∈ alph) ∧ (z.cps.toList = [] ∨ z.cps.toList.headD 0 ∉ lets) := by decide +kernel
def letAt (j sh : Nat) : Nat := lets.getD ((j + sh) % 23) 0
theorem letAt_mem (j sh : Nat) : letAt j sh ∈ lets := by
  have h : (j + sh) % 23 < lets.length := by rw [lets_len]; exact Nat.mod_lt _ (by omega)
  unfold letAt
  rw [List.getD_eq_getElem?_getD, List.getElem?_eq_getElem h]
  exact List.getElem_mem h
theorem letAt_inj {j k sh : Nat} (h : letAt j sh = letAt k sh) : (j + sh) % 23 = (k + sh) % 23 := by
  have h1 : (j + sh) % 23 < lets.length := by rw [lets_len]; exact Nat.mod_lt _ (by omega)
  have h2 : (k + sh) % 23 < lets.length := by rw [lets_len]; exact Nat.mod_lt _ (by omega)
  unfold letAt at h
  rw [List.getD_eq_getElem?_getD, List.getD_eq_getElem?_getD, List.getElem?_eq_getElem h1, List.getElem?_eq_getElem h2] at h
  exact (List.getElem_inj lets_nd).mp h
/-- the names called so far -/
structure Cd (sh k : Nat) (fs : List Str) : Prop where
  len : fs.length = k
  nd : fs.Nodup
  nm : ∀ z ∈ fs, IsNm z ∧ ∃ j, j < k ∧ run z.cps.toList = (letAt j sh, 1 + j / 23)
  lst : ∀ l, fs.getLast? = some l → ∀ z ∈ fs, run z.cps.toList = run l.cps.toList → z.length ≤ l.length
theorem Cd.nil (sh : Nat) : Cd sh 0 [] := ⟨rfl, List.nodup_nil, fun z h => by simp at h, fun l h => by simp at h⟩
theorem Cd.fresh {sh k : Nat} {fs : List Str} (c : Cd sh k fs) (hk : k < 46) {z tl : Str} (ht : tl ∈ tls) (hz : z.cps.toList = List.replicate (1 + k / 23) (letAt k sh) ++ tl.cps.toList) : Cd sh (k + 1) (fs ++ [z]) := by
  obtain ⟨t1, t2, t3⟩ := tls_ok tl ht
  have t3' : tl.cps.toList = [] ∨ tl.cps.toList.headD 0 ≠ letAt k sh := t3.imp id fun h e => h (e ▸ letAt_mem k sh)
  have hr : run z.cps.toList = (letAt k sh, 1 + k / 23) := by rw [hz, Nat.add_comm 1]; exact run_rep t3' _
  have hl : z.length = 1 + k / 23 + tl.length := by
    show z.cps.size = _ + tl.cps.size
    rw [← Array.length_toList, hz, List.length_append, List.length_replicate, Array.length_toList]
  have old : ∀ w ∈ fs, run w.cps.toList ≠ run z.cps.toList := fun w hw e => by
    obtain ⟨j, hj, e2⟩ := (c.nm w hw).2
    rw [e2, hr] at e
    have e3 := letAt_inj (congrArg Prod.fst e)
    have e4 : 1 + j / 23 = 1 + k / 23 := congrArg Prod.snd e
    omega
  refine ⟨by rw [List.length_append, c.len]; rfl, ?_, fun w hw => ?_, fun l hl2 w hw e => ?_⟩
  · rw [List.nodup_append]
    refine ⟨c.nd, by simp, fun a ha b hb e => ?_⟩
    rw [List.mem_singleton.mp hb] at e
    exact old a ha (by rw [e])
  · rcases List.mem_append.mp hw with h | h
    · obtain ⟨a, j, hj, e⟩ := c.nm w h
      exact ⟨a, j, by omega, e⟩
    · rw [List.mem_singleton.mp h]
      refine ⟨⟨by omega, by omega, fun x hx => ?_⟩, k, by omega, hr⟩
      rw [hz] at hx
      rcases List.mem_append.mp hx with q | q
      · rw [(List.mem_replicate.mp q).2]; exact lets_alph _ (letAt_mem _ _)
      · exact t2 x q
  · rw [List.getLast?_append] at hl2
    obtain rfl : z = l := by simpa using hl2
    rcases List.mem_append.mp hw with h | h
    · exact absurd e (old w h)
    · rw [List.mem_singleton.mp h]; exact Nat.le_refl _
theorem Cd.chain {sh k : Nat} {fs : List Str} (c : Cd sh k fs) {l z : Str} {x y : Nat} (hl : fs.getLast? = some l) (h8 : l.length < 8) (hx : x ∈ alph) (hy : l.cps.toList.getLast? = some y) (hne : y ≠ x) (hz : z.cps.toList = l.cps.toList ++ [x]) : Cd sh (k + 1) (fs ++ [z]) := by
  have hm : l ∈ fs := List.mem_of_getLast? hl
  obtain ⟨nm, j, hj, hr⟩ := c.nm l hm
  have hrz : run z.cps.toList = run l.cps.toList := by rw [hz]; exact run_snoc hy hne
  have hlen : z.length = l.length + 1 := by
    show z.cps.size = l.cps.size + 1
    rw [← Array.length_toList, hz, List.length_append, Array.length_toList]; rfl
  refine ⟨by rw [List.length_append, c.len]; rfl, ?_, fun w hw => ?_, fun l2 hl2 w hw e => ?_⟩
  · rw [List.nodup_append]
    refine ⟨c.nd, by simp, fun a ha b hb e => ?_⟩
    rw [List.mem_singleton.mp hb] at e
    have := c.lst l hl a ha (by rw [e]; exact hrz)
    rw [e] at this; omega
  · rcases List.mem_append.mp hw with h | h
    · obtain ⟨a, j, hj, e⟩ := c.nm w h
      exact ⟨a, j, by omega, e⟩
    · rw [List.mem_singleton.mp h]
      refine ⟨⟨by omega, by omega, fun v hv => ?_⟩, j, by omega, by rw [hrz, hr]⟩
      rw [hz] at hv
      rcases List.mem_append.mp hv with q | q
      · exact nm.2.2 v q
      · rw [List.mem_singleton.mp q]; exact hx
  · rw [List.getLast?_append] at hl2
    obtain rfl : z = l2 := by simpa using hl2
    rcases List.mem_append.mp hw with h | h
    · have := c.lst l hl w h (by rw [e, hrz]); omega
    · rw [List.mem_singleton.mp h]; exact Nat.le_refl _
theorem mul_ch (c n : Nat) (h1 : 1 ≤ n) (h2 : n ≤ 2) : MulOk ⟨#[c]⟩ (n : Int) ∧ Txt.mul ⟨#[c]⟩ (n : Int) = ⟨(List.replicate n c).toArray⟩ := by
  have : n = 1 ∨ n = 2 := by omega
  rcases this with rfl | rfl
  · refine ⟨⟨by decide, fun _ h => by simp at h, fun _ h => by simp at h⟩, ?_⟩
    unfold Txt.mul
    rw [if_neg (by decide), if_pos (by simp)]
    rfl
  · refine ⟨⟨by decide, fun _ _ => by show ¬ ((1 : Nat) : Int) > _; decide, fun _ _ => by show Builtin.Str.tooLong (1 * 2) = false; decide⟩, ?_⟩
    unfold Txt.mul
    rw [if_neg (by decide), if_neg (by intro h; simp [Str.length] at h)]
    rfl
theorem cutS_last {z : Str} {y : Nat} (h : z.cps.toList.getLast? = some y) : cutS z (some (-1)) none = ⟨#[y]⟩ := by
  obtain ⟨ini, e⟩ : ∃ ini, z.cps.toList = ini ++ [y] := by
    refine ⟨z.cps.toList.dropLast, ?_⟩
    have n : z.cps.toList ≠ [] := by intro q; rw [q] at h; cases h
    have := List.dropLast_concat_getLast n
    rw [List.getLast?_eq_some_getLast n] at h
    rw [← Option.some.inj h]; exact this.symm
  have hl : z.length = ini.length + 1 := by
    show z.cps.size = _
    rw [← Array.length_toList, e, List.length_append]; rfl
  unfold cutS
  have e1 : HT.sIx z.length 0 (some (-1)) = ini.length := by
    show (if (-1 : Int) < 0 then ((-1 : Int) + (z.length : Int)).toNat else min (-1 : Int).toNat z.length) = _
    rw [if_pos (by decide), hl]; omega
  have e2 : HT.sIx z.length z.length none = z.length := HT.sIx_none _ _
  rw [e1, e2, e, hl]
  simp
end GG
namespace GG
open PySem PySem.Spec L2
theorem LS.mem {H : Hp} : ∀ {Ss : List (List Str)} {vs : List V}, LS H Ss vs → ∀ v ∈ vs, ∃ q o, v = .ref q ∧ H q = some o
  | [], vs, h, v, hv => by subst h; simp at hv
  | S :: Ss, vs, ⟨q, r, e, h1, h2⟩, v, hv => by
    subst e
    rcases List.mem_cons.mp hv with z | z
    · exact ⟨q, _, z, h1⟩
    · exact LS.mem h2 v z
theorem LS.keep {H H' : Hp} {q : Addr} (s : ∀ b o, b ≠ q → H b = some o → H' b = some o) : ∀ {Ss : List (List Str)} {vs : List V}, LS H Ss vs → V.ref q ∉ vs → LS H' Ss vs
  | [], vs, h, _ => h
  | S :: Ss, vs, ⟨b, r, e, h1, h2⟩, n => by
    subst e
    have n1 : b ≠ q := fun z => n (by rw [z]; exact List.mem_cons_self ..)
    exact ⟨b, r, rfl, s _ _ n1 h1, LS.keep s h2 fun z => n (List.mem_cons_of_mem _ z)⟩
theorem LS.put {H H' : Hp} {q : Addr} {S : List Str} (s : ∀ b o, b ≠ q → H b = some o → H' b = some o) (hq : H' q = some (.lst (S.map V.str))) :
    ∀ {Ss : List (List Str)} {vs : List V} {j : Nat}, LS H Ss vs → vs.Nodup → vs[j]? = some (.ref q) → LS H' (Ss.set j S) vs
  | [], vs, j, h, _, e => by subst h; simp at e
  | R :: Ss, vs, 0, ⟨b, r, e, h1, h2⟩, nd, hj => by
    subst e
    simp at hj; subst hj
    exact ⟨b, r, rfl, hq, h2.keep s (List.nodup_cons.mp nd).1⟩
  | R :: Ss, vs, j + 1, ⟨b, r, e, h1, h2⟩, nd, hj => by
    subst e
    have hj' : r[j]? = some (.ref q) := by simpa using hj
    have n1 : b ≠ q := fun z => (List.nodup_cons.mp nd).1 (by rw [z]; exact List.mem_of_getElem? hj')
    exact ⟨b, r, rfl, s _ _ n1 h1, LS.put s hq h2 (List.nodup_cons.mp nd).2 hj'⟩
theorem flat_put {n : Str} : ∀ {Ss : List (List Str)} {j : Nat} {R : List Str}, Ss[j]? = some R → (Ss.set j (R ++ [n])).flatten.Perm (Ss.flatten ++ [n])
  | [], j, R, h => by simp at h
  | S :: Ss, 0, R, h => by
    simp at h; subst h
    rw [List.set_cons_zero, List.flatten_cons, List.flatten_cons, List.append_assoc, List.append_assoc]
    exact (List.perm_append_left_iff _).mpr List.perm_append_comm
  | S :: Ss, j + 1, R, h => by
    rw [List.set_cons_succ, List.flatten_cons, List.flatten_cons, List.append_assoc]
    exact (List.perm_append_left_iff _).mpr (flat_put (by simpa using h))
theorem flat_filter : ∀ Ss : List (List Str), (Ss.filter fun R => !R.isEmpty).flatten = Ss.flatten
  | [] => rfl
  | [] :: Ss => by rw [List.filter_cons]; simpa using flat_filter Ss
  | (a :: l) :: Ss => by rw [List.filter_cons]; simpa using flat_filter Ss
theorem flat_rep (n : Nat) : (List.replicate n ([] : List Str)).flatten = [] := by
  induction n with
  | zero => rfl
  | succ n ih => rw [List.replicate_succ, List.flatten_cons, ih]; rfl
theorem flat_len : ∀ {Ss : List (List Str)}, (∀ R ∈ Ss, R ≠ []) → Ss.length ≤ Ss.flatten.length
  | [], _ => Nat.le_refl _
  | R :: Ss, h => by
    have := flat_len (Ss := Ss) fun R hR => h R (List.mem_cons_of_mem _ hR)
    have n := h R (List.mem_cons_self ..)
    have : 0 < R.length := by
      rcases Nat.eq_zero_or_pos R.length with z | z
      · exact absurd (List.length_eq_zero_iff.mp z) n
      · exact z
    rw [List.flatten_cons, List.length_append, List.length_cons]; omega
theorem flat_lt : ∀ {Ss : List (List Str)}, (∀ R ∈ Ss, R ≠ []) → 2 ≤ Ss.length → ∀ R ∈ Ss, R.length < Ss.flatten.length
  | [], _, h, R, hR => by simp at hR
  | S :: Ss, hn, h2, R, hR => by
    have fl := flat_len (Ss := Ss) fun R hR => hn R (List.mem_cons_of_mem _ hR)
    rw [List.length_cons] at h2
    rw [List.flatten_cons, List.length_append]
    rcases List.mem_cons.mp hR with z | z
    · subst z; omega
    · have ns := hn S (List.mem_cons_self ..)
      have : 0 < S.length := by
        rcases Nat.eq_zero_or_pos S.length with z | z
        · exact absurd (List.length_eq_zero_iff.mp z) ns
        · exact z
      have : R.length ≤ Ss.flatten.length := (List.sublist_flatten_of_mem z).length_le
      omega
theorem cutV_take1 {xs : List V} : cutV xs none (some 1) = xs.take 1 := by
  unfold cutV
  rw [HT.sIx_none, show (1 : Int) = ((1 : Nat) : Int) from rfl, HT.sIx_nat, List.drop_zero]
  cases xs with
  | nil => rfl
  | cons a l => simp
theorem cutV_drop1 {xs : List V} : cutV xs (some 1) none = xs.drop 1 := by
  unfold cutV
  rw [HT.sIx_none, show (1 : Int) = ((1 : Nat) : Int) from rfl, HT.sIx_nat]
  cases xs with
  | nil => rfl
  | cons a l => simp
end GG
namespace GG
open PySem PySem.Spec L2
end GG
/-! the plain law of the counts -/
namespace GG
open PySem L2
mutual
theorem T.low_congr {S S' : List Str} : ∀ (t : T), (∀ x ∈ t.names, x ∈ S ↔ x ∈ S') → t.low S = t.low S'
  | .leaf n, h => by
    have := h n (List.mem_cons_self ..)
    rw [T.low, T.low]
    by_cases q : n ∈ S
    · rw [if_pos q, if_pos (this.mp q)]
    · rw [if_neg q, if_neg (fun z => q (this.mpr z))]
  | .grp rk ps, h => by
    rw [T.low, T.low, T.lowL_congr ps fun x hx => h x (by rw [T.names]; exact hx)]
theorem T.lowL_congr {S S' : List Str} : ∀ (ts : List T), (∀ x ∈ T.namesL ts, x ∈ S ↔ x ∈ S') → T.lowL S ts = T.lowL S' ts
  | [], _ => rfl
  | t :: ts, h => by
    rw [T.lowL, T.lowL, T.low_congr t fun x hx => h x (by rw [T.namesL]; exact List.mem_append_left _ hx), T.lowL_congr ts fun x hx => h x (by rw [T.namesL]; exact List.mem_append_right _ hx)]
end
mutual
theorem T.low_le {S : List Str} : ∀ t : T, t.low S ≤ t.width
  | .leaf n => by rw [T.low, T.width]; split <;> omega
  | .grp rk ps => by rw [T.low, T.width]; exact List.length_filter_le _ _
theorem T.lowL_le {S : List Str} : ∀ ts : List T, T.lowL S ts ≤ T.taken ts
  | [] => Nat.le_refl _
  | t :: ts => by rw [T.lowL, T.taken]; have := T.low_le (S := S) t; have := T.lowL_le (S := S) ts; omega
end
theorem cnt_mono {l : List Int} {a b : Int} (h : a ≤ b) : (l.filter fun r => decide (r ≤ a)).length ≤ (l.filter fun r => decide (r ≤ b)).length := by
  rw [← List.countP_eq_length_filter, ← List.countP_eq_length_filter]
  exact List.countP_mono_left fun x _ hx => decide_eq_true (by have := of_decide_eq_true hx; omega)
theorem cnt_step : ∀ {l : List Int} {a : Int}, l.Pairwise (· < ·) → (l.filter fun r => decide (r ≤ a + 1)).length ≤ (l.filter fun r => decide (r ≤ a)).length + 1
  | [], a, _ => by simp
  | x :: l, a, p => by
    have q := List.pairwise_cons.mp p
    rw [List.filter_cons, List.filter_cons]
    by_cases h : x ≤ a
    · have h' : x ≤ a + 1 := by omega
      rw [if_pos (decide_eq_true h), if_pos (decide_eq_true h'), List.length_cons, List.length_cons]
      have := cnt_step (l := l) (a := a) q.2
      omega
    · have rest : l.filter (fun r => decide (r ≤ a + 1)) = [] := by
        rw [List.filter_eq_nil_iff]
        intro y hy
        have := q.1 y hy
        simp only [decide_eq_true_eq]
        omega
      split
      · rw [rest, List.length_cons, List.length_nil]; omega
      · rw [rest, List.length_nil]; omega
mutual
theorem T.low_step {S : List Str} {x : Str} : ∀ (t : T), t.Sh → t.names.Nodup → t.low S ≤ t.low (x :: S) ∧ t.low (x :: S) ≤ t.low S + (if x ∈ t.names then 1 else 0)
  | .leaf n, _, _ => by
    rw [T.low, T.low, T.names]
    by_cases q : n ∈ S
    · rw [if_pos q, if_pos (List.mem_cons_of_mem _ q)]
      constructor
      · omega
      · split <;> omega
    · rw [if_neg q]
      by_cases z : n = x
      · subst z
        rw [if_pos (List.mem_cons_self ..), if_pos (List.mem_cons_self ..)]
        omega
      · rw [if_neg (by intro w; rcases List.mem_cons.mp w with w | w; exact z w; exact q w)]
        omega
  | .grp rk ps, sh, nd => by
    rw [T.Sh] at sh
    rw [T.names] at nd ⊢
    obtain ⟨a, b⟩ := T.lowL_step (S := S) (x := x) ps sh.2.2 nd
    rw [T.low, T.low]
    refine ⟨cnt_mono (by omega), ?_⟩
    split
    · rename_i hx
      rw [if_pos hx] at b
      have h1 := cnt_mono (l := rk) (a := (T.lowL (x :: S) ps : Int)) (b := (T.lowL S ps : Int) + 1) (by omega)
      have h2 := cnt_step (l := rk) (a := (T.lowL S ps : Int)) sh.2.1.asc
      omega
    · rename_i hx
      rw [if_neg hx] at b
      have h1 := cnt_mono (l := rk) (a := (T.lowL (x :: S) ps : Int)) (b := (T.lowL S ps : Int)) (by omega)
      omega
theorem T.lowL_step {S : List Str} {x : Str} : ∀ (ts : List T), T.ShL ts → (T.namesL ts).Nodup → T.lowL S ts ≤ T.lowL (x :: S) ts ∧ T.lowL (x :: S) ts ≤ T.lowL S ts + (if x ∈ T.namesL ts then 1 else 0)
  | [], _, _ => by rw [T.lowL, T.lowL]; omega
  | t :: ts, sh, nd => by
    rw [T.ShL] at sh
    rw [T.namesL] at nd ⊢
    obtain ⟨n1, n2, n3⟩ := List.nodup_append.mp nd
    obtain ⟨a, b⟩ := T.low_step (S := S) (x := x) t sh.1 n1
    obtain ⟨c, d⟩ := T.lowL_step (S := S) (x := x) ts sh.2 n2
    rw [T.lowL, T.lowL]
    refine ⟨by omega, ?_⟩
    by_cases h1 : x ∈ t.names
    · have h2 : x ∉ T.namesL ts := fun h2 => n3 x h1 x h2 rfl
      rw [if_pos h1] at b
      rw [if_neg h2] at d
      rw [if_pos (List.mem_append_left _ h1)]
      omega
    · rw [if_neg h1] at b
      by_cases h2 : x ∈ T.namesL ts
      · rw [if_pos h2] at d
        rw [if_pos (List.mem_append_right _ h2)]
        omega
      · rw [if_neg h2] at d
        rw [if_neg (by intro w; rcases List.mem_append.mp w with w | w; exact h1 w; exact h2 w)]
        omega
end
mutual
theorem T.low_nil : ∀ t : T, t.Sh → t.low [] = 0
  | .leaf n, _ => by rw [T.low]; simp
  | .grp rk ps, sh => by
    rw [T.Sh] at sh
    rw [T.low, T.lowL_nil ps sh.2.2, List.length_eq_zero_iff, List.filter_eq_nil_iff]
    intro r hr
    have := sh.2.1.lo r hr
    simp only [decide_eq_true_eq]
    omega
theorem T.lowL_nil : ∀ ts : List T, T.ShL ts → T.lowL [] ts = 0
  | [], _ => rfl
  | t :: ts, sh => by rw [T.ShL] at sh; rw [T.lowL, T.low_nil t sh.1, T.lowL_nil ts sh.2]
end
/-- some sublist has just so many low ends -/
theorem T.exact {t : T} (sh : t.Sh) (nd : t.names.Nodup) {q : Nat} : ∀ (S : List Str), q ≤ t.low S → ∃ S', S'.Sublist S ∧ t.low S' = q
  | [], h => ⟨[], List.Sublist.slnil, by rw [T.low_nil t sh] at h ⊢; omega⟩
  | x :: S, h => by
    by_cases c : q ≤ t.low S
    · obtain ⟨S', a, b⟩ := T.exact sh nd S c
      exact ⟨S', a.cons _, b⟩
    · have st := (T.low_step (S := S) (x := x) t sh nd).2
      have : (if x ∈ t.names then 1 else 0) ≤ 1 := by split <;> omega
      exact ⟨x :: S, List.Sublist.refl _, by omega⟩
/-- c tells the least sizes of sublists with at least so many -/
def Lst (f : List Str → Nat) (ns : List Str) (c : List Int) : Prop :=
  ∀ q, q < c.length → (∀ S, S.Sublist ns → q ≤ f S → c.getD q 0 ≤ (S.length : Int)) ∧ ∃ S, S.Sublist ns ∧ q ≤ f S ∧ (S.length : Int) = c.getD q 0
theorem T.lowL_append (S : List Str) : ∀ (as bs : List T), T.lowL S (as ++ bs) = T.lowL S as + T.lowL S bs
  | [], bs => by rw [List.nil_append, T.lowL]; omega
  | a :: as, bs => by rw [List.cons_append, T.lowL, T.lowL, T.lowL_append S as bs]; omega
theorem T.namesL_append (as bs : List T) : T.namesL (as ++ bs) = T.namesL as ++ T.namesL bs := by
  rw [T.namesL_eq, T.namesL_eq, T.namesL_eq, List.flatMap_append]
end GG
namespace GG
open PySem L2
theorem Lst.mono {f : List Str → Nat} {ns : List Str} {c : List Int} (h : Lst f ns c) {i j : Nat} (hij : i ≤ j) (hj : j < c.length) : c.getD i 0 ≤ c.getD j 0 := by
  obtain ⟨S, a, b, e⟩ := (h j hj).2
  have := (h i (by omega)).1 S a (by omega)
  omega
end GG
/-! the ends of a tree with given worths -/
namespace GG
open PySem L2
def srt (l : List Int) : List Int := l.mergeSort fun a b => decide (a ≤ b)
theorem srt_perm (l : List Int) : (srt l).Perm l := List.mergeSort_perm _ _
theorem srt_asc (l : List Int) : (srt l).Pairwise (· ≤ ·) := by
  have h := List.pairwise_mergeSort (le := fun a b : Int => decide (a ≤ b)) (fun a b c h1 h2 => decide_eq_true (by have := of_decide_eq_true h1; have := of_decide_eq_true h2; omega)) (fun a b => by
    by_cases h : a ≤ b
    · simp [h]
    · have : b ≤ a := by omega
      simp [this]) l
  exact h.imp fun q => of_decide_eq_true q
theorem srt_uniq {a b : List Int} (p : a.Perm b) (ha : a.Pairwise (· ≤ ·)) (hb : b.Pairwise (· ≤ ·)) : a = b := by
  induction a generalizing b with
  | nil => exact (List.length_eq_zero_iff.mp (by simpa using p.length_eq.symm)).symm
  | cons x a ih =>
    cases b with
    | nil => exact absurd p.length_eq (by simp)
    | cons y b =>
      obtain ⟨a1, a2⟩ := List.pairwise_cons.mp ha
      obtain ⟨b1, b2⟩ := List.pairwise_cons.mp hb
      have e : x = y := by
        rcases List.mem_cons.mp (p.mem_iff.mp (List.mem_cons_self ..)) with z | z
        · exact z
        · rcases List.mem_cons.mp (p.mem_iff.mpr (List.mem_cons_self ..)) with w | w
          · exact w.symm
          · have := b1 x z; have := a1 y w; omega
      subst e
      rw [ih (List.perm_cons x |>.mp p) a2 b2]
theorem srt_of {a l : List Int} (p : a.Perm l) (ha : a.Pairwise (· ≤ ·)) : a = srt l := srt_uniq (p.trans (srt_perm l).symm) ha (srt_asc l)
mutual
def T.ends (W : Str → Int) : T → List Int
  | .leaf n => [W n]
  | .grp rk ps => rk.map fun r => (srt (T.endsL W ps)).getD (r.toNat - 1) 0
def T.endsL (W : Str → Int) : List T → List Int
  | [] => []
  | t :: ts => t.ends W ++ T.endsL W ts
end
theorem T.ends_len (W : Str → Int) : ∀ t : T, (t.ends W).length = t.width
  | .leaf _ => rfl
  | .grp rk ps => by rw [T.ends, T.width, List.length_map]
theorem T.endsL_len (W : Str → Int) : ∀ ts : List T, (T.endsL W ts).length = T.taken ts
  | [] => rfl
  | t :: ts => by rw [T.endsL, T.taken, List.length_append, T.ends_len, T.endsL_len W ts]
def cle (l : List Int) (b : Int) : Nat := (l.filter fun d => decide (d ≤ b)).length
theorem cle_perm {a l : List Int} (p : a.Perm l) (b : Int) : cle a b = cle l b := (p.filter _).length_eq
theorem cle_append (a l : List Int) (b : Int) : cle (a ++ l) b = cle a b + cle l b := by unfold cle; rw [List.filter_append, List.length_append]
/-- of an ascending list the first are those up to b -/
theorem cle_at : ∀ {l : List Int} {b : Int} {i : Nat}, l.Pairwise (· ≤ ·) → i < l.length → (l.getD i 0 ≤ b ↔ i < cle l b)
  | [], b, i, _, h => by simp at h
  | x :: l, b, i, p, h => by
    obtain ⟨p1, p2⟩ := List.pairwise_cons.mp p
    have c : cle (x :: l) b = if x ≤ b then cle l b + 1 else cle l b := by
      unfold cle
      rw [List.filter_cons]
      by_cases q : x ≤ b
      · rw [if_pos (decide_eq_true q), if_pos q, List.length_cons]
      · rw [if_neg (by simpa using q), if_neg q]
    have z : ¬ x ≤ b → cle l b = 0 := fun q => by
      unfold cle
      rw [List.length_eq_zero_iff, List.filter_eq_nil_iff]
      intro y hy
      have := p1 y hy
      simp only [decide_eq_true_eq]
      omega
    cases i with
    | zero =>
      rw [List.getD_cons_zero, c]
      by_cases q : x ≤ b
      · rw [if_pos q]; exact ⟨fun _ => by omega, fun _ => q⟩
      · rw [if_neg q, z q]; exact ⟨fun w => absurd w q, fun w => by omega⟩
    | succ i =>
      rw [List.length_cons] at h
      rw [List.getD_cons_succ, c, cle_at (b := b) p2 (by omega)]
      by_cases q : x ≤ b
      · rw [if_pos q]; omega
      · rw [if_neg q, z q]; omega
mutual
/-- the ends up to b are the low ends of the leaves with worths up to b -/
theorem T.ends_low {W : Str → Int} {S : List Str} {b : Int} : ∀ (t : T), t.Sh → (∀ n ∈ t.names, n ∈ S ↔ W n ≤ b) → cle (t.ends W) b = t.low S
  | .leaf n, _, h => by
    have := h n (List.mem_cons_self ..)
    rw [T.ends, T.low]
    unfold cle
    rw [List.filter_cons, List.filter_nil]
    by_cases q : W n ≤ b
    · rw [if_pos (decide_eq_true q), if_pos (this.mpr q)]; rfl
    · rw [if_neg (by simpa using q), if_neg (fun z => q (this.mp z))]; rfl
  | .grp rk ps, sh, h => by
    rw [T.Sh] at sh
    have ih := T.endsL_low (W := W) (S := S) (b := b) ps sh.2.2 fun n hn => h n (by rw [T.names]; exact hn)
    have c2 := cle_perm (srt_perm (T.endsL W ps)) b
    have sl : (srt (T.endsL W ps)).length = T.taken ps := by rw [(srt_perm _).length_eq, T.endsL_len]
    rw [T.ends, T.low]
    unfold cle
    rw [List.filter_map, List.length_map]
    congr 1
    refine List.filter_congr fun r hr => ?_
    have r1 := sh.2.1.lo r hr
    have r2 := sh.2.1.hi r hr
    simp only [Function.comp]
    refine decide_eq_decide.mpr ?_
    rw [cle_at (srt_asc _) (by omega), c2, ih]
    omega
theorem T.endsL_low {W : Str → Int} {S : List Str} {b : Int} : ∀ (ts : List T), T.ShL ts → (∀ n ∈ T.namesL ts, n ∈ S ↔ W n ≤ b) → cle (T.endsL W ts) b = T.lowL S ts
  | [], _, _ => rfl
  | t :: ts, sh, h => by
    rw [T.ShL] at sh
    rw [T.endsL, T.lowL, cle_append, T.ends_low t sh.1 fun n hn => h n (by rw [T.namesL]; exact List.mem_append_left _ hn), T.endsL_low ts sh.2 fun n hn => h n (by rw [T.namesL]; exact List.mem_append_right _ hn)]
end
theorem srt_mono {l : List Int} {i j : Nat} (h : i ≤ j) (hj : j < l.length) : (srt l).getD i 0 ≤ (srt l).getD j 0 := by
  have sl : (srt l).length = l.length := (srt_perm l).length_eq
  rcases Nat.lt_or_ge i j with q | q
  · have := List.pairwise_iff_getElem.mp (srt_asc l) i j (by omega) (by omega) q
    rw [List.getD_eq_getElem?_getD, List.getD_eq_getElem?_getD, List.getElem?_eq_getElem (by omega), List.getElem?_eq_getElem (by omega)]
    exact this
  · have : i = j := by omega
    subst this; exact Int.le_refl _
theorem T.ends_asc {W : Str → Int} : ∀ (t : T), t.Sh → (t.ends W).Pairwise (· ≤ ·)
  | .leaf n, _ => by rw [T.ends]; simp
  | .grp rk ps, sh => by
    rw [T.Sh] at sh
    rw [T.ends, List.pairwise_map]
    have all : ∀ {l : List Int}, (∀ r ∈ l, r ∈ rk) → l.Pairwise (· < ·) → l.Pairwise (fun a c => (srt (T.endsL W ps)).getD (a.toNat - 1) 0 ≤ (srt (T.endsL W ps)).getD (c.toNat - 1) 0) := by
      intro l
      induction l with
      | nil => intro _ _; exact List.Pairwise.nil
      | cons x l ih =>
        intro hm p
        obtain ⟨p1, p2⟩ := List.pairwise_cons.mp p
        refine List.pairwise_cons.mpr ⟨fun y hy => ?_, ih (fun r hr => hm r (List.mem_cons_of_mem _ hr)) p2⟩
        have a := p1 y hy
        have b := sh.2.1.lo x (hm x (List.mem_cons_self ..))
        have c := sh.2.1.hi y (hm y (List.mem_cons_of_mem _ hy))
        exact srt_mono (by omega) (by rw [T.endsL_len]; omega)
    exact all (fun r hr => hr) sh.2.1.asc
end GG
/-! leaves on which an end hangs -/
namespace GG
open PySem L2
/-- low ends of the parts without the leaf n -/
def T.others (n : Str) (ps : List T) : List T := ps.filter fun t => !decide (n ∈ t.names)
mutual
/-- the numbers of low ends to which one more comes with the leaf n, L low and any of F -/
def T.SW (n : Str) (L F : List Str) : T → Int → Prop
  | .leaf _, k => k = 0
  | .grp rk ps, k => ∃ num more : Int, T.SWL n L F ps num ∧ (T.lowL L (T.others n ps) : Int) ≤ more ∧ more ≤ (T.lowL (L ++ F) (T.others n ps) : Int) ∧ num + more + 1 ∈ rk ∧ k = ((rk.filter fun r => decide (r ≤ num + more)).length : Int)
def T.SWL (n : Str) (L F : List Str) : List T → Int → Prop
  | [], _ => False
  | t :: ts, k => (n ∈ t.names ∧ t.SW n L F k) ∨ T.SWL n L F ts k
end
theorem T.SWL_iff {n : Str} {L F : List Str} {k : Int} : ∀ {ts : List T}, T.SWL n L F ts k ↔ ∃ p ∈ ts, n ∈ p.names ∧ p.SW n L F k
  | [] => by rw [T.SWL]; simp
  | t :: ts => by rw [T.SWL, T.SWL_iff (ts := ts)]; simp
theorem T.lowL_mono {S S' : List Str} (ts : List T) (sh : T.ShL ts) (h : ∀ x ∈ S, x ∈ S') (nd : (T.namesL ts).Nodup) : T.lowL S ts ≤ T.lowL S' ts := by
  have key : ∀ (A : List Str), T.lowL S ts ≤ T.lowL (A ++ S) ts := by
    intro A
    induction A with
    | nil => exact Nat.le_refl _
    | cons a A ih => exact Nat.le_trans ih (T.lowL_step (S := A ++ S) (x := a) ts sh nd).1
  refine Nat.le_trans (key S') (Nat.le_of_eq (T.lowL_congr ts fun x _ => ?_))
  rw [List.mem_append]
  exact ⟨fun q => q.elim id (h x), .inl⟩
theorem T.low_mono {S S' : List Str} (t : T) (sh : t.Sh) (h : ∀ x ∈ S, x ∈ S') (nd : t.names.Nodup) : t.low S ≤ t.low S' := by
  have := T.lowL_mono (S := S) (S' := S') [t] (by rw [T.ShL]; exact ⟨sh, trivial⟩) h (by rw [T.namesL, T.namesL, List.append_nil]; exact nd)
  rw [T.lowL, T.lowL, T.lowL, T.lowL] at this
  omega
theorem T.mem_namesL {x : Str} : ∀ {ts : List T}, x ∈ T.namesL ts ↔ ∃ t ∈ ts, x ∈ t.names
  | [] => by rw [T.namesL]; simp
  | t :: ts => by rw [T.namesL, List.mem_append, T.mem_namesL (ts := ts)]; simp
end GG
/-! an end hangs on a leaf: by swings, by all worths -/
namespace GG
open PySem L2
theorem getD_mem {l : List Int} {i : Nat} (h : i < l.length) : l.getD i 0 ∈ l := by
  rw [List.getD_eq_getElem?_getD, List.getElem?_eq_getElem h]
  exact List.getElem_mem h
mutual
theorem T.ends_mem {W : Str → Int} : ∀ (t : T), t.Sh → ∀ x ∈ t.ends W, ∃ n ∈ t.names, x = W n
  | .leaf z, _, x, h => ⟨z, List.mem_cons_self .., by rw [T.ends] at h; exact List.mem_singleton.mp h⟩
  | .grp rk ps, sh, x, h => by
    rw [T.Sh] at sh
    rw [T.ends] at h
    obtain ⟨r, hr, rfl⟩ := List.mem_map.mp h
    have r1 := sh.2.1.lo r hr
    have r2 := sh.2.1.hi r hr
    have sl : (srt (T.endsL W ps)).length = T.taken ps := by rw [(srt_perm _).length_eq, T.endsL_len]
    have m := (srt_perm (T.endsL W ps)).mem_iff.mp (getD_mem (l := srt (T.endsL W ps)) (i := r.toNat - 1) (by omega))
    exact T.endsL_mem ps sh.2.2 _ m
theorem T.endsL_mem {W : Str → Int} : ∀ (ts : List T), T.ShL ts → ∀ x ∈ T.endsL W ts, ∃ n ∈ T.namesL ts, x = W n
  | [], _, x, h => by rw [T.endsL] at h; simp at h
  | t :: ts, sh, x, h => by
    rw [T.ShL] at sh
    rw [T.endsL] at h
    rw [T.namesL]
    rcases List.mem_append.mp h with q | q
    · obtain ⟨n, a, b⟩ := T.ends_mem t sh.1 x q
      exact ⟨n, List.mem_append_left _ a, b⟩
    · obtain ⟨n, a, b⟩ := T.endsL_mem ts sh.2 x q
      exact ⟨n, List.mem_append_right _ a, b⟩
end
/-- end j up to b: j low ends -/
theorem T.end_le {W : Str → Int} {S : List Str} {b : Int} {t : T} (sh : t.Sh) {j : Nat} (h1 : 1 ≤ j) (h2 : j ≤ t.width) (h : ∀ n ∈ t.names, n ∈ S ↔ W n ≤ b) : (t.ends W).getD (j - 1) 0 ≤ b ↔ j ≤ t.low S := by
  rw [cle_at (T.ends_asc t sh) (by rw [T.ends_len]; omega), T.ends_low t sh h]
  omega
def rowB (W : Str → Int) (known : List Str) (b : Int) : List Str := known.filter fun y => decide (W y ≤ b)
theorem rowB_mem {W : Str → Int} {known : List Str} {b : Int} {y : Str} : y ∈ rowB W known b ↔ y ∈ known ∧ W y ≤ b := by unfold rowB; rw [List.mem_filter]; simp
/-- end j hangs on n, the leaves F free, the others known -/
def Hang (t : T) (W : Str → Int) (n : Str) (known F : List Str) (j : Nat) : Prop := ∃ (b : Int) (S : List Str), (∀ x ∈ S, x ∈ F) ∧ t.low (S ++ rowB W known b) + 1 = j ∧ t.low (n :: (S ++ rowB W known b)) = j
/-- what the program looks at -/
def CanSw (t : T) (W : Str → Int) (n : Str) (known F : List Str) (j : Int) : Prop := t.SW n [] F (j - 1) ∨ ∃ z ∈ known, t.SW n (rowB W known (W z)) F (j - 1)
end GG
/-! ends by pairs (kind, worth); both sides of an end -/
namespace GG
open PySem L2
mutual
def T.endsP (C : Str → Int × Int) : T → List (Int × Int)
  | .leaf n => [C n]
  | .grp rk ps => rk.map fun r => ((T.endsPL C ps).mergeSort iLe).getD (r.toNat - 1) (0, 0)
def T.endsPL (C : Str → Int × Int) : List T → List (Int × Int)
  | [] => []
  | t :: ts => t.endsP C ++ T.endsPL C ts
end
def dec (B c : Int) : Int × Int := if c ≤ -B then (0, 0) else if B ≤ c then (2, 0) else (1, c)
theorem dec_le {B : Int} (hB : 0 < B) {a b : Int} (a1 : -B ≤ a) (a2 : a ≤ B) (b1 : -B ≤ b) (b2 : b ≤ B) : decide (a ≤ b) = iLe (dec B a) (dec B b) := by
  unfold iLe dec
  refine decide_eq_decide.mpr ?_
  by_cases h1 : a ≤ -B <;> by_cases h2 : b ≤ -B <;> by_cases h3 : B ≤ a <;> by_cases h4 : B ≤ b <;> simp [h1, h2, h3, h4] <;> omega
theorem getD_mapP {l : List Int} {f : Int → Int × Int} {i : Nat} (h : i < l.length) : (l.map f).getD i (0, 0) = f (l.getD i 0) := by
  rw [List.getD_eq_getElem?_getD, List.getD_eq_getElem?_getD, List.getElem?_map, List.getElem?_eq_getElem h]
  rfl
mutual
theorem T.endsP_dec {B : Int} (hB : 0 < B) {C : Str → Int × Int} {W : Str → Int} : ∀ (t : T), t.Sh → (∀ n ∈ t.names, -B ≤ W n ∧ W n ≤ B ∧ C n = dec B (W n)) → t.endsP C = (t.ends W).map (dec B)
  | .leaf n, _, h => by
    rw [T.endsP, T.ends, (h n (List.mem_cons_self ..)).2.2]
    rfl
  | .grp rk ps, sh, h => by
    rw [T.Sh] at sh
    have ih := T.endsPL_dec hB (C := C) (W := W) ps sh.2.2 fun n hn => h n (by rw [T.names]; exact hn)
    have bd : ∀ x ∈ T.endsL W ps, -B ≤ x ∧ x ≤ B := fun x hx => by
      obtain ⟨n, hn, rfl⟩ := T.endsL_mem ps sh.2.2 x hx
      have := h n (by rw [T.names]; exact hn)
      exact ⟨this.1, this.2.1⟩
    have sl : (srt (T.endsL W ps)).length = T.taken ps := by rw [(srt_perm _).length_eq, T.endsL_len]
    rw [T.endsP, T.ends, List.map_map]
    refine List.map_congr_left fun r hr => ?_
    have r1 := sh.2.1.lo r hr
    have r2 := sh.2.1.hi r hr
    show _ = dec B ((srt (T.endsL W ps)).getD (r.toNat - 1) 0)
    rw [← getD_mapP (f := dec B) (l := srt (T.endsL W ps)) (by omega), ih]
    congr 1
    exact (PySem.W.sort_maps (dec B) fun a ha b hb => dec_le hB (bd a ha).1 (bd a ha).2 (bd b hb).1 (bd b hb).2).symm
theorem T.endsPL_dec {B : Int} (hB : 0 < B) {C : Str → Int × Int} {W : Str → Int} : ∀ (ts : List T), T.ShL ts → (∀ n ∈ T.namesL ts, -B ≤ W n ∧ W n ≤ B ∧ C n = dec B (W n)) → T.endsPL C ts = (T.endsL W ts).map (dec B)
  | [], _, _ => rfl
  | t :: ts, sh, h => by
    rw [T.ShL] at sh
    rw [T.endsPL, T.endsL, List.map_append, T.endsP_dec hB t sh.1 fun n hn => h n (by rw [T.namesL]; exact List.mem_append_left _ hn), T.endsPL_dec hB ts sh.2 fun n hn => h n (by rw [T.namesL]; exact List.mem_append_right _ hn)]
end
theorem T.endsP_len (C : Str → Int × Int) : ∀ t : T, (t.endsP C).length = t.width
  | .leaf _ => rfl
  | .grp rk ps => by rw [T.endsP, T.width, List.length_map]
theorem T.endsPL_len (C : Str → Int × Int) : ∀ ts : List T, (T.endsPL C ts).length = T.taken ts
  | [] => rfl
  | t :: ts => by rw [T.endsPL, T.taken, List.length_append, T.endsP_len, T.endsPL_len C ts]
theorem T.endsPL_take {C : Str → Int × Int} {ts : List T} {i : Nat} {t : T} (h : ts[i]? = some t) : T.endsPL C (ts.take (i + 1)) = T.endsPL C (ts.take i) ++ t.endsP C := by
  have ap : ∀ as bs : List T, T.endsPL C (as ++ bs) = T.endsPL C as ++ T.endsPL C bs := by
    intro as
    induction as with
    | nil => intro bs; rfl
    | cons a as ih => intro bs; rw [List.cons_append, T.endsPL, T.endsPL, ih, List.append_assoc]
  rw [List.take_add_one, h, ap]
  show _ ++ (t.endsP C ++ []) = _
  rw [List.append_nil]
/-! ### both sides of an end -/
/-- a side: none beyond B -/
def sideV (B e : Int) : Option Int := if e ≤ -B ∨ B ≤ e then none else some e
theorem sideV_some {B e x : Int} : sideV B e = some x ↔ x = e ∧ -B < e ∧ e < B := by
  unfold sideV
  split
  · constructor
    · intro h; cases h
    · rintro ⟨_, h1, h2⟩; omega
  · constructor
    · intro h; have := Option.some.inj h; omega
    · rintro ⟨rfl, _⟩; rfl
section
variable {t : T} {W L U : Str → Int} {known lack : List Str} {B : Int} {j : Nat}
/-- known leaves have their worths, the lacking ones are far below, or far above -/
structure Sides (t : T) (W L U : Str → Int) (known lack : List Str) (B : Int) : Prop where
  sh : t.Sh
  nd : t.names.Nodup
  B0 : 0 < B
  part : ∀ n ∈ t.names, n ∈ known ↔ n ∉ lack
  kn : ∀ n ∈ known, n ∈ t.names ∧ L n = W n ∧ U n = W n ∧ -B < W n ∧ W n < B
  lk : ∀ n ∈ lack, n ∈ t.names ∧ L n = -B ∧ U n = B
theorem Sides.low (h : Sides t W L U known lack B) (j1 : 1 ≤ j) (j2 : j ≤ t.width) {b : Int} (hb : -B ≤ b) : (t.ends L).getD (j - 1) 0 ≤ b ↔ j ≤ t.low (lack ++ rowB W known b) := T.end_le h.sh j1 j2 fun n hn => by
  rw [List.mem_append, rowB_mem]
  by_cases c : n ∈ lack
  · rw [(h.lk n c).2.1]
    exact ⟨fun _ => hb, fun _ => .inl c⟩
  · have k := (h.part n hn).mpr c
    rw [(h.kn n k).2.1]
    exact ⟨fun q => q.elim (fun q => absurd q c) fun q => q.2, fun q => .inr ⟨k, q⟩⟩
theorem Sides.high (h : Sides t W L U known lack B) (j1 : 1 ≤ j) (j2 : j ≤ t.width) {b : Int} (hb : b < B) : (t.ends U).getD (j - 1) 0 ≤ b ↔ j ≤ t.low (rowB W known b) := T.end_le h.sh j1 j2 fun n hn => by
  rw [rowB_mem]
  by_cases c : n ∈ lack
  · rw [(h.lk n c).2.2]
    exact ⟨fun q => absurd c ((h.part n hn).mp q.1), fun q => by omega⟩
  · have k := (h.part n hn).mpr c
    rw [(h.kn n k).2.2.1]
    exact ⟨fun q => q.2, fun q => ⟨k, q⟩⟩
theorem Sides.within (h : Sides t W L U known lack B) (j1 : 1 ≤ j) (j2 : j ≤ t.width) : -B ≤ (t.ends L).getD (j - 1) 0 ∧ (t.ends L).getD (j - 1) 0 < B ∧ -B < (t.ends U).getD (j - 1) 0 ∧ (t.ends U).getD (j - 1) 0 ≤ B := by
  have mem : ∀ V : Str → Int, ∃ m ∈ t.names, (t.ends V).getD (j - 1) 0 = V m := fun V => T.ends_mem t h.sh _ (getD_mem (by rw [T.ends_len]; omega))
  obtain ⟨m, hm, em⟩ := mem L
  obtain ⟨m', hm', em'⟩ := mem U
  have B0 := h.B0
  have a : -B ≤ L m ∧ L m < B := by
    by_cases c : m ∈ lack
    · rw [(h.lk m c).2.1]; omega
    · have := h.kn m ((h.part m hm).mpr c); omega
  have b : -B < U m' ∧ U m' ≤ B := by
    by_cases c : m' ∈ lack
    · rw [(h.lk m' c).2.2]; omega
    · have := h.kn m' ((h.part m' hm').mpr c); omega
  omega
theorem Sides.le (h : Sides t W L U known lack B) (j1 : 1 ≤ j) (j2 : j ≤ t.width) : (t.ends L).getD (j - 1) 0 ≤ (t.ends U).getD (j - 1) 0 := by
  have wi := h.within j1 j2
  by_cases c : (t.ends U).getD (j - 1) 0 < B
  · have a := (h.high j1 j2 c).mp (Int.le_refl _)
    exact (h.low j1 j2 (by omega)).mpr (Nat.le_trans a (T.low_mono t h.sh (fun x hx => List.mem_append_right _ hx) h.nd))
  · omega
/-- from not enough to enough, there is a leaf that brings it -/
theorem crossing {R : List Str} (sh : t.Sh) (nd : t.names.Nodup) : ∀ (A : List Str), t.low R < j → j ≤ t.low (A ++ R) → ∃ n S, n ∈ A ∧ (∀ x ∈ S, x ∈ A) ∧ n ∉ S ∧ t.low (S ++ R) + 1 = j ∧ t.low (n :: (S ++ R)) = j
  | [], h1, h2 => by rw [List.nil_append] at h2; omega
  | x :: A, h1, h2 => by
    by_cases c : j ≤ t.low (A ++ R)
    · obtain ⟨n, S, a, b, d, e⟩ := crossing sh nd A h1 c
      exact ⟨n, S, List.mem_cons_of_mem _ a, fun y hy => List.mem_cons_of_mem _ (b y hy), d, e⟩
    · rw [List.cons_append] at h2
      have st := (T.low_step (S := A ++ R) (x := x) t sh nd).2
      have : (if x ∈ t.names then 1 else 0) ≤ 1 := by split <;> omega
      have nx : x ∉ A := fun q => by
        have := T.low_congr (S := x :: (A ++ R)) (S' := A ++ R) t fun y _ => by
          rw [List.mem_cons]
          exact ⟨fun z => z.elim (fun z => z ▸ List.mem_append_left _ q) id, .inr⟩
        omega
      exact ⟨x, A, List.mem_cons_self .., fun y hy => List.mem_cons_of_mem _ hy, nx, by omega, by omega⟩
/-- the two sides are one number just where no lacking leaf matters -/
theorem Sides.same (h : Sides t W L U known lack B) (j1 : 1 ≤ j) (j2 : j ≤ t.width) : (∀ n ∈ lack, ¬ Hang t W n known (lack.filter fun y => !decide (y = n)) j) ↔ sideV B ((t.ends L).getD (j - 1) 0) = sideV B ((t.ends U).getD (j - 1) 0) ∧ sideV B ((t.ends L).getD (j - 1) 0) ≠ none := by
  have wi := h.within j1 j2
  have le := h.le j1 j2
  have lo := fun b hb => h.low (b := b) j1 j2 hb
  have hi := fun b hb => h.high (b := b) j1 j2 hb
  have B0 := h.B0
  generalize eL : (t.ends L).getD (j - 1) 0 = l at wi le lo ⊢
  generalize eU : (t.ends U).getD (j - 1) 0 = u at wi le hi ⊢
  constructor
  · intro no
    have eq : l = u := by
      rcases Int.lt_or_le l u with q | q
      · exfalso
        have a := (lo l wi.1).mp (Int.le_refl _)
        have b : t.low (rowB W known l) < j := by
          rcases Nat.lt_or_ge (t.low (rowB W known l)) j with z | z
          · exact z
          · have := (hi l (by omega)).mpr z; omega
        obtain ⟨n, S, nl, sl, ns, e1, e2⟩ := crossing h.sh h.nd lack b a
        exact no n nl ⟨l, S, fun x hx => List.mem_filter.mpr ⟨sl x hx, by simp; rintro rfl; exact ns hx⟩, e1, e2⟩
      · omega
    subst eq
    have n1 : -B < l := by omega
    have n2 : l < B := by omega
    have e : sideV B l = some l := sideV_some.mpr ⟨rfl, n1, n2⟩
    rw [e]
    exact ⟨rfl, by simp⟩
  · rintro ⟨e1, e2⟩ n nl ⟨b, S, hS, g1, g2⟩
    obtain ⟨x, hx⟩ := Option.ne_none_iff_exists'.mp e2
    have q1 := sideV_some.mp hx
    rw [hx] at e1
    have q2 := sideV_some.mp e1.symm
    have lu : l = u := by omega
    rcases Int.lt_or_le b u with c | c
    · -- all lacking ones low are not enough
      have mono : t.low (n :: (S ++ rowB W known b)) ≤ t.low (lack ++ rowB W known (max b (-B))) := T.low_mono t h.sh (fun y hy => by
        rcases List.mem_cons.mp hy with z | z
        · subst z; exact List.mem_append_left _ nl
        · rcases List.mem_append.mp z with z | z
          · exact List.mem_append_left _ (List.mem_filter.mp (hS y z)).1
          · have := rowB_mem.mp z
            exact List.mem_append_right _ (rowB_mem.mpr ⟨this.1, by omega⟩)) h.nd
      have := (lo (max b (-B)) (by omega)).mpr (by omega)
      omega
    · have a := (hi u (by omega)).mp (Int.le_refl _)
      have mono : t.low (rowB W known u) ≤ t.low (S ++ rowB W known b) := T.low_mono t h.sh (fun y hy => by
        have := rowB_mem.mp hy
        exact List.mem_append_right _ (rowB_mem.mpr ⟨this.1, by omega⟩)) h.nd
      omega
end
end GG
/-! lists of texts as data -/
namespace GG
open PySem PySem.Spec L2
end GG
/-! an end hangs on a leaf: by all sets of the other free leaves, row by row -/
namespace GG
open PySem L2
end GG
/-! turns: the free leaf itself may stand among the free ones -/
namespace GG
open PySem L2
end GG
/-! worths come in one by one: the sides of an end -/
namespace GG
open PySem L2
def kW (W : Str → Int) (kn : List Str) (far : Int) (z : Str) : Int := if z ∈ kn then W z else far
theorem T.ends_mono {L U : Str → Int} {t : T} {j : Nat} (sh : t.Sh) (nd : t.names.Nodup) (j1 : 1 ≤ j) (j2 : j ≤ t.width) (h : ∀ n ∈ t.names, L n ≤ U n) : (t.ends L).getD (j - 1) 0 ≤ (t.ends U).getD (j - 1) 0 := by
  generalize hb : (t.ends U).getD (j - 1) 0 = b
  have mem : ∀ V : Str → Int, ∀ n ∈ t.names, n ∈ t.names.filter (fun z => decide (V z ≤ b)) ↔ V n ≤ b := fun V n hn => by rw [List.mem_filter]; simp [hn]
  have u := (T.end_le (W := U) (b := b) sh j1 j2 (mem U)).mp (by rw [hb]; exact Int.le_refl _)
  refine (T.end_le (W := L) (b := b) sh j1 j2 (mem L)).mpr (Nat.le_trans u (T.low_mono t sh (fun x hx => ?_) nd))
  obtain ⟨a, c⟩ := List.mem_filter.mp hx
  exact List.mem_filter.mpr ⟨a, decide_eq_true (Int.le_trans (h x a) (of_decide_eq_true c))⟩
section
variable {t : T} {W : Str → Int} {B : Int} {kn : List Str} {n : Str} {j : Nat}
structure Ins (t : T) (W : Str → Int) (B : Int) (kn : List Str) (j : Nat) : Prop where
  sh : t.Sh
  nd : t.names.Nodup
  B0 : 0 < B
  bd : ∀ z ∈ t.names, -B < W z ∧ W z < B
  kn : ∀ z ∈ kn, z ∈ t.names
  j1 : 1 ≤ j
  j2 : j ≤ t.width
def eLo (t : T) (W : Str → Int) (B : Int) (kn : List Str) (j : Nat) : Int := (t.ends (kW W kn (-B))).getD (j - 1) 0
def eHi (t : T) (W : Str → Int) (B : Int) (kn : List Str) (j : Nat) : Int := (t.ends (kW W kn B)).getD (j - 1) 0
theorem Ins.lo_end (h : Ins t W B kn j) : eLo t W B kn j ≤ (t.ends W).getD (j - 1) 0 := T.ends_mono h.sh h.nd h.j1 h.j2 fun z hz => by
  unfold kW
  have := h.bd z hz
  split <;> omega
theorem Ins.end_hi (h : Ins t W B kn j) : (t.ends W).getD (j - 1) 0 ≤ eHi t W B kn j := T.ends_mono h.sh h.nd h.j1 h.j2 fun z hz => by
  unfold kW
  have := h.bd z hz
  split <;> omega
/-- the full lot's end lies within -/
theorem Ins.within (h : Ins t W B kn j) : (∀ x, sideV B (eLo t W B kn j) = some x → x ≤ (t.ends W).getD (j - 1) 0) ∧ ∀ y, sideV B (eHi t W B kn j) = some y → (t.ends W).getD (j - 1) 0 ≤ y := by
  refine ⟨fun x hx => ?_, fun y hy => ?_⟩
  · rw [(sideV_some.mp hx).1]; exact h.lo_end
  · rw [(sideV_some.mp hy).1]; exact h.end_hi
theorem Ins.none_ (h : Ins t W B [] j) : sideV B (eLo t W B [] j) = none ∧ sideV B (eHi t W B [] j) = none := by
  have mem : ∀ far, (t.ends (kW W [] far)).getD (j - 1) 0 = far := fun far => by
    obtain ⟨m, hm, e⟩ := T.ends_mem t h.sh _ (getD_mem (l := t.ends (kW W [] far)) (i := j - 1) (by rw [T.ends_len]; have := h.j1; have := h.j2; omega))
    rw [e]; unfold kW; rw [if_neg (by simp)]
  unfold eLo eHi sideV
  rw [mem, mem]
  exact ⟨if_pos (.inl (Int.le_refl _)), if_pos (.inr (Int.le_refl _))⟩
end
end GG
/-! a head's look at the heap that sees getters, too -/
namespace GG
open PySem PySem.Spec L2
/-- a def by a path to it -/
structure GD where
  adr : PySem.W.Frag → Addr
  nm : Str
  qn : Str
  pr : Arguments
  bd : List Stmt
  sc : Scope
  dv : List V
def fnA (K : PySem.W.Frag) (a : Addr) : He.FnW :=
  (K.lookup a).bind fun o => match o.data with
    | .func fd => some (fd.name, fd.qualname, fd.params, fd.body, fd.scope, fd.globals, fd.closure, fd.builtins)
    | _ => none
def GD.val (d : GD) : He.FnW := some (d.nm, d.qn, d.pr, .stmts d.bd, d.sc, mainGlobals, [], builtinsNs)
def fdB (K : PySem.W.Frag) (a : Addr) (qn : Str) (dv : List V) : Bool := match (K.lookup a).map Obj.data with
  | some (.func fd) => PySem.W.codeIn K fd.code qn && He.dflB K fd.defaults dv && He.kwdB K fd.kwdefaults []
  | _ => false
def GD.ok (K : PySem.W.Frag) (d : GD) : Bool := fdB K (d.adr K) d.qn d.dv && PySem.W.keepIn K (.ref (d.adr K))
theorem GD.funD {K : PySem.W.Frag} {d : GD} (e : fnA K (d.adr K) = d.val) (c : d.ok K = true) : ∃ fd, FunD K d.nm d.qn d.pr d.bd d.sc d.dv [] (d.adr K) fd := by
  unfold GD.ok at c
  obtain ⟨c1, kp⟩ := Bool.and_eq_true_iff.mp c
  unfold fdB at c1
  unfold fnA at e
  rcases hL : K.lookup (d.adr K) with _ | ⟨oc, od, dat, sl⟩
  · rw [hL] at c1; exact absurd (show false = true from c1) (by decide)
  rw [hL] at c1 e
  cases dat with
  | func fd =>
    have c3 : (PySem.W.codeIn K fd.code d.qn && He.dflB K fd.defaults d.dv && He.kwdB K fd.kwdefaults []) = true := c1
    obtain ⟨k1, k2⟩ := Bool.and_eq_true_iff.mp c3
    obtain ⟨k3, k4⟩ := Bool.and_eq_true_iff.mp k1
    have e2 : some (fd.name, fd.qualname, fd.params, fd.body, fd.scope, fd.globals, fd.closure, fd.builtins) = some (d.nm, d.qn, d.pr, FuncBody.stmts d.bd, d.sc, mainGlobals, [], builtinsNs) := e
    refine ⟨fd, ⟨oc, od, fd.defaults, fd.kwdefaults, fd.doc, fd.pyModule, fd.annotations, fd.code, fd.closureTuple, sl, ?_, hL, k3, He.dflB_ok k4, He.kwdB_ok k2⟩, kp⟩
    obtain ⟨m1, m2, m3, m4, m5, m6, m7, m8, m9, m10, m11, m12, m13, m14, m15⟩ := fd
    injection e2 with e3
    injection e3 with z1 e3; injection e3 with z2 e3; injection e3 with z3 e3; injection e3 with z4 e3; injection e3 with z5 e3; injection e3 with z6 e3; injection e3 with z7 z8
    dsimp only at z1 z2 z3 z4 z5 z6 z7 z8
    rw [z1, z2, z3, z4, z5, z6, z7, z8]; try rfl
  | _ => exact absurd (show false = true from c1) (by decide)
/-- the getter of the property x of the class C -/
def gt (K : PySem.W.Frag) (C x : Str) : Addr := match PySem.W.recIn K (He.ma K (He.ga K C) x) "property" with
  | some (.ref g :: _) => g
  | _ => 0
inductive Fx where
  | ins (C : Str)
  | mk (C : Str)
  | kit (C D : Str) (b : Bool)
  | prop (C x : Str)
  | obj (C : Str)
  | ne (C : Str)
  | item (C m : Str)
  | nosq (C : Str)
  | tupl (x : Str) (vs : List He.Dv)
  | ali (y x : Str)
def Fx.ok (K : PySem.W.Frag) : Fx → Bool
  | .ins C => (He.Fa.cls C).ok K && He.eqO (PySem.W.findIn K (.ref (He.ga K C)) "__class__") (some (some (.builtin "object.__class__"))) && He.eqO (PySem.W.specialIn K (.builtin "object.__class__") "__get__") (some (some (.builtin "getset_descriptor.__get__"))) &&
      decide (PySem.W.takesIn K (.builtin "object.__class__") = some true) && decide (PySem.W.mroIn K (He.ga K C) (.type "object") = some true)
  | .mk C => PySem.W.makesIn K (He.ga K C) && PySem.W.keepIn K (.ref (He.ga K C))
  | .kit C D b => decide (PySem.W.kitOne K (.ref (He.ga K C)) (.ref (He.ga K D)) = some b)
  | .prop C x => He.eqO (PySem.W.findIn K (.ref (He.ga K C)) x) (some (some (.ref (He.ma K (He.ga K C) x)))) && He.eqO (PySem.W.specialIn K (.ref (He.ma K (He.ga K C) x)) "__get__") (some (some (.builtin "property.__get__"))) &&
      decide (PySem.W.takesIn K (.ref (He.ma K (He.ga K C) x)) = some true) && (match PySem.W.recIn K (He.ma K (He.ga K C) x) "property" with
      | some (.ref _ :: _) => true
      | _ => false)
  | .obj C => (He.Fa.cls C).ok K && decide (PySem.W.mroIn K (He.ga K C) (.type "object") = some true) && He.eqO (PySem.W.findIn K (.ref (He.ga K C)) "__eq__") (some (some (.builtin "object.__eq__"))) && He.eqO (PySem.W.findIn K (.ref (He.ga K C)) "__ne__") (some (some (.builtin "object.__ne__")))
  | .ne C => decide (PySem.W.mroIn K (He.ga K C) (.type "object") = some true) && He.eqO (PySem.W.findIn K (.ref (He.ga K C)) "__ne__") (some (some (.builtin "object.__ne__")))
  | .item C m => (match PySem.W.findIn K (.ref (He.ga K C)) m with
    | some (some (.ref f)) => PySem.W.fnIn K f
    | _ => true)
  | .nosq C => PySem.W.noSeq K (He.ga K C)
  | .tupl x vs => He.tupB K x vs
  | .ali y x => decide (He.ga K y = He.ga K x)
section
variable {K : PySem.W.Frag} {C D x : Str} {b : Bool}
theorem ne_ok (c : (Fx.ne C).ok K = true) : OwnNe K (He.ga K C) := by
  obtain ⟨c1, c2⟩ := Bool.and_eq_true_iff.mp c
  exact ⟨of_decide_eq_true c1, He.eqO_ok c2⟩
theorem item_ok {m : Str} (c : (Fx.item C m).ok K = true) : ∀ f, PySem.W.findIn K (.ref (He.ga K C)) m = some (some (.ref f)) → PySem.W.fnIn K f = true := fun f e => by
  have c' : (match PySem.W.findIn K (.ref (He.ga K C)) m with
    | some (some (.ref f)) => PySem.W.fnIn K f
    | _ => true) = true := c
  rw [e] at c'
  exact c'
theorem tupl_ok {vs : List He.Dv} (c : (Fx.tupl x vs).ok K = true) (H : Hp) : SqT K H (He.ga K x) (vs.map (He.Dv.v K)) := He.tupB_ok c H
theorem ali_ok {mg : Str → Option Value} {y x : Str} (h1 : mg y = some (.ref (He.ga K y))) (h2 : mg x = some (.ref (He.ga K x))) (c : (Fx.ali y x).ok K = true) : mg y = mg x := by
  have e : He.ga K y = He.ga K x := of_decide_eq_true c
  rw [h1, h2, e]
theorem nosq_ok (c : (Fx.nosq C).ok K = true) : PySem.W.noSeq K (He.ga K C) = true := c
theorem ins_ok (c : (Fx.ins C).ok K = true) : InsF K (He.ga K C) := by
  obtain ⟨c, c5⟩ := Bool.and_eq_true_iff.mp c
  obtain ⟨c, c4⟩ := Bool.and_eq_true_iff.mp c
  obtain ⟨c, c3⟩ := Bool.and_eq_true_iff.mp c
  obtain ⟨c1, c2⟩ := Bool.and_eq_true_iff.mp c
  exact ⟨He.cls_ok c1, He.eqO_ok c2, He.eqO_ok c3, of_decide_eq_true c4, of_decide_eq_true c5⟩
theorem obj_ok (c : (Fx.obj C).ok K = true) : ObjF K (He.ga K C) := by
  obtain ⟨c, c4⟩ := Bool.and_eq_true_iff.mp c
  obtain ⟨c, c3⟩ := Bool.and_eq_true_iff.mp c
  obtain ⟨c1, c2⟩ := Bool.and_eq_true_iff.mp c
  exact ⟨He.cls_ok c1, of_decide_eq_true c2, He.eqO_ok c3, He.eqO_ok c4⟩
theorem mkc_ok (c : (Fx.mk C).ok K = true) : PySem.W.makesIn K (He.ga K C) = true ∧ PySem.W.keepIn K (.ref (He.ga K C)) = true := Bool.and_eq_true_iff.mp c
theorem kit_ok (c : (Fx.kit C D b).ok K = true) : PySem.W.kitOne K (.ref (He.ga K C)) (.ref (He.ga K D)) = some b := of_decide_eq_true c
theorem prop_ok (c : (Fx.prop C x).ok K = true) : PropOf K (He.ga K C) x (He.ma K (He.ga K C) x) (gt K C x) := by
  obtain ⟨c, c4⟩ := Bool.and_eq_true_iff.mp c
  obtain ⟨c, c3⟩ := Bool.and_eq_true_iff.mp c
  obtain ⟨c1, c2⟩ := Bool.and_eq_true_iff.mp c
  refine ⟨He.eqO_ok c1, He.eqO_ok c2, of_decide_eq_true c3, ?_⟩
  unfold gt
  split at c4
  · rename_i g r e
    exact ⟨r, by rw [e]⟩
  · cases c4
end
def obsX (fa : List He.Fa) (fx : List Fx) (ds : List GD) (K : PySem.W.Frag) : He.AlD := (fa.all (fun f => f.ok K) && fx.all (fun f => f.ok K) && ds.all (fun d => d.ok K), ds.map fun d => fnA K (d.adr K))
def valX (ds : List GD) : He.AlD := (true, ds.map GD.val)
def SaysX (fa : List He.Fa) (fx : List Fx) (ds : List GD) (K : PySem.W.Frag) : Prop := obsX fa fx ds K = valX ds
def lookX (as : List Addr) (g : Addr → Option Obj) : PySem.W.Frag := He.frG g as
def hookX (n : List Addr) (fa : List He.Fa) (fx : List Fx) (ds : List GD) : PySem.W.Hook where
  α := He.AlD
  obs := fun s => obsX fa fx ds (lookX n s.heap.get?)
  val := fun _ => valX ds
  says := fun _ h => ∃ K : PySem.W.Frag, K.In h ∧ SaysX fa fx ds K
  of := fun _ _ e => ⟨_, He.frG_in, e⟩
  keeps := fun _ _ _ ⟨K, hK, c⟩ k => ⟨K, PySem.W.Frag.In.keeps hK k, c⟩
theorem obsX_eq {n : List Addr} {fa : List He.Fa} {fx : List Fx} {ds : List GD} {g : Addr → Option Obj} {s : Shared} (h : ∀ a, g a = s.heap.get? a) : obsX fa fx ds (lookX n g) = (hookX n fa fx ds).obs s := by
  rw [show g = s.heap.get? from funext h]; rfl
section
variable {fa : List He.Fa} {fx : List Fx} {ds : List GD} {K : PySem.W.Frag}
theorem SaysX.a (c : SaysX fa fx ds K) (i : Nat) {f : He.Fa} (h : fa[i]? = some f := by rfl) : f.ok K = true := by
  have q : (fa.all (fun f => f.ok K) && fx.all (fun f => f.ok K) && ds.all (fun d => d.ok K)) = true := congrArg Prod.fst c
  exact List.all_eq_true.mp (Bool.and_eq_true_iff.mp (Bool.and_eq_true_iff.mp q).1).1 f (List.mem_of_getElem? h)
theorem SaysX.x (c : SaysX fa fx ds K) (i : Nat) {f : Fx} (h : fx[i]? = some f := by rfl) : f.ok K = true := by
  have q : (fa.all (fun f => f.ok K) && fx.all (fun f => f.ok K) && ds.all (fun d => d.ok K)) = true := congrArg Prod.fst c
  exact List.all_eq_true.mp (Bool.and_eq_true_iff.mp (Bool.and_eq_true_iff.mp q).1).2 f (List.mem_of_getElem? h)
theorem SaysX.d (c : SaysX fa fx ds K) (i : Nat) {d : GD} (h : ds[i]? = some d := by rfl) : ∃ fd, FunD K d.nm d.qn d.pr d.bd d.sc d.dv [] (d.adr K) fd := by
  have q : (fa.all (fun f => f.ok K) && fx.all (fun f => f.ok K) && ds.all (fun d => d.ok K)) = true := congrArg Prod.fst c
  have v : ds.map (fun d => fnA K (d.adr K)) = ds.map GD.val := congrArg Prod.snd c
  have v2 := congrArg (fun l => l[i]?) v
  simp only [List.getElem?_map, h, Option.map_some] at v2
  exact GD.funD (Option.some.inj v2) (List.all_eq_true.mp (Bool.and_eq_true_iff.mp q).2 d (List.mem_of_getElem? h))
end
end GG
local macro_rules
  | `(tactic| walk_at "w") => `(tactic| conv => whnf)
  | `(tactic| walk_at "sm") => `(tactic| first | exact Same.refl _ | assumption | exact Same.trans (by walk_at "sm") (by assumption))
namespace LW
open PySem PySem.Spec L2 GG
def topS (i : Nat) : Stmt := PySem.Challenge.pw_rankpicks_k78_copies_of_desks.main.body.getD i (.Pass ⟨0, 0, 0, 0⟩)
abbrev s__law_act : Stmt := (topS 62)
theorem sc__law_act : FnScope (["purse", "desk", "names", "name", "way"] : List Str) (["purse", "desk", "names"] : List Str) (defScope s__law_act) := ⟨rfl, rfl, rfl, by decide +kernel, rfl, by decide +kernel, by decide +kernel⟩
abbrev s__law_called : Stmt := (topS 52)
theorem sc__law_called : FnScope (["purse", "many", "found", "shift", "k", "letter", "tail", "name"] : List Str) (["purse", "many"] : List Str) (defScope s__law_called) := ⟨rfl, rfl, rfl, by decide +kernel, rfl, by decide +kernel, by decide +kernel⟩
abbrev s__law_draw : Stmt := (topS 51)
theorem sc__law_draw : FnScope (["purse", "many", "digit", "number"] : List Str) (["purse", "many"] : List Str) (defScope s__law_draw) := ⟨rfl, rfl, rfl, by decide +kernel, rfl, by decide +kernel, by decide +kernel⟩
abbrev s__law_grown : Stmt := (topS 55)
theorem sc__law_grown : FnScope (["purse", "names", "most", "parts", "taken", "row", "part"] : List Str) (["purse", "names", "most"] : List Str) (defScope s__law_grown) := ⟨rfl, rfl, rfl, by decide +kernel, rfl, by decide +kernel, by decide +kernel⟩
abbrev s__law_made : Stmt := (topS 58)
theorem sc__law_made : FnScope (["tree", "part"] : List Str) (["tree"] : List Str) (defScope s__law_made) := ⟨rfl, rfl, rfl, by decide +kernel, rfl, by decide +kernel, by decide +kernel⟩
abbrev s__law_names : Stmt := (topS 57)
theorem sc__law_names : FnScope (["tree", "found", "part"] : List Str) (["tree"] : List Str) (defScope s__law_names) := ⟨rfl, rfl, rfl, by decide +kernel, rfl, by decide +kernel, by decide +kernel⟩
abbrev s__law_purse : Stmt := (topS 50)
theorem sc__law_purse : FnScope (["script", "at", "cell"] : List Str) (["script", "at"] : List Str) (defScope s__law_purse) := ⟨rfl, rfl, rfl, by decide +kernel, rfl, by decide +kernel, by decide +kernel⟩
abbrev s__law_ranks : Stmt := (topS 54)
theorem sc__law_ranks : FnScope (["purse", "taken", "most", "ranks", "turn", "rank"] : List Str) (["purse", "taken", "most"] : List Str) (defScope s__law_ranks) := ⟨rfl, rfl, rfl, by decide +kernel, rfl, by decide +kernel, by decide +kernel⟩
abbrev s__law_split : Stmt := (topS 53)
theorem sc__law_split : FnScope (["purse", "names", "rows", "name", "k", "row"] : List Str) (["purse", "names"] : List Str) (defScope s__law_split) := ⟨rfl, rfl, rfl, by decide +kernel, rfl, by decide +kernel, by decide +kernel⟩
abbrev s__law_tree : Stmt := (topS 60)
theorem sc__law_tree : FnScope (["purse", "leaves", "most", "names"] : List Str) (["purse", "leaves", "most"] : List Str) (defScope s__law_tree) := ⟨rfl, rfl, rfl, by decide +kernel, rfl, by decide +kernel, by decide +kernel⟩
abbrev s__law_view : Stmt := (topS 61)
theorem sc__law_view : FnScope (["desk", "names", "found", "j", "told", "name"] : List Str) (["desk", "names"] : List Str) (defScope s__law_view) := ⟨rfl, rfl, rfl, by decide +kernel, rfl, by decide +kernel, by decide +kernel⟩
abbrev s__law_width : Stmt := (topS 56)
theorem sc__law_width : FnScope (["tree"] : List Str) (["tree"] : List Str) (defScope s__law_width) := ⟨rfl, rfl, rfl, by decide +kernel, rfl, by decide +kernel, by decide +kernel⟩
abbrev s__law_worths : Stmt := (topS 59)
theorem sc__law_worths : FnScope (["purse", "names", "many", "worths", "name"] : List Str) (["purse", "names"] : List Str) (defScope s__law_worths) := ⟨rfl, rfl, rfl, by decide +kernel, rfl, by decide +kernel, by decide +kernel⟩
abbrev s__wall : Stmt := (topS 0)
abbrev s_are_pairs : Stmt := (topS 29)
theorem sc_are_pairs : FnScope (["value", "names", "pair"] : List Str) (["value"] : List Str) (defScope s_are_pairs) := ⟨rfl, rfl, rfl, by decide +kernel, rfl, by decide +kernel, by decide +kernel⟩
abbrev s_are_parts : Stmt := (topS 21)
theorem sc_are_parts : FnScope (["value", "names", "part", "name"] : List Str) (["value"] : List Str) (defScope s_are_parts) := ⟨rfl, rfl, rfl, by decide +kernel, rfl, by decide +kernel, by decide +kernel⟩
abbrev s_between : Stmt := (topS 41)
theorem sc_between : FnScope (["tree", "lot", "j"] : List Str) (["tree", "lot", "j"] : List Str) (defScope s_between) := ⟨rfl, rfl, rfl, by decide +kernel, rfl, by decide +kernel, by decide +kernel⟩
abbrev s_bound_of : Stmt := (topS 39)
theorem sc_bound_of : FnScope (["tree", "lot", "j", "side", "values", "kind", "worth", "name"] : List Str) (["tree", "lot", "j", "side"] : List Str) (defScope s_bound_of) := ⟨rfl, rfl, rfl, by decide +kernel, rfl, by decide +kernel, by decide +kernel⟩
abbrev s_can_swing : Stmt := (topS 44)
theorem sc_can_swing : FnScope (["tree", "lot", "name", "known", "j", "free", "bound", "one"] : List Str) (["tree", "lot", "name", "known", "j"] : List Str) (defScope s_can_swing) := ⟨rfl, rfl, rfl, by decide +kernel, rfl, by decide +kernel, by decide +kernel⟩
abbrev s_check_end : Stmt := (topS 27)
theorem sc_check_end : FnScope (["tree", "j"] : List Str) (["tree", "j"] : List Str) (defScope s_check_end) := ⟨rfl, rfl, rfl, by decide +kernel, rfl, by decide +kernel, by decide +kernel⟩
abbrev s_check_full : Stmt := (topS 32)
theorem sc_check_full : FnScope (["tree", "lot", "name"] : List Str) (["tree", "lot"] : List Str) (defScope s_check_full) := ⟨rfl, rfl, rfl, by decide +kernel, rfl, by decide +kernel, by decide +kernel⟩
abbrev s_check_lot : Stmt := (topS 31)
theorem sc_check_lot : FnScope (["value"] : List Str) (["value"] : List Str) (defScope s_check_lot) := ⟨rfl, rfl, rfl, by decide +kernel, rfl, by decide +kernel, by decide +kernel⟩
abbrev s_check_name : Stmt := (topS 16)
theorem sc_check_name : FnScope (["value"] : List Str) (["value"] : List Str) (defScope s_check_name) := ⟨rfl, rfl, rfl, by decide +kernel, rfl, by decide +kernel, by decide +kernel⟩
abbrev s_check_partial : Stmt := (topS 40)
theorem sc_check_partial : FnScope (["tree", "lot", "j"] : List Str) (["tree", "lot", "j"] : List Str) (defScope s_check_partial) := ⟨rfl, rfl, rfl, by decide +kernel, rfl, by decide +kernel, by decide +kernel⟩
abbrev s_check_tree : Stmt := (topS 26)
theorem sc_check_tree : FnScope (["value"] : List Str) (["value"] : List Str) (defScope s_check_tree) := ⟨rfl, rfl, rfl, by decide +kernel, rfl, by decide +kernel, by decide +kernel⟩
abbrev s_check_whole : Stmt := (topS 17)
theorem sc_check_whole : FnScope (["value"] : List Str) (["value"] : List Str) (defScope s_check_whole) := ⟨rfl, rfl, rfl, by decide +kernel, rfl, by decide +kernel, by decide +kernel⟩
abbrev s_check_within : Stmt := (topS 18)
theorem sc_check_within : FnScope (["value", "first", "last"] : List Str) (["value", "first", "last"] : List Str) (defScope s_check_within) := ⟨rfl, rfl, rfl, by decide +kernel, rfl, by decide +kernel, by decide +kernel⟩
abbrev s_end_of : Stmt := (topS 34)
theorem sc_end_of : FnScope (["tree", "lot", "j"] : List Str) (["tree", "lot", "j"] : List Str) (defScope s_end_of) := ⟨rfl, rfl, rfl, by decide +kernel, rfl, by decide +kernel, by decide +kernel⟩
abbrev s_gathered : Stmt := (topS 33)
theorem sc_gathered : FnScope (["tree", "lot", "taken", "part", "worth", "rank"] : List Str) (["tree", "lot"] : List Str) (defScope s_gathered) := ⟨rfl, rfl, rfl, by decide +kernel, rfl, by decide +kernel, by decide +kernel⟩
abbrev s_is_ascending : Stmt := (topS 15)
theorem sc_is_ascending : FnScope (["value", "number", "at"] : List Str) (["value"] : List Str) (defScope s_is_ascending) := ⟨rfl, rfl, rfl, by decide +kernel, rfl, by decide +kernel, by decide +kernel⟩
abbrev s_is_group : Stmt := (topS 22)
theorem sc_is_group : FnScope (["ranks", "parts", "part"] : List Str) (["ranks", "parts"] : List Str) (defScope s_is_group) := ⟨rfl, rfl, rfl, by decide +kernel, rfl, by decide +kernel, by decide +kernel⟩
abbrev s_is_name : Stmt := (topS 13)
theorem sc_is_name : FnScope (["value", "letter"] : List Str) (["value"] : List Str) (defScope s_is_name) := ⟨rfl, rfl, rfl, by decide +kernel, rfl, by decide +kernel, by decide +kernel⟩
abbrev s_is_whole : Stmt := (topS 12)
theorem sc_is_whole : FnScope (["value"] : List Str) (["value"] : List Str) (defScope s_is_whole) := ⟨rfl, rfl, rfl, by decide +kernel, rfl, by decide +kernel, by decide +kernel⟩
abbrev s_law : Stmt := (topS 63)
theorem sc_law : FnScope (["script", "purse", "tree", "names", "worths", "start", "desk", "first_lot", "early", "turn", "other", "k", "first", "acting", "resting", "kept", "twin", "one", "name"] : List Str) (["script"] : List Str) (defScope s_law) := ⟨rfl, rfl, rfl, by decide +kernel, rfl, by decide +kernel, by decide +kernel⟩
abbrev s_matters : Stmt := (topS 45)
theorem sc_matters : FnScope (["tree", "lot", "j", "known", "name"] : List Str) (["tree", "lot", "j"] : List Str) (defScope s_matters) := ⟨rfl, rfl, rfl, by decide +kernel, rfl, by decide +kernel, by decide +kernel⟩
abbrev s_swings : Stmt := (topS 43)
theorem sc_swings : FnScope (["tree", "name", "low", "free", "least", "most", "inner", "part", "totals", "ranks", "number", "more", "rank", "total"] : List Str) (["tree", "name", "low", "free"] : List Str) (defScope s_swings) := ⟨rfl, rfl, rfl, by decide +kernel, rfl, by decide +kernel, by decide +kernel⟩
abbrev s_values_of : Stmt := (topS 38)
theorem sc_values_of : FnScope (["tree", "values", "taken", "part", "value", "rank"] : List Str) (["tree", "values"] : List Str) (defScope s_values_of) := ⟨rfl, rfl, rfl, by decide +kernel, rfl, by decide +kernel, by decide +kernel⟩
abbrev s_Leaf___init__ : Stmt := (inClass (topS 24) 0)
theorem sc_Leaf___init__ : FnScope (["self", "name"] : List Str) (["self", "name"] : List Str) (defScope s_Leaf___init__) := ⟨rfl, rfl, rfl, by decide +kernel, rfl, by decide +kernel, by decide +kernel⟩
abbrev s_Leaf_name : Stmt := (inClass (topS 24) 1)
theorem sc_Leaf_name : FnScope (["self"] : List Str) (["self"] : List Str) (defScope s_Leaf_name) := ⟨rfl, rfl, rfl, by decide +kernel, rfl, by decide +kernel, by decide +kernel⟩
abbrev s_Leaf_width : Stmt := (inClass (topS 24) 2)
theorem sc_Leaf_width : FnScope (["self"] : List Str) (["self"] : List Str) (defScope s_Leaf_width) := ⟨rfl, rfl, rfl, by decide +kernel, rfl, by decide +kernel, by decide +kernel⟩
abbrev s_Leaf___contains__ : Stmt := (inClass (topS 24) 4)
theorem sc_Leaf___contains__ : FnScope (["self", "name"] : List Str) (["self", "name"] : List Str) (defScope s_Leaf___contains__) := ⟨rfl, rfl, rfl, by decide +kernel, rfl, by decide +kernel, by decide +kernel⟩
abbrev s_Leaf_names : Stmt := (inClass (topS 24) 6)
theorem sc_Leaf_names : FnScope (["self"] : List Str) (["self"] : List Str) (defScope s_Leaf_names) := ⟨rfl, rfl, rfl, by decide +kernel, rfl, by decide +kernel, by decide +kernel⟩
abbrev s_Leaf_low_ends : Stmt := (inClass (topS 24) 8)
theorem sc_Leaf_low_ends : FnScope (["self", "low"] : List Str) (["self", "low"] : List Str) (defScope s_Leaf_low_ends) := ⟨rfl, rfl, rfl, by decide +kernel, rfl, by decide +kernel, by decide +kernel⟩
abbrev s_Group___init__ : Stmt := (inClass (topS 25) 0)
theorem sc_Group___init__ : FnScope (["self", "ranks", "parts", "part"] : List Str) (["self", "ranks", "parts"] : List Str) (defScope s_Group___init__) := ⟨rfl, rfl, rfl, by decide +kernel, rfl, by decide +kernel, by decide +kernel⟩
abbrev s_Group_ranks : Stmt := (inClass (topS 25) 1)
theorem sc_Group_ranks : FnScope (["self"] : List Str) (["self"] : List Str) (defScope s_Group_ranks) := ⟨rfl, rfl, rfl, by decide +kernel, rfl, by decide +kernel, by decide +kernel⟩
abbrev s_Group_parts : Stmt := (inClass (topS 25) 2)
theorem sc_Group_parts : FnScope (["self"] : List Str) (["self"] : List Str) (defScope s_Group_parts) := ⟨rfl, rfl, rfl, by decide +kernel, rfl, by decide +kernel, by decide +kernel⟩
abbrev s_Group_width : Stmt := (inClass (topS 25) 4)
theorem sc_Group_width : FnScope (["self"] : List Str) (["self"] : List Str) (defScope s_Group_width) := ⟨rfl, rfl, rfl, by decide +kernel, rfl, by decide +kernel, by decide +kernel⟩
abbrev s_Group___contains__ : Stmt := (inClass (topS 25) 8)
theorem sc_Group___contains__ : FnScope (["self", "name"] : List Str) (["self", "name"] : List Str) (defScope s_Group___contains__) := ⟨rfl, rfl, rfl, by decide +kernel, rfl, by decide +kernel, by decide +kernel⟩
abbrev s_Group_names : Stmt := (inClass (topS 25) 10)
theorem sc_Group_names : FnScope (["self", "part", "name"] : List Str) (["self"] : List Str) (defScope s_Group_names) := ⟨rfl, rfl, rfl, by decide +kernel, rfl, by decide +kernel, by decide +kernel⟩
abbrev s_Group_low_ends : Stmt := (inClass (topS 25) 12)
theorem sc_Group_low_ends : FnScope (["self", "low", "total", "part", "rank"] : List Str) (["self", "low"] : List Str) (defScope s_Group_low_ends) := ⟨rfl, rfl, rfl, by decide +kernel, rfl, by decide +kernel, by decide +kernel⟩
abbrev s_Lot___init__ : Stmt := (inClass (topS 30) 0)
theorem sc_Lot___init__ : FnScope (["self", "pairs", "rows", "name", "worth"] : List Str) (["self", "pairs"] : List Str) (defScope s_Lot___init__) := ⟨rfl, rfl, rfl, by decide +kernel, rfl, by decide +kernel, by decide +kernel⟩
abbrev s_Lot___getitem__ : Stmt := (inClass (topS 30) 3)
theorem sc_Lot___getitem__ : FnScope (["self", "name"] : List Str) (["self", "name"] : List Str) (defScope s_Lot___getitem__) := ⟨rfl, rfl, rfl, by decide +kernel, rfl, by decide +kernel, by decide +kernel⟩
abbrev s_Lot___setitem__ : Stmt := (inClass (topS 30) 4)
theorem sc_Lot___setitem__ : FnScope (["self", "name", "worth"] : List Str) (["self", "name", "worth"] : List Str) (defScope s_Lot___setitem__) := ⟨rfl, rfl, rfl, by decide +kernel, rfl, by decide +kernel, by decide +kernel⟩
abbrev s_Lot___contains__ : Stmt := (inClass (topS 30) 5)
theorem sc_Lot___contains__ : FnScope (["self", "name"] : List Str) (["self", "name"] : List Str) (defScope s_Lot___contains__) := ⟨rfl, rfl, rfl, by decide +kernel, rfl, by decide +kernel, by decide +kernel⟩
abbrev s_Lot___eq__ : Stmt := (inClass (topS 30) 6)
theorem sc_Lot___eq__ : FnScope (["self", "other"] : List Str) (["self", "other"] : List Str) (defScope s_Lot___eq__) := ⟨rfl, rfl, rfl, by decide +kernel, rfl, by decide +kernel, by decide +kernel⟩
abbrev s_Lot_pairs : Stmt := (inClass (topS 30) 9)
theorem sc_Lot_pairs : FnScope (["self", "name", "worth"] : List Str) (["self"] : List Str) (defScope s_Lot_pairs) := ⟨rfl, rfl, rfl, by decide +kernel, rfl, by decide +kernel, by decide +kernel⟩
abbrev s_Lot_copy : Stmt := (inClass (topS 30) 12)
theorem sc_Lot_copy : FnScope (["self"] : List Str) (["self"] : List Str) (defScope s_Lot_copy) := ⟨rfl, rfl, rfl, by decide +kernel, rfl, by decide +kernel, by decide +kernel⟩
abbrev s_Desk___init__ : Stmt := (inClass (topS 48) 0)
theorem sc_Desk___init__ : FnScope (["self", "tree", "lot", "known", "name"] : List Str) (["self", "tree", "lot"] : List Str) (defScope s_Desk___init__) := ⟨rfl, rfl, rfl, by decide +kernel, rfl, by decide +kernel, by decide +kernel⟩
abbrev s_Desk_tree : Stmt := (inClass (topS 48) 1)
theorem sc_Desk_tree : FnScope (["self"] : List Str) (["self"] : List Str) (defScope s_Desk_tree) := ⟨rfl, rfl, rfl, by decide +kernel, rfl, by decide +kernel, by decide +kernel⟩
abbrev s_Desk_lot : Stmt := (inClass (topS 48) 2)
theorem sc_Desk_lot : FnScope (["self", "name", "worth"] : List Str) (["self"] : List Str) (defScope s_Desk_lot) := ⟨rfl, rfl, rfl, by decide +kernel, rfl, by decide +kernel, by decide +kernel⟩
abbrev s_Desk_made : Stmt := (inClass (topS 48) 3)
theorem sc_Desk_made : FnScope (["self"] : List Str) (["self"] : List Str) (defScope s_Desk_made) := ⟨rfl, rfl, rfl, by decide +kernel, rfl, by decide +kernel, by decide +kernel⟩
abbrev s_Desk_check_leaf : Stmt := (inClass (topS 48) 4)
theorem sc_Desk_check_leaf : FnScope (["self", "name"] : List Str) (["self", "name"] : List Str) (defScope s_Desk_check_leaf) := ⟨rfl, rfl, rfl, by decide +kernel, rfl, by decide +kernel, by decide +kernel⟩
abbrev s_Desk___len__ : Stmt := (inClass (topS 48) 5)
theorem sc_Desk___len__ : FnScope (["self"] : List Str) (["self"] : List Str) (defScope s_Desk___len__) := ⟨rfl, rfl, rfl, by decide +kernel, rfl, by decide +kernel, by decide +kernel⟩
abbrev s_Desk___contains__ : Stmt := (inClass (topS 48) 7)
theorem sc_Desk___contains__ : FnScope (["self", "name"] : List Str) (["self", "name"] : List Str) (defScope s_Desk___contains__) := ⟨rfl, rfl, rfl, by decide +kernel, rfl, by decide +kernel, by decide +kernel⟩
abbrev s_Desk___getitem__ : Stmt := (inClass (topS 48) 8)
theorem sc_Desk___getitem__ : FnScope (["self", "name"] : List Str) (["self", "name"] : List Str) (defScope s_Desk___getitem__) := ⟨rfl, rfl, rfl, by decide +kernel, rfl, by decide +kernel, by decide +kernel⟩
abbrev s_Desk___setitem__ : Stmt := (inClass (topS 48) 9)
theorem sc_Desk___setitem__ : FnScope (["self", "name", "worth"] : List Str) (["self", "name", "worth"] : List Str) (defScope s_Desk___setitem__) := ⟨rfl, rfl, rfl, by decide +kernel, rfl, by decide +kernel, by decide +kernel⟩
abbrev s_Desk_without : Stmt := (inClass (topS 48) 10)
theorem sc_Desk_without : FnScope (["self", "name", "one", "worth"] : List Str) (["self", "name"] : List Str) (defScope s_Desk_without) := ⟨rfl, rfl, rfl, by decide +kernel, rfl, by decide +kernel, by decide +kernel⟩
abbrev s_Desk_forget : Stmt := (inClass (topS 48) 11)
theorem sc_Desk_forget : FnScope (["self", "name"] : List Str) (["self", "name"] : List Str) (defScope s_Desk_forget) := ⟨rfl, rfl, rfl, by decide +kernel, rfl, by decide +kernel, by decide +kernel⟩
abbrev s_Desk_back : Stmt := (inClass (topS 48) 12)
theorem sc_Desk_back : FnScope (["self", "name", "worth"] : List Str) (["self"] : List Str) (defScope s_Desk_back) := ⟨rfl, rfl, rfl, by decide +kernel, rfl, by decide +kernel, by decide +kernel⟩
abbrev s_Desk_between : Stmt := (inClass (topS 48) 13)
theorem sc_Desk_between : FnScope (["self", "j"] : List Str) (["self", "j"] : List Str) (defScope s_Desk_between) := ⟨rfl, rfl, rfl, by decide +kernel, rfl, by decide +kernel, by decide +kernel⟩
abbrev s_Desk_matters : Stmt := (inClass (topS 48) 14)
theorem sc_Desk_matters : FnScope (["self", "j"] : List Str) (["self", "j"] : List Str) (defScope s_Desk_matters) := ⟨rfl, rfl, rfl, by decide +kernel, rfl, by decide +kernel, by decide +kernel⟩
abbrev s_Desk_end : Stmt := (inClass (topS 48) 15)
theorem sc_Desk_end : FnScope (["self", "j"] : List Str) (["self", "j"] : List Str) (defScope s_Desk_end) := ⟨rfl, rfl, rfl, by decide +kernel, rfl, by decide +kernel, by decide +kernel⟩
abbrev s_Desk_what_if : Stmt := (inClass (topS 48) 16)
theorem sc_Desk_what_if : FnScope (["self", "name", "worth", "j", "lot"] : List Str) (["self", "name", "worth", "j"] : List Str) (defScope s_Desk_what_if) := ⟨rfl, rfl, rfl, by decide +kernel, rfl, by decide +kernel, by decide +kernel⟩
abbrev s_Desk_copy : Stmt := (inClass (topS 48) 17)
theorem sc_Desk_copy : FnScope (["self", "found"] : List Str) (["self"] : List Str) (defScope s_Desk_copy) := ⟨rfl, rfl, rfl, by decide +kernel, rfl, by decide +kernel, by decide +kernel⟩
structure Top (K : PySem.W.Frag) (mg : Str → Option Value) : Prop where
  f__law_act : FnF K mg "_law_act" s__law_act ["purse", "desk", "names"]
  f__law_called : FnF K mg "_law_called" s__law_called ["purse", "many"]
  f__law_draw : FnF K mg "_law_draw" s__law_draw ["purse", "many"]
  f__law_grown : FnF K mg "_law_grown" s__law_grown ["purse", "names", "most"]
  f__law_made : FnF K mg "_law_made" s__law_made ["tree"]
  f__law_names : FnF K mg "_law_names" s__law_names ["tree"]
  f__law_purse : FnF K mg "_law_purse" s__law_purse ["script", "at"]
  f__law_ranks : FnF K mg "_law_ranks" s__law_ranks ["purse", "taken", "most"]
  f__law_split : FnF K mg "_law_split" s__law_split ["purse", "names"]
  f__law_tree : FnF K mg "_law_tree" s__law_tree ["purse", "leaves", "most"]
  f__law_view : FnF K mg "_law_view" s__law_view ["desk", "names"]
  f__law_width : FnF K mg "_law_width" s__law_width ["tree"]
  f__law_worths : FnF K mg "_law_worths" s__law_worths ["purse", "names"]
  f__wall : FnF K mg "_wall" s__wall ["k"]
  f_are_pairs : FnF K mg "are_pairs" s_are_pairs ["value"]
  f_are_parts : FnF K mg "are_parts" s_are_parts ["value"]
  f_between : FnFd K mg "between" s_between ["tree", "lot", "j"] [.int 1]
  f_bound_of : FnF K mg "bound_of" s_bound_of ["tree", "lot", "j", "side"]
  f_can_swing : FnF K mg "can_swing" s_can_swing ["tree", "lot", "name", "known", "j"]
  f_check_end : FnF K mg "check_end" s_check_end ["tree", "j"]
  f_check_full : FnF K mg "check_full" s_check_full ["tree", "lot"]
  f_check_lot : FnF K mg "check_lot" s_check_lot ["value"]
  f_check_name : FnF K mg "check_name" s_check_name ["value"]
  f_check_partial : FnF K mg "check_partial" s_check_partial ["tree", "lot", "j"]
  f_check_tree : FnF K mg "check_tree" s_check_tree ["value"]
  f_check_whole : FnF K mg "check_whole" s_check_whole ["value"]
  f_check_within : FnF K mg "check_within" s_check_within ["value", "first", "last"]
  f_end_of : FnFd K mg "end_of" s_end_of ["tree", "lot", "j"] [.int 1]
  f_gathered : FnF K mg "gathered" s_gathered ["tree", "lot"]
  f_is_ascending : FnF K mg "is_ascending" s_is_ascending ["value"]
  f_is_group : FnF K mg "is_group" s_is_group ["ranks", "parts"]
  f_is_name : FnF K mg "is_name" s_is_name ["value"]
  f_is_whole : FnF K mg "is_whole" s_is_whole ["value"]
  f_law : FnF K mg "law" s_law ["script"]
  f_matters : FnFd K mg "matters" s_matters ["tree", "lot", "j"] [.int 1]
  f_swings : FnF K mg "swings" s_swings ["tree", "name", "low", "free"]
  f_values_of : FnF K mg "values_of" s_values_of ["tree", "values"]
  c_Tree : mg "Tree" = some (.ref (He.ga K "Tree"))
  i_Tree : InsF K (He.ga K "Tree")
  c_Leaf : mg "Leaf" = some (.ref (He.ga K "Leaf"))
  i_Leaf : InsF K (He.ga K "Leaf")
  m_Leaf___init__ : MtF K (He.ga K "Leaf") "__init__" "Leaf.__init__" s_Leaf___init__ ["self", "name"]
  k_Leaf : PySem.W.makesIn K (He.ga K "Leaf") = true ∧ PySem.W.keepIn K (.ref (He.ga K "Leaf")) = true
  m_Leaf_name : PrF K (He.ga K "Leaf") "name" "Leaf.name" s_Leaf_name ["self"]
  m_Leaf_width : PrF K (He.ga K "Leaf") "width" "Leaf.width" s_Leaf_width ["self"]
  m_Leaf___contains__ : MtF K (He.ga K "Leaf") "__contains__" "Leaf.__contains__" s_Leaf___contains__ ["self", "name"]
  m_Leaf_names : MtF K (He.ga K "Leaf") "names" "Leaf.names" s_Leaf_names ["self"]
  m_Leaf_low_ends : MtF K (He.ga K "Leaf") "low_ends" "Leaf.low_ends" s_Leaf_low_ends ["self", "low"]
  n_Leaf_label : NoAttr K (He.ga K "Leaf") "label"
  c_Group : mg "Group" = some (.ref (He.ga K "Group"))
  i_Group : InsF K (He.ga K "Group")
  m_Group___init__ : MtF K (He.ga K "Group") "__init__" "Group.__init__" s_Group___init__ ["self", "ranks", "parts"]
  k_Group : PySem.W.makesIn K (He.ga K "Group") = true ∧ PySem.W.keepIn K (.ref (He.ga K "Group")) = true
  m_Group_ranks : PrF K (He.ga K "Group") "ranks" "Group.ranks" s_Group_ranks ["self"]
  m_Group_parts : PrF K (He.ga K "Group") "parts" "Group.parts" s_Group_parts ["self"]
  m_Group_width : PrF K (He.ga K "Group") "width" "Group.width" s_Group_width ["self"]
  m_Group___contains__ : MtF K (He.ga K "Group") "__contains__" "Group.__contains__" s_Group___contains__ ["self", "name"]
  m_Group_names : MtF K (He.ga K "Group") "names" "Group.names" s_Group_names ["self"]
  m_Group_low_ends : MtF K (He.ga K "Group") "low_ends" "Group.low_ends" s_Group_low_ends ["self", "low"]
  n_Group_picks : NoAttr K (He.ga K "Group") "picks"
  n_Group_rows : NoAttr K (He.ga K "Group") "rows"
  n_Group_taken : NoAttr K (He.ga K "Group") "taken"
  c_Lot : mg "Lot" = some (.ref (He.ga K "Lot"))
  i_Lot : InsF K (He.ga K "Lot")
  m_Lot___init__ : MtFd K (He.ga K "Lot") "__init__" "Lot.__init__" s_Lot___init__ ["self", "pairs"] [.non]
  k_Lot : PySem.W.makesIn K (He.ga K "Lot") = true ∧ PySem.W.keepIn K (.ref (He.ga K "Lot")) = true
  m_Lot___getitem__ : MtF K (He.ga K "Lot") "__getitem__" "Lot.__getitem__" s_Lot___getitem__ ["self", "name"]
  t_Lot : ∀ f, PySem.W.findIn K (.ref (He.ga K "Lot")) "__getitem__" = some (some (.ref f)) → PySem.W.fnIn K f = true
  m_Lot___setitem__ : MtF K (He.ga K "Lot") "__setitem__" "Lot.__setitem__" s_Lot___setitem__ ["self", "name", "worth"]
  q_Lot : PySem.W.noSeq K (He.ga K "Lot") = true
  m_Lot___contains__ : MtF K (He.ga K "Lot") "__contains__" "Lot.__contains__" s_Lot___contains__ ["self", "name"]
  m_Lot___eq__ : MtF K (He.ga K "Lot") "__eq__" "Lot.__eq__" s_Lot___eq__ ["self", "other"]
  e_Lot : OwnNe K (He.ga K "Lot")
  m_Lot_pairs : MtF K (He.ga K "Lot") "pairs" "Lot.pairs" s_Lot_pairs ["self"]
  m_Lot_copy : MtF K (He.ga K "Lot") "copy" "Lot.copy" s_Lot_copy ["self"]
  n_Lot_worths : NoAttr K (He.ga K "Lot") "worths"
  c_Desk : mg "Desk" = some (.ref (He.ga K "Desk"))
  i_Desk : InsF K (He.ga K "Desk")
  m_Desk___init__ : MtFd K (He.ga K "Desk") "__init__" "Desk.__init__" s_Desk___init__ ["self", "tree", "lot"] [.non]
  k_Desk : PySem.W.makesIn K (He.ga K "Desk") = true ∧ PySem.W.keepIn K (.ref (He.ga K "Desk")) = true
  m_Desk_tree : PrF K (He.ga K "Desk") "tree" "Desk.tree" s_Desk_tree ["self"]
  m_Desk_lot : PrF K (He.ga K "Desk") "lot" "Desk.lot" s_Desk_lot ["self"]
  m_Desk_made : PrF K (He.ga K "Desk") "made" "Desk.made" s_Desk_made ["self"]
  m_Desk_check_leaf : MtF K (He.ga K "Desk") "check_leaf" "Desk.check_leaf" s_Desk_check_leaf ["self", "name"]
  m_Desk___len__ : MtF K (He.ga K "Desk") "__len__" "Desk.__len__" s_Desk___len__ ["self"]
  m_Desk___contains__ : MtF K (He.ga K "Desk") "__contains__" "Desk.__contains__" s_Desk___contains__ ["self", "name"]
  m_Desk___getitem__ : MtF K (He.ga K "Desk") "__getitem__" "Desk.__getitem__" s_Desk___getitem__ ["self", "name"]
  t_Desk : ∀ f, PySem.W.findIn K (.ref (He.ga K "Desk")) "__getitem__" = some (some (.ref f)) → PySem.W.fnIn K f = true
  m_Desk___setitem__ : MtF K (He.ga K "Desk") "__setitem__" "Desk.__setitem__" s_Desk___setitem__ ["self", "name", "worth"]
  q_Desk : PySem.W.noSeq K (He.ga K "Desk") = true
  m_Desk_without : MtF K (He.ga K "Desk") "without" "Desk.without" s_Desk_without ["self", "name"]
  m_Desk_forget : MtF K (He.ga K "Desk") "forget" "Desk.forget" s_Desk_forget ["self", "name"]
  m_Desk_back : MtF K (He.ga K "Desk") "back" "Desk.back" s_Desk_back ["self"]
  m_Desk_between : MtFd K (He.ga K "Desk") "between" "Desk.between" s_Desk_between ["self", "j"] [.int 1]
  m_Desk_matters : MtFd K (He.ga K "Desk") "matters" "Desk.matters" s_Desk_matters ["self", "j"] [.int 1]
  m_Desk_end : MtFd K (He.ga K "Desk") "end" "Desk.end" s_Desk_end ["self", "j"] [.int 1]
  m_Desk_what_if : MtFd K (He.ga K "Desk") "what_if" "Desk.what_if" s_Desk_what_if ["self", "name", "worth", "j"] [.int 1]
  m_Desk_copy : MtF K (He.ga K "Desk") "copy" "Desk.copy" s_Desk_copy ["self"]
  o_Desk : ObjF K (He.ga K "Desk")
  n_Desk_plan : NoAttr K (He.ga K "Desk") "plan"
  n_Desk_worths : NoAttr K (He.ga K "Desk") "worths"
  n_Desk_trail : NoAttr K (He.ga K "Desk") "trail"
  kit_Leaf_Tree : PySem.W.kitOne K (.ref (He.ga K "Leaf")) (.ref (He.ga K "Tree")) = some true
  kit_Leaf_Leaf : PySem.W.kitOne K (.ref (He.ga K "Leaf")) (.ref (He.ga K "Leaf")) = some true
  kit_Leaf_Group : PySem.W.kitOne K (.ref (He.ga K "Leaf")) (.ref (He.ga K "Group")) = some false
  kit_Leaf_Lot : PySem.W.kitOne K (.ref (He.ga K "Leaf")) (.ref (He.ga K "Lot")) = some false
  kit_Leaf_Desk : PySem.W.kitOne K (.ref (He.ga K "Leaf")) (.ref (He.ga K "Desk")) = some false
  kit_Group_Tree : PySem.W.kitOne K (.ref (He.ga K "Group")) (.ref (He.ga K "Tree")) = some true
  kit_Group_Leaf : PySem.W.kitOne K (.ref (He.ga K "Group")) (.ref (He.ga K "Leaf")) = some false
  kit_Group_Group : PySem.W.kitOne K (.ref (He.ga K "Group")) (.ref (He.ga K "Group")) = some true
  kit_Group_Lot : PySem.W.kitOne K (.ref (He.ga K "Group")) (.ref (He.ga K "Lot")) = some false
  kit_Group_Desk : PySem.W.kitOne K (.ref (He.ga K "Group")) (.ref (He.ga K "Desk")) = some false
  kit_Lot_Tree : PySem.W.kitOne K (.ref (He.ga K "Lot")) (.ref (He.ga K "Tree")) = some false
  kit_Lot_Leaf : PySem.W.kitOne K (.ref (He.ga K "Lot")) (.ref (He.ga K "Leaf")) = some false
  kit_Lot_Group : PySem.W.kitOne K (.ref (He.ga K "Lot")) (.ref (He.ga K "Group")) = some false
  kit_Lot_Lot : PySem.W.kitOne K (.ref (He.ga K "Lot")) (.ref (He.ga K "Lot")) = some true
  kit_Lot_Desk : PySem.W.kitOne K (.ref (He.ga K "Lot")) (.ref (He.ga K "Desk")) = some false
  kit_Desk_Tree : PySem.W.kitOne K (.ref (He.ga K "Desk")) (.ref (He.ga K "Tree")) = some false
  kit_Desk_Leaf : PySem.W.kitOne K (.ref (He.ga K "Desk")) (.ref (He.ga K "Leaf")) = some false
  kit_Desk_Group : PySem.W.kitOne K (.ref (He.ga K "Desk")) (.ref (He.ga K "Group")) = some false
  kit_Desk_Lot : PySem.W.kitOne K (.ref (He.ga K "Desk")) (.ref (He.ga K "Lot")) = some false
  kit_Desk_Desk : PySem.W.kitOne K (.ref (He.ga K "Desk")) (.ref (He.ga K "Desk")) = some true
  b_len : mg "len" = none
  b_sum : mg "sum" = none
  b_min : mg "min" = none
  b_max : mg "max" = none
  b_sorted : mg "sorted" = none
  b_isinstance : mg "isinstance" = none
  b_int : mg "int" = none
  b_list : mg "list" = none
  b_tuple : mg "tuple" = none
  b_str : mg "str" = none
  b_bool : mg "bool" = none
  b_set : mg "set" = none
  b_range : mg "range" = none
  b_enumerate : mg "enumerate" = none
  b_dict : mg "dict" = none
  a_between_partial : mg "between_partial" = mg "between"
  a_matters_partial : mg "matters_partial" = mg "matters"
  g_ALPHABET : ∃ t, mg "ALPHABET" = some (.str "abcdefghijklmnopqrstuvwxyz" t)
  g_LOW : mg "LOW" = some (.ref (He.ga K "LOW")) ∧ ∀ H, SqT K H (He.ga K "LOW") [.int 0, .int 0]
  g_HIGH : mg "HIGH" = some (.ref (He.ga K "HIGH")) ∧ ∀ H, SqT K H (He.ga K "HIGH") [.int 2, .int 0]
variable {P : Program} {w : World} {K : PySem.W.Frag} {mg : Str → Option Value} {base : Heap}
def sp_is_whole : Sp := fun vs H Q _ => match vs with
  | [.int _] => Q (.bl true) H
  | _ => False
theorem ok_is_whole (tp : Top K mg) : FnN P w K mg base 1 "is_whole" [] sp_is_whole := by
  refine fn_by tp.f_is_whole sc_is_whole (fun vs H Q E h => by unfold sp_is_whole at h; split at h <;> first | rfl | exact h.elim) (fun f cdv A outer s H vs Q E hr h => ⟨_, (pss_one (ps_ret (g_andV (pe_callB (k_isi K rfl) (by rfl) tp.b_isinstance (by decide +kernel) (pa_cons (gv 0) (pa_cons (pe_bltn (v := .ty "int") rfl tp.b_int (by decide +kernel) rfl) pa_nil))) (pe_one (g_notV (pe_callB (k_isi K rfl) (by rfl) tp.b_isinstance (by decide +kernel) (pa_cons (gv 0) (pa_cons (pe_bltn (v := .ty "bool") rfl tp.b_bool (by decide +kernel) rfl) pa_nil)))))))), ?_⟩)
  unfold sp_is_whole at h
  split at h
  · walk_at "w"
    refine ⟨_, is_ii, way_t ?_⟩
    walk_at "w"
    exact ⟨_, is_ib, h⟩
  · exact h.elim
instance {z : Str} : Decidable (IsNm z) := by unfold IsNm; infer_instance
def sp_is_name : Sp := fun vs H Q _ => match vs with
  | [.str z] => z.length ≤ 1000 ∧ ∀ H', Same H H' → Q (.bl (decide (IsNm z))) H'
  | _ => False
theorem ok_is_name (tp : Top K mg) : FnN P w K mg base 1 "is_name" [] sp_is_name := by
  refine fn_by tp.f_is_name sc_is_name (fun vs H Q E h => by unfold sp_is_name at h; split at h <;> first | rfl | exact h.elim) (fun f cdv A outer s H vs Q E hr h => ⟨_, (pss_cons (g_if (PW.pt (g_or (pt_not (g_val (pe_callB (k_isi K rfl) (by rfl) tp.b_isinstance (by decide +kernel) (pa_cons (gv 0) (pa_cons (pe_bltn (v := .ty "str") rfl tp.b_str (by decide +kernel) rfl) pa_nil))))) (pw_or1 (pt_not (g_chainT op_leG op_leG pe_int (pe_callB (k_len K rfl) (by rfl) tp.b_len (by decide +kernel) (pa_cons (gv 0) pa_nil)) pe_int))))) (pss_one (ps_ret pe_bl)) pss_nil) (pss_one (ps_ret (g_cmpV (k_eqG K rfl hr.units) (g_lc rfl sc_is_name.nd (w_str (gv 0)) (blkOk_by (own := [("letter", 1)]) (N := (["value", "letter"] : List Str)) (sc := defScope s_is_name) (by decide +kernel)) (fun _ _ _ _ _ => pg_name (i := 1) sc_is_name.nd rfl (by first | exact Or.inl rfl | exact Or.inr rfl)) (fun _ _ _ _ _ => (pts_one (g_cmp (k_ninG K rfl) (gv 1) (pe_glob (v := .str _) rfl (Classical.choose_spec tp.g_ALPHABET) ⟨_, rfl⟩) (by with_unfolding_all rfl)))) (fun _ _ _ _ _ => (gv 1))) (g_lst pa_nil) (nomark _))))), ?_⟩)
  unfold sp_is_name at h
  split at h
  next z =>
    obtain ⟨hz, h⟩ := h
    have hz2 : z.length ≤ sizeLine := Nat.le_trans hz (by decide)
    walk_at "w"
    refine ⟨_, is_ss, way_f ?_⟩
    walk_at "w"
    refine ⟨hz2, ?_⟩
    walk_at "w"
    refine way_d (fun h1 => ?_) (fun h1 => ?_)
    · walk_at "w"
      refine way_nd (fun h8 => ?_) (fun h8 => ?_)
      · walk_at "w"
        have q := h H (Same.refl _)
        rw [decide_eq_false (by intro q; exact h8 (by have := q.2.1; omega))] at q
        exact q
      · walk_at "w"
        refine ⟨hz2, comp_str (F := fun i acc G => Same H G ∧ (acc = [] ↔ ∀ c ∈ z.cps.toList.take i, c ∈ alph)) (Nat.lt_of_le_of_lt hz (by decide)) ⟨Same.refl _, by simp⟩ (fun D i c acc H' hc hD hDl hl f => ⟨rfl, ?_⟩) (fun D H' acc hD hDl hl f => ?_)⟩
        · walk_at "w"
          refine ⟨c, rfl, ?_⟩
          have hc' : z.cps.toList[i]? = some c := by rw [Array.getElem?_toList]; exact hc
          have tk : z.cps.toList.take (i + 1) = z.cps.toList.take i ++ [c] := by rw [List.take_add_one, hc']; rfl
          refine way_nd (fun hn => ?_) (fun hn => ?_)
          · walk_at "w"
            refine ⟨hDl, f.1, ?_⟩
            rw [tk]
            constructor
            · intro q; exact absurd q (by simp)
            · intro q; exact absurd (q c (by simp)) hn
          · refine ⟨hDl, f.1, ?_⟩
            rw [tk, f.2]
            constructor
            · intro q d hd
              rcases List.mem_append.mp hd with hd | hd
              · exact q d hd
              · rw [List.mem_singleton.mp hd]; exact hn
            · intro q d hd; exact q d (List.mem_append_left _ hd)
        · walk_at "w"
          refine ⟨by decide, fun p H2 hp s2 h2 => Or.inl ⟨acc, SqL.of (s2 _ _ hDl), h2, ?_⟩⟩
          have sH : Same H H2 := (f.1.trans off_same).trans s2
          have q := h H2 sH
          have e : decide (IsNm z) = acc.isEmpty := by
            rw [Bool.eq_iff_iff, decide_eq_true_eq, List.isEmpty_iff, f.2]
            have tk : z.cps.toList.take z.length = z.cps.toList := List.take_of_length_le (by simp [Str.length])
            rw [tk]
            exact ⟨fun q => q.2.2, fun q => ⟨by omega, by omega, q⟩⟩
          rw [e] at q
          exact q
    · walk_at "w"
      have q := h H (Same.refl _)
      rw [decide_eq_false (by intro q; exact h1 (by have := q.1; omega))] at q
      exact way_t q
  next => exact h.elim
def sp_check_name : Sp := fun vs H Q _ => match vs with
  | [.str z] => IsNm z ∧ ∀ H', Same H H' → Q .non H'
  | _ => False
theorem ok_check_name (tp : Top K mg) : FnN P w K mg base 2 "check_name" [] sp_check_name := by
  refine fn_by tp.f_check_name sc_check_name (fun vs H Q E h => by unfold sp_check_name at h; split at h <;> first | rfl | exact h.elim) (fun f cdv A outer s H vs Q E hr h => ⟨_, (pss_one (g_if (pt_not (g_val (g_call (ok_is_name tp) hr rfl (by omega) (pa_cons (gv 0) pa_nil)))) (pss_one ps_never) pss_nil)), ?_⟩)
  unfold sp_check_name at h
  split at h
  next z =>
    walk_at "w"
    refine ⟨Nat.le_trans h.1.2.1 (by decide), fun H' s' => ?_⟩
    rw [decide_eq_true h.1]
    refine way_f ?_
    exact h.2 H' s'
  next => exact h.elim
def sp_check_whole : Sp := fun vs H Q _ => match vs with
  | [.int _] => Q .non H
  | _ => False
theorem ok_check_whole (tp : Top K mg) : FnN P w K mg base 2 "check_whole" [] sp_check_whole := by
  refine fn_by tp.f_check_whole sc_check_whole (fun vs H Q E h => by unfold sp_check_whole at h; split at h <;> first | rfl | exact h.elim) (fun f cdv A outer s H vs Q E hr h => ⟨_, (pss_one (g_if (pt_not (g_val (g_call (ok_is_whole tp) hr rfl (by omega) (pa_cons (gv 0) pa_nil)))) (pss_one ps_never) pss_nil)), ?_⟩)
  unfold sp_check_whole at h
  split at h
  · walk_at "w"
    exact way_f h
  · exact h.elim
def sp_is_ascending : Sp := fun vs H Q _ => match vs with
  | [.ref p] => ∃ ns : List Int, H p = some (.lst (ns.map V.int)) ∧ ns.Pairwise (· < ·) ∧ ns.length ≤ 1000 ∧ ∀ H', Same H H' → Q (.bl true) H'
  | _ => False
theorem pw_at {ns : List Int} (h : ns.Pairwise (· < ·)) {i : Nat} {a b : Int} (ha : ns[i]? = some a) (hb : ns[i + 1]? = some b) : a < b := by
  obtain ⟨h1, e1⟩ := List.getElem?_eq_some_iff.mp ha
  obtain ⟨h2, e2⟩ := List.getElem?_eq_some_iff.mp hb
  rw [← e1, ← e2]
  exact List.pairwise_iff_getElem.mp h i (i + 1) h1 h2 (by omega)
theorem map_at {ns : List Int} {i : Nat} {x : V} (h : (ns.map V.int)[i]? = some x) : ∃ a, ns[i]? = some a ∧ x = .int a := by
  rw [List.getElem?_map] at h
  cases e : ns[i]? with
  | none => rw [e] at h; simp at h
  | some a => rw [e] at h; simp at h; exact ⟨a, rfl, h.symm⟩
theorem ok_is_ascending (tp : Top K mg) : FnN P w K mg base 2 "is_ascending" [] sp_is_ascending := by
  refine fn_by tp.f_is_ascending sc_is_ascending (fun vs H Q E h => by unfold sp_is_ascending at h; split at h <;> first | rfl | exact h.elim) (fun f cdv A outer s H vs Q E hr h => ⟨_, (pss_cons (g_if (PW.pt (g_or (pt_not (g_val (pe_callB (k_isi K rfl) (by rfl) tp.b_isinstance (by decide +kernel) (pa_cons (gv 0) (pa_cons (pe_bltn (v := .ty "list") rfl tp.b_list (by decide +kernel) rfl) pa_nil))))) (pw_or1 (g_cmp (k_neG K rfl hr.units) (g_lc rfl sc_is_ascending.nd (kw_list K rfl (gv 0)) (blkOk_by (own := [("number", 1)]) (N := (["value", "number", "at"] : List Str)) (sc := defScope s_is_ascending) (by decide +kernel)) (fun _ _ _ _ _ => pg_name (i := 1) sc_is_ascending.nd rfl (by first | exact Or.inl rfl | exact Or.inr rfl)) (fun _ _ _ _ _ => (pts_one (pt_not (g_val (g_call (ok_is_whole tp) hr rfl (by omega) (pa_cons (gv 1) pa_nil)))))) (fun _ _ _ _ _ => (gv 1))) (g_lst pa_nil) (nomark _))))) (pss_one (ps_ret pe_bl)) pss_nil) (pss_one (ps_ret (g_cmpV (k_eqG K rfl hr.units) (g_lc rfl sc_is_ascending.nd (w_range2 rfl tp.b_range (pa_cons pe_int (pa_cons (pe_callB (k_len K rfl) (by rfl) tp.b_len (by decide +kernel) (pa_cons (gv 0) pa_nil)) pa_nil))) (blkOk_by (own := [("at", 2)]) (N := (["value", "number", "at"] : List Str)) (sc := defScope s_is_ascending) (by decide +kernel)) (fun _ _ _ _ _ => pg_name (i := 2) sc_is_ascending.nd rfl (by first | exact Or.inl rfl | exact Or.inr rfl)) (fun _ _ _ _ _ => (pts_one (g_cmp op_geG (pe_ix (k_ix K rfl) (gv 0) (pe_op op_subG (gv 2) pe_int) (fun _ _ => rfl)) (pe_ix (k_ix K rfl) (gv 0) (gv 2) (fun _ _ => rfl)) (nomark _)))) (fun _ _ _ _ _ => (gv 2))) (g_lst pa_nil) (nomark _))))), ?_⟩)
  unfold sp_is_ascending at h
  split at h
  next p =>
    obtain ⟨ns, hp, asc, hl, h⟩ := h
    have hl2 : (ns.map V.int).length < sizeLine := by rw [List.length_map]; exact Nat.lt_of_le_of_lt hl (by decide)
    walk_at "w"
    refine ⟨_, is_ll hp, way_f ?_⟩
    walk_at "w"
    refine comp_list (xs := ns.map V.int) (fun i acc G => Same H G ∧ acc = []) hl2 ⟨Same.refl _, rfl⟩ (fun i acc G f => SqL.of (f.1 _ _ hp)) (fun D i x acc H' hx hD hDl hq f => ⟨rfl, ?_⟩) (fun D H' acc hD hDl hq f => ?_)
    · obtain ⟨a, ha, rfl⟩ := map_at hx
      walk_at "w"
      exact way_f ⟨hDl, f⟩
    · obtain ⟨s1, rfl⟩ := f
      have s2 : Same H H' := s1.trans off_same
      walk_at "w"
      refine ⟨by decide, fun p2 H2 hp2 s3 h2 => Or.inl ⟨[], SqL.of (s3 _ _ hDl), h2, ?_⟩⟩
      refine way_f ?_
      walk_at "w"
      have s4 : Same H H2 := s2.trans s3
      refine ⟨_, Or.inl (SqL.of (s4 _ _ hp)), ?_⟩
      rw [List.length_map]
      refine ⟨by omega, ?_⟩
      have hn : ((ns.length : Int) - 1).toNat = ns.length - 1 := by omega
      rw [hn]
      refine comp_range (fun i acc G => Same H G ∧ acc = []) (Nat.lt_of_le_of_lt (Nat.le_trans (Nat.sub_le _ _) hl) (by decide)) ⟨s4, rfl⟩ (fun D i acc H' hi hD hDl hq f => ⟨rfl, ?_⟩) (fun D H' acc hD hDl hq f => ?_)
      · obtain ⟨s5, rfl⟩ := f
        have s6 : Same H H' := s5.trans off_same
        obtain ⟨a, ha⟩ : ∃ a, ns[i]? = some a := ⟨ns[i], List.getElem?_eq_getElem (by omega)⟩
        obtain ⟨b, hb⟩ : ∃ b, ns[i + 1]? = some b := ⟨ns[i + 1], List.getElem?_eq_getElem (by omega)⟩
        have hab := pw_at asc ha hb
        walk_at "w"
        refine ⟨ns.map V.int, .int a, Or.inl (SqL.of (s6 _ _ hp)), at_of (j := i) (by omega) (by rw [List.getElem?_map, ha]; rfl), ?_⟩
        walk_at "w"
        refine ⟨ns.map V.int, .int b, Or.inl (SqL.of (s6 _ _ hp)), at_of (j := i + 1) (by omega) (by rw [List.getElem?_map, hb]; rfl), ?_⟩
        walk_at "w"
        rw [decide_eq_false (by omega)]
        exact way_f ⟨hDl, s5, rfl⟩
      · obtain ⟨s5, rfl⟩ := f
        walk_at "w"
        refine ⟨by decide, fun p3 H3 hp3 s6 h3 => Or.inl ⟨[], SqL.of (s6 _ _ hDl), h3, ?_⟩⟩
        exact h H3 ((s5.trans off_same).trans s6)
  next => exact h.elim
def sp_check_within (K : PySem.W.Frag) : Sp := fun vs H Q _ => match vs with
  | [.int a, .int lo, .int hi] => lo ≤ a ∧ a ≤ hi ∧ Q .non H
  | _ => False
theorem ok_check_within (tp : Top K mg) : FnN P w K mg base 2 "check_within" [] (sp_check_within K) := by
  refine fn_by tp.f_check_within sc_check_within (fun vs H Q E h => by unfold sp_check_within at h; split at h <;> first | rfl | exact h.elim) (fun f cdv A outer s H vs Q E hr h => ⟨_, (pss_one (g_if (PW.pt (g_or (pt_not (g_val (g_call (ok_is_whole tp) hr rfl (by omega) (pa_cons (gv 0) pa_nil)))) (pw_or1 (pt_not (g_chainT op_leG op_leG (gv 1) (gv 0) (gv 2)))))) (pss_one ps_never) pss_nil)), ?_⟩)
  unfold sp_check_within at h
  split at h
  next a lo hi =>
    obtain ⟨h1, h2, q⟩ := h
    walk_at "w"
    refine way_f ?_
    walk_at "w"
    rw [decide_eq_true h1]
    refine way_t ?_
    walk_at "w"
    rw [decide_eq_true h2]
    exact way_f q
  next => exact h.elim
abbrev CLf (K : PySem.W.Frag) : Addr := He.ga K "Leaf"
abbrev CGf (K : PySem.W.Frag) : Addr := He.ga K "Group"
abbrev MTk (K : PySem.W.Frag) : Hp → T → V → Prop := MT (CLf K) (CGf K)
abbrev MTsk (K : PySem.W.Frag) : Hp → List T → List V → Prop := MTs (CLf K) (CGf K)
theorem gfs_put (p r : Addr) (m : Nat) : putF "taken" (.int m) (putF "rows" (.ref r) (putF "picks" (.ref p) [])) = gfs p r m := by
  have e1 : ¬ (("picks" : Str) = "rows") := by decide +kernel
  have e2 : ¬ (("picks" : Str) = "taken") := by decide +kernel
  have e3 : ¬ (("rows" : Str) = "taken") := by decide +kernel
  simp only [putF, if_neg e1, if_neg e2, if_neg e3]
  rfl
def sp_Leaf___init__ (K : PySem.W.Frag) : Sp := fun vs H Q _ => match vs with
  | [.ref a, .str z] => ∃ dx, H a = some (.ins (CLf K) dx []) ∧ IsNm z ∧ ∀ H', SameX a H H' → H' a = some (.ins (CLf K) dx (lfs z)) → Q .non H'
  | _ => False
/-- Leaf(name) -/
def sp_Leaf (K : PySem.W.Frag) : Sp := fun vs H Q _ => match vs with
  | [.str z] => IsNm z ∧ ∀ v H', Same H H' → MTk K H' (.leaf z) v → Q v H'
  | _ => False
theorem mk_Leaf (tp : Top K mg) : MkN P w K mg base 3 "Leaf" (sp_Leaf K) := by
  refine mk_by (sp0 := sp_Leaf___init__ K) tp.m_Leaf___init__ tp.k_Leaf.1 tp.k_Leaf.2 tp.c_Leaf sc_Leaf___init__ (fun vs H Q E h => by unfold sp_Leaf___init__ at h; split at h <;> first | rfl | exact h.elim) (fun vs H Q h y dy hy hdy hne => ?_) (fun f cdv A outer s H vs Q E hr h => ⟨_, (pss_cons (ps_expr (g_call (ok_check_name tp) hr rfl (by omega) (pa_cons (gv 1) pa_nil))) (pss_one (k_fldS K rfl (gv 0) (gv 1) rfl))), ?_⟩)
  · unfold sp_Leaf at h
    split at h
    next z =>
      refine ⟨dy, upd_same, h.1, fun H' s1 h1 => ⟨rfl, h.2 _ _ (fun b o e => ?_) ⟨y, dy, rfl, h1⟩⟩⟩
      have n1 : b ≠ y := ne_of_none e hy
      exact s1 b o n1 (by rw [upd_ne n1, upd_ne (ne_of_none e hdy)]; exact e)
    next => exact h.elim
  · unfold sp_Leaf___init__ at h
    split at h
    next a z =>
      obtain ⟨dx, ha, hz, h⟩ := h
      walk_at "w"
      refine ⟨hz, fun H1 s1 => ?_⟩
      walk_at "w"
      refine ⟨_, dx, [], s1 _ _ ha, tp.i_Leaf.cl, tp.n_Leaf_label, (by decide), fun H2 s2 h2 => ?_⟩
      exact h H2 (fun b o n e => s2 b o n (s1 b o e)) h2
    next => exact h.elim
def sp_Leaf_width (K : PySem.W.Frag) : Sp := fun vs H Q _ => match vs with
  | [v] => ∃ z, MTk K H (.leaf z) v ∧ Q (.int 1) H
  | _ => False
theorem ok_Leaf_width (tp : Top K mg) : PrN P w K mg base 1 (CLf K) "width" (sp_Leaf_width K) := by
  refine pr_by tp.m_Leaf_width sc_Leaf_width (fun vs H Q E h => by unfold sp_Leaf_width at h; split at h <;> first | rfl | exact h.elim) (fun f cdv A outer s H vs Q E hr h => ⟨_, (pss_one (ps_ret pe_int)), ?_⟩)
  unfold sp_Leaf_width at h
  split at h
  · exact h.choose_spec.2
  · exact h.elim
def sp_Group_width (K : PySem.W.Frag) : Sp := fun vs H Q _ => match vs with
  | [v] => ∃ rk ps, MTk K H (.grp rk ps) v ∧ Q (.int rk.length) H
  | _ => False
theorem ok_Group_width (tp : Top K mg) : PrN P w K mg base 1 (CGf K) "width" (sp_Group_width K) := by
  refine pr_by tp.m_Group_width sc_Group_width (fun vs H Q E h => by unfold sp_Group_width at h; split at h <;> first | rfl | exact h.elim) (fun f cdv A outer s H vs Q E hr h => ⟨_, (pss_one (ps_ret (pe_callB (k_len K rfl) (by rfl) tp.b_len (by decide +kernel) (pa_cons (k_fld K rfl (gv 0) rfl) pa_nil)))), ?_⟩)
  unfold sp_Group_width at h
  split at h
  next v =>
    obtain ⟨rk, ps, ⟨a, dx, p, r, us, rfl, h1, h2, h3, h4⟩, q⟩ := h
    walk_at "w"
    refine ⟨_, dx, _, .ref p, h1, tp.i_Group.cl, tp.n_Group_picks, rfl, ?_⟩
    walk_at "w"
    refine ⟨_, Or.inr (SqT.of h2), ?_⟩
    rw [List.length_map]
    exact q
  next => exact h.elim
/-- x.width of a variable -/
theorem rd_width {K : PySem.W.Frag} {i : Nat} {σ : L2.St} {H : Hp} {Q : VK} {t : T} {v : V} (hi : σ[i]? = some (some v)) (m : MTk K H t v) (q : Q (.int t.width) H) :
    gProp (CLf K) (sp_Leaf_width K) (gVar i) σ H Q ∨ gProp (CGf K) (sp_Group_width K) (gVar i) σ H Q := by
  cases t with
  | leaf z =>
    have m' := m
    obtain ⟨a, dx, rfl, h⟩ := m
    left; unfold gProp gVar; rw [hi]
    exact ⟨dx, _, h, z, m', q⟩
  | grp rk ps =>
    have m' := m
    obtain ⟨a, dx, p, r, us, rfl, h, _⟩ := m
    right; unfold gProp gVar; rw [hi]
    exact ⟨dx, _, h, rk, ps, m', q⟩
def sp_Leaf_names (K : PySem.W.Frag) : Sp := fun vs H Q _ => match vs with
  | [v] => ∃ z, MTk K H (.leaf z) v ∧ ∀ p H', H p = none → Same H H' → H' p = some (.lst [.str z]) → Q (.ref p) H'
  | _ => False
theorem ok_Leaf_names (tp : Top K mg) : MtN P w K mg base 1 (CLf K) "names" [] (sp_Leaf_names K) := by
  refine mt_by tp.m_Leaf_names sc_Leaf_names (fun vs H Q E h => by unfold sp_Leaf_names at h; split at h <;> first | rfl | exact h.elim) (fun f cdv A outer s H vs Q E hr h => ⟨_, (pss_one (ps_ret (g_lst (pa_cons (k_fld K rfl (gv 0) rfl) pa_nil)))), ?_⟩)
  unfold sp_Leaf_names at h
  split at h
  next v =>
    obtain ⟨z, ⟨a, dx, rfl, h1⟩, q⟩ := h
    walk_at "w"
    refine ⟨_, dx, _, .str z, h1, tp.i_Leaf.cl, tp.n_Leaf_label, rfl, ?_⟩
    exact ⟨(by show 1 ≤ sizeLine; decide), q⟩
  next => exact h.elim
def sp_Group_names (K : PySem.W.Frag) (n : Nat) : Sp := fun vs H Q _ => match vs with
  | [v] => ∃ rk ps, MTk K H (.grp rk ps) v ∧ T.depthL ps < n ∧ (T.namesL ps).length ≤ 1000 ∧ ∀ p H', H p = none → Same H H' → H' p = some (.lst ((T.namesL ps).map V.str)) → Q (.ref p) H'
  | _ => False
theorem T.namesL_take {ts : List T} {i : Nat} {t : T} (h : ts[i]? = some t) : T.namesL (ts.take (i + 1)) = T.namesL (ts.take i) ++ t.names := by
  rw [List.take_add_one, h, T.namesL_eq, T.namesL_eq, List.flatMap_append]
  simp
theorem T.namesL_take_le {ts : List T} (i : Nat) : (T.namesL (ts.take i)).length ≤ (T.namesL ts).length := by
  have : T.namesL ts = T.namesL (ts.take i) ++ T.namesL (ts.drop i) := by
    rw [T.namesL_eq, T.namesL_eq, T.namesL_eq, ← List.flatMap_append, List.take_append_drop]
  rw [this, List.length_append]; omega
theorem ok_Group_names (tp : Top K mg) : ∀ n, MtN P w K mg base (n + 1) (CGf K) "names" [] (sp_Group_names K n)
  | 0 => by
    refine mt_by tp.m_Group_names sc_Group_names (fun vs H Q E h => by unfold sp_Group_names at h; split at h <;> first | rfl | exact h.elim) (fun f cdv A outer s H vs Q E hr h => ?_)
    exfalso
    unfold sp_Group_names at h
    split at h
    next v => obtain ⟨rk, ps, _, h, _⟩ := h; omega
    next => exact h
  | n + 1 => by
    have ih := ok_Group_names tp n
    have okL : MtN P w K mg base (n + 1) (CLf K) "names" [] (sp_Leaf_names K) := (ok_Leaf_names tp).up (by omega)
    refine mt_by tp.m_Group_names sc_Group_names (fun vs H Q E h => by unfold sp_Group_names at h; split at h <;> first | rfl | exact h.elim) (fun f cdv A outer s H vs Q E hr h => ⟨_, (pss_one (ps_ret (g_lc2 rfl sc_Group_names.nd (kw_tup K rfl (k_fld K rfl (gv 0) rfl)) (blkOk_by (own := [("part", 1), ("name", 2)]) (N := (["self", "part", "name"] : List Str)) (sc := defScope s_Group_names) (by decide +kernel)) (vs1 := [2]) (by decide) (fun _ _ _ _ _ => pg_name (i := 1) sc_Group_names.nd rfl (by first | exact Or.inl rfl | exact Or.inr rfl)) (fun _ _ _ _ _ => (kw_list K rfl (PEor (g_meth0 (okL) hr (by omega) (gv 1)) (g_meth0 (ih) hr (by omega) (gv 1))))) (fun _ _ _ _ _ => pg_name (i := 2) sc_Group_names.nd rfl (by first | exact Or.inl rfl | exact Or.inr rfl)) (fun _ _ _ _ _ => (gv 2))))), ?_⟩)
    unfold sp_Group_names at h
    split at h
    next v =>
      obtain ⟨rk, ps, ⟨a, dx, p, r, us, rfl, h1, h2, h3, h4⟩, hd, hz, q⟩ := h
      have hus := h4.length
      walk_at "w"
      refine ⟨_, dx, _, .ref r, h1, tp.i_Group.cl, tp.n_Group_rows, rfl, ?_⟩
      walk_at "w"
      refine comp2_tup (xs := us) (fun i acc G => Same H G ∧ acc = (T.namesL (ps.take i)).map V.str) ⟨Same.refl _, rfl⟩ (fun i acc G f => SqT.of (f.1 _ _ h3)) (fun D i x acc H' hx hD hDl f => ⟨rfl, ?_⟩) (fun D H' acc hD hDl f => ?_)
      · obtain ⟨s1, rfl⟩ := f
        obtain ⟨t, ht, mt⟩ := (h4.mono (s1.trans off_same)).at_ hx
        have tl := T.namesL_take ht
        have le1 := T.namesL_take_le (ts := ps) (i + 1)
        have main : ∀ b H4, H' b = none → Same H' H4 → H4 b = some (.lst (t.names.map V.str)) → (∃ ys, SqL K H4 b ys) ∧ Inner 2 (gVar 2) [2] [some (.ref a), some x, none] D ((T.namesL (ps.take i)).map V.str) (fun acc G => Same H G ∧ acc = (T.namesL (ps.take (i + 1))).map V.str) (Itl K b) H4 := fun b H4 hb s2 h5 => by
          have hne : b ≠ D := (ne_of_none hDl hb).symm
          refine inner_flat (s2 _ _ hDl) (SqL.of (by rw [off_at hne]; exact h5)) ?_ (fun z => rfl) (fun z => rfl) (fun G s3 => ⟨s1.trans ((off_mono s2).trans s3), by rw [tl, List.map_append]⟩)
          rw [List.length_map, List.length_map]
          rw [tl, List.length_append] at le1
          exact Nat.lt_of_le_of_lt (Nat.le_trans le1 hz) (by decide)
        cases t with
        | leaf z =>
          obtain ⟨b, dy, rfl, hb⟩ := mt
          left
          exact ⟨dy, _, hb, rfl, z, ⟨b, dy, rfl, hb⟩, main⟩
        | grp rk2 ps2 =>
          have mt' := mt
          obtain ⟨b, dy, p2, r2, us2, rfl, hb, _⟩ := mt
          have hdt := T.depthL_le (List.mem_of_getElem? ht)
          rw [T.depth] at hdt
          right
          refine ⟨dy, _, hb, rfl, rk2, ps2, mt', by omega, ?_, ?_⟩
          · rw [tl, List.length_append, T.names] at le1; omega
          · exact main
      · obtain ⟨s1, rfl⟩ := f
        refine q D H' hD (s1.trans off_same) ?_
        rw [hDl, hus, List.take_length]
    next => exact h.elim
/-- parts that may stand in one group -/
structure PtsOk (ts : List T) : Prop where
  ne : ts ≠ []
  nd : (T.namesL ts).Nodup
  dp : T.depthL ts < 45
  sz : (T.namesL ts).length ≤ 1000
  tk : T.taken ts ≤ 1000
  ln : ts.length ≤ 1000
def sp_are_parts (K : PySem.W.Frag) : Sp := fun vs H Q _ => match vs with
  | [.ref p] => ∃ us ts, H p = some (.lst us) ∧ MTsk K H ts us ∧ PtsOk ts ∧ ∀ H', Same H H' → Q (.bl true) H'
  | _ => False
theorem lt1000 {n : Nat} (h : n ≤ 1000) : n < sizeLine := Nat.lt_of_le_of_lt h (by decide)
/-- x.names() of a variable, as a list to be walked -/
theorem rd_names {K : PySem.W.Frag} {i : Nat} {σ : L2.St} {H : Hp} {Q : VK} {t : T} {v : V} {n : Nat} (hi : σ[i]? = some (some v)) (m : MTk K H t v) (hd : t.depth ≤ n) (hz : t.names.length ≤ 1000) (q : ∀ p H', H p = none → Same H H' → H' p = some (.lst (t.names.map V.str)) → Q (.ref p) H') :
    gMeth (CLf K) "names" (sp_Leaf_names K) [] (gVar i) tNil σ H Q ∨ gMeth (CGf K) "names" (sp_Group_names K n) [] (gVar i) tNil σ H Q := by
  cases t with
  | leaf z =>
    have m' := m
    obtain ⟨a, dx, rfl, h⟩ := m
    left; unfold gMeth gVar; rw [hi]
    exact ⟨dx, _, h, rfl, z, m', q⟩
  | grp rk ps =>
    have m' := m
    obtain ⟨a, dx, p, r, us, rfl, h, _⟩ := m
    right; unfold gMeth gVar; rw [hi]
    rw [T.depth] at hd
    rw [T.names] at hz
    exact ⟨dx, _, h, rfl, rk, ps, m', by omega, hz, q⟩
theorem is_tree {K : PySem.W.Frag} {mg : Str → Option Value} (tp : Top K mg) {H : Hp} {t : T} {v : V} (m : MTk K H t v) : IsT K H v (.ref (He.ga K "Tree")) true := by
  cases t with
  | leaf z => obtain ⟨a, dx, rfl, h⟩ := m; exact is_own h tp.i_Leaf tp.kit_Leaf_Tree
  | grp rk ps => obtain ⟨a, dx, p, r, us, rfl, h, _⟩ := m; exact is_own h tp.i_Group tp.kit_Group_Tree
theorem ok_are_parts (tp : Top K mg) : FnN P w K mg base 47 "are_parts" [] (sp_are_parts K) := by
  refine fn_by tp.f_are_parts sc_are_parts (fun vs H Q E h => by unfold sp_are_parts at h; split at h <;> first | rfl | exact h.elim) (fun f cdv A outer s H vs Q E hr h => ⟨_, (pss_cons (g_if (PW.pt (g_or (pt_not (g_val (pe_callB (k_isi K rfl) (by rfl) tp.b_isinstance (by decide +kernel) (pa_cons (gv 0) (pa_cons (pe_bltn (v := .ty "list") rfl tp.b_list (by decide +kernel) rfl) pa_nil))))) (g_or (g_cmp (k_eqG K rfl hr.units) (gv 0) (g_lst pa_nil) (nomark _)) (pw_or1 (g_cmp (k_neG K rfl hr.units) (g_lc rfl sc_are_parts.nd (kw_list K rfl (gv 0)) (blkOk_by (own := [("part", 2)]) (N := (["value", "names", "part", "name"] : List Str)) (sc := defScope s_are_parts) (by decide +kernel)) (fun _ _ _ _ _ => pg_name (i := 2) sc_are_parts.nd rfl (by first | exact Or.inl rfl | exact Or.inr rfl)) (fun _ _ _ _ _ => (pts_one (pt_not (g_val (pe_callB (k_isi K rfl) (by rfl) tp.b_isinstance (by decide +kernel) (pa_cons (gv 2) (pa_cons (pe_glob (v := .ref _) rfl tp.c_Tree rfl) pa_nil))))))) (fun _ _ _ _ _ => (gv 2))) (g_lst pa_nil) (nomark _)))))) (pss_one (ps_ret pe_bl)) pss_nil) (pss_cons (g_setLc2 (i := 1) rfl sc_are_parts.nd rfl rfl (sw_true rfl rfl rfl (by decide +kernel)) (kw_list K rfl (gv 0)) (blkOk_by (own := [("part", 2), ("name", 3)]) (N := (["value", "names", "part", "name"] : List Str)) (sc := defScope s_are_parts) (by decide +kernel)) (vs1 := [3]) (by decide) (fun _ _ _ _ _ => pg_name (i := 2) sc_are_parts.nd rfl (by first | exact Or.inl rfl | exact Or.inr rfl)) (fun _ _ _ _ _ => (kw_list K rfl (PEor (g_meth0 (ok_Leaf_names tp) hr (by omega) (gv 2)) (g_meth0 (ok_Group_names tp 45) hr (by omega) (gv 2))))) (fun _ _ _ _ _ => pg_name (i := 3) sc_are_parts.nd rfl (by first | exact Or.inl rfl | exact Or.inr rfl)) (fun _ _ _ _ _ => (gv 3))) (pss_one (ps_ret (g_cmpV (k_eqG K rfl hr.units) (k_lenSet K rfl rfl tp.b_len rfl tp.b_set (gv 1) rfl) (pe_callB (k_len K rfl) (by rfl) tp.b_len (by decide +kernel) (pa_cons (gv 1) pa_nil)) (nomark _)))))), ?_⟩)
  unfold sp_are_parts at h
  split at h
  next p =>
    obtain ⟨us, ts, hp, hm, ok, q⟩ := h
    have hl := hm.length
    have hne : us ≠ [] := by rintro rfl; exact ok.ne (List.length_eq_zero_iff.mp (by simpa using hl.symm))
    walk_at "w"
    refine ⟨_, is_ll hp, way_f ?_⟩
    walk_at "w"
    refine ⟨(by show 0 ≤ sizeLine; decide), fun p1 H1 hp1 s1 h1 => Or.inl ⟨us, SqL.of (s1 _ _ hp), h1, ?_⟩⟩
    rw [List.isEmpty_eq_false_iff.mpr hne]
    refine way_f ?_
    walk_at "w"
    refine comp_list (xs := us) (fun i acc G => Same H1 G ∧ acc = []) (by rw [hl]; exact lt1000 ok.ln) ⟨Same.refl _, rfl⟩ (fun i acc G f => SqL.of (f.1 _ _ (s1 _ _ hp))) (fun D i x acc H' hx hD hDl hq f => ⟨rfl, ?_⟩) (fun D H' acc hD hDl hq f => ?_)
    · obtain ⟨s2, rfl⟩ := f
      obtain ⟨t, ht, mt⟩ := (hm.mono (s1.trans (s2.trans off_same))).at_ hx
      walk_at "w"
      exact ⟨_, is_tree tp mt, way_f ⟨hDl, s2, rfl⟩⟩
    · obtain ⟨s2, rfl⟩ := f
      have s3 : Same H H' := s1.trans (s2.trans off_same)
      walk_at "w"
      refine ⟨(by show 0 ≤ sizeLine; decide), fun p2 H2 hp2 s4 h2 => Or.inl ⟨[], SqL.of (s4 _ _ hDl), h2, ?_⟩⟩
      refine way_f ?_
      have s5 : Same H H2 := s3.trans s4
      walk_at "w"
      refine comp2_list (xs := us) (fun i acc G => Same H2 G ∧ acc = (T.namesL (ts.take i)).map V.str) ⟨Same.refl _, rfl⟩ (fun i acc G f => SqL.of (f.1 _ _ (s5 _ _ hp))) (fun D i x acc H' hx hD hDl f => ⟨rfl, ?_⟩) (fun D H' acc hD hDl f => ?_)
      · obtain ⟨s6, rfl⟩ := f
        obtain ⟨t, ht, mt⟩ := (hm.mono (s5.trans (s6.trans off_same))).at_ hx
        have tl := T.namesL_take ht
        have le1 := T.namesL_take_le (ts := ts) (i + 1)
        rw [tl, List.length_append] at le1
        have hz := ok.sz
        have hd := T.depthL_le (List.mem_of_getElem? ht)
        have dp := ok.dp
        refine rd_names (i := 2) (n := 45) rfl mt (by omega) (by omega) fun b H4 hb s7 h5 => ?_
        have hbD : b ≠ D := (ne_of_none hDl hb).symm
        refine inner_flat (s7 _ _ hDl) (SqL.of (by rw [off_at hbD]; exact h5)) ?_ (fun z => rfl) (fun z => rfl) (fun G s8 => ⟨s6.trans ((off_mono s7).trans s8), by rw [tl, List.map_append]⟩)
        rw [List.length_map, List.length_map]
        exact lt1000 (by omega)
      · obtain ⟨s6, rfl⟩ := f
        have s7 : Same H H' := s5.trans (s6.trans off_same)
        rw [hl, List.take_length] at hDl
        walk_at "w"
        refine ⟨T.namesL ts, SqL.of hDl, Nat.le_trans ok.sz (by decide), ?_⟩
        walk_at "w"
        refine ⟨_, Or.inl (SqL.of hDl), ?_⟩
        rw [List.length_map, dd_nodup_eq _ _ rfl ok.nd]
        have e : decide (((T.namesL ts).length : Int) = ((T.namesL ts).length : Int)) = true := decide_eq_true rfl
        have z := q H' s7
        rw [← e] at z
        exact z
  next => exact h.elim
def sp_is_group (K : PySem.W.Frag) : Sp := fun vs H Q _ => match vs with
  | [.ref rp, .ref pp] => ∃ rk us ts, H rp = some (.lst (rk.map V.int)) ∧ H pp = some (.lst us) ∧ MTsk K H ts us ∧ PtsOk ts ∧ RkOk rk (T.taken ts) ∧ rk.length ≤ 1000 ∧ ∀ H', Same H H' → Q (.bl true) H'
  | _ => False
theorem last_at {α : Type} {xs : List α} (h : xs ≠ []) : ∃ v, v ∈ xs ∧ atI xs (-1) = some v :=
  ⟨xs.getLast h, List.getLast_mem h, by
    have e := atI_last xs.dropLast (xs.getLast h)
    rw [List.dropLast_concat_getLast] at e
    exact e⟩
theorem ok_is_group (tp : Top K mg) : FnN P w K mg base 48 "is_group" [] (sp_is_group K) := by
  refine fn_by tp.f_is_group sc_is_group (fun vs H Q E h => by unfold sp_is_group at h; split at h <;> first | rfl | exact h.elim) (fun f cdv A outer s H vs Q E hr h => ⟨_, (pss_cons (g_if (PW.pt (g_or (pt_not (g_val (g_call (ok_are_parts tp) hr rfl (by omega) (pa_cons (gv 1) pa_nil)))) (g_or (pt_not (g_val (g_call (ok_is_ascending tp) hr rfl (by omega) (pa_cons (gv 0) pa_nil)))) (pw_or1 (g_cmp (k_eqG K rfl hr.units) (gv 0) (g_lst pa_nil) (nomark _)))))) (pss_one (ps_ret pe_bl)) pss_nil) (pss_one (ps_ret (g_andV (g_cmpV op_geG (pe_ix (k_ix K rfl) (gv 0) pe_int (fun _ _ => rfl)) pe_int (nomark _)) (pe_one (g_cmpV op_leG (pe_ix (k_ix K rfl) (gv 0) (pe_un un_negG pe_int) (fun _ _ => rfl)) (pe_callB (k_sum K rfl rfl) (by rfl) tp.b_sum (by decide +kernel) (pa_cons (g_lc rfl sc_is_group.nd (kw_list K rfl (gv 1)) (blkOk_by (own := [("part", 2)]) (N := (["ranks", "parts", "part"] : List Str)) (sc := defScope s_is_group) (by decide +kernel)) (fun _ _ _ _ _ => pg_name (i := 2) sc_is_group.nd rfl (by first | exact Or.inl rfl | exact Or.inr rfl)) (fun _ _ _ _ _ => pts_nil) (fun _ _ _ _ _ => (PEor (g_prop (ok_Leaf_width tp) hr (by omega) (gv 2) rfl) (g_prop (ok_Group_width tp) hr (by omega) (gv 2) rfl)))) pa_nil)) (nomark _))))))), ?_⟩)
  unfold sp_is_group at h
  split at h
  next rp pp =>
    obtain ⟨rk, us, ts, hr1, hp, hm, ok, rok, hrl, q⟩ := h
    have hl := hm.length
    walk_at "w"
    refine ⟨us, ts, hp, hm, ok, fun H1 s1 => ?_⟩
    refine way_f ?_
    walk_at "w"
    refine ⟨rk, s1 _ _ hr1, rok.asc, hrl, fun H2 s2 => ?_⟩
    refine way_f ?_
    have s3 := s1.trans s2
    walk_at "w"
    refine ⟨(by show 0 ≤ sizeLine; decide), fun p1 H3 hp1 s4 h3 => Or.inl ⟨rk.map V.int, SqL.of (s4 _ _ (s3 _ _ hr1)), h3, ?_⟩⟩
    have s5 := s3.trans s4
    have rne : (rk.map V.int).isEmpty = false := by
      rw [List.isEmpty_eq_false_iff]
      intro z; exact rok.ne (List.map_eq_nil_iff.mp z)
    rw [rne]
    refine way_f ?_
    obtain ⟨r0, rs, e⟩ : ∃ r0 rs, rk = r0 :: rs := by
      cases rk with
      | nil => exact absurd rfl rok.ne
      | cons a b => exact ⟨a, b, rfl⟩
    have h0 : (1 : Int) ≤ r0 := rok.lo r0 (by rw [e]; exact List.mem_cons_self ..)
    walk_at "w"
    refine ⟨rk.map V.int, .int r0, Or.inl (SqL.of (s5 _ _ hr1)), at_of (j := 0) rfl (by rw [e]; rfl), ?_⟩
    walk_at "w"
    rw [decide_eq_true h0]
    refine way_t ?_
    obtain ⟨rl, hrm, hlast⟩ := last_at (xs := rk.map V.int) (by intro z; exact rok.ne (List.map_eq_nil_iff.mp z))
    obtain ⟨r1, hr1m, rfl⟩ := List.mem_map.mp hrm
    walk_at "w"
    refine ⟨rk.map V.int, .int r1, Or.inl (SqL.of (s5 _ _ hr1)), hlast, ?_⟩
    walk_at "w"
    refine comp_list (xs := us) (fun i acc G => Same H3 G ∧ acc = (ts.take i).map fun t => V.int t.width) (by rw [hl]; exact lt1000 ok.ln) ⟨Same.refl _, rfl⟩ (fun i acc G f => SqL.of (f.1 _ _ (s5 _ _ hp))) (fun D i x acc H' hx hD hDl hq f => ⟨rfl, ?_⟩) (fun D H' acc hD hDl hq f => ?_)
    · obtain ⟨s6, rfl⟩ := f
      obtain ⟨t, ht, mt⟩ := (hm.mono (s5.trans (s6.trans off_same))).at_ hx
      refine way_t (rd_width (i := 2) rfl mt ⟨hDl, s6, ?_⟩)
      rw [List.take_add_one, ht, List.map_append]
      rfl
    · obtain ⟨s6, rfl⟩ := f
      rw [hl, List.take_length] at hDl
      walk_at "w"
      refine ⟨ts.map fun t => (t.width : Int), SqL.of (by rw [List.map_map]; exact hDl), ?_⟩
      have z := q H' (s5.trans (s6.trans off_same))
      have e2 : decide (r1 ≤ (ts.map fun t => (t.width : Int)).sum) = true := decide_eq_true (by rw [← T.taken_eq]; exact rok.hi r1 hr1m)
      rw [← e2] at z
      exact z
  next => exact h.elim
/-- Group(ranks, parts) -/
def sp_Group (K : PySem.W.Frag) : Sp := fun vs H Q _ => match vs with
  | [.ref rp, .ref pp] => ∃ rk us ts, H rp = some (.lst (rk.map V.int)) ∧ H pp = some (.lst us) ∧ MTsk K H ts us ∧ PtsOk ts ∧ RkOk rk (T.taken ts) ∧ rk.length ≤ 1000 ∧ ∀ v H', Same H H' → MTk K H' (.grp rk ts) v → Q v H'
  | _ => False
def sp_Group___init__ (K : PySem.W.Frag) : Sp := fun vs H Q _ => match vs with
  | [.ref a, .ref rp, .ref pp] => ∃ dx H0 rk us ts, H a = some (.ins (CGf K) dx []) ∧ H0 a = none ∧ Same H0 H ∧ H0 rp = some (.lst (rk.map V.int)) ∧ H0 pp = some (.lst us) ∧ MTsk K H0 ts us ∧ PtsOk ts ∧ RkOk rk (T.taken ts) ∧ rk.length ≤ 1000 ∧
    ∀ H', Same H0 H' → MTk K H' (.grp rk ts) (.ref a) → Q .non H'
  | _ => False
theorem mk_Group (tp : Top K mg) : MkN P w K mg base 49 "Group" (sp_Group K) := by
  refine mk_by (sp0 := sp_Group___init__ K) tp.m_Group___init__ tp.k_Group.1 tp.k_Group.2 tp.c_Group sc_Group___init__ (fun vs H Q E h => by unfold sp_Group___init__ at h; split at h <;> first | rfl | exact h.elim) (fun vs H Q h y dy hy hdy hne => ?_) (fun f cdv A outer s H vs Q E hr h => ⟨_, (pss_cons (g_if (pt_not (g_val (g_call (ok_is_group tp) hr rfl (by omega) (pa_cons (gv 1) (pa_cons (gv 2) pa_nil))))) (pss_one ps_never) pss_nil) (pss_cons (k_fldS K rfl (gv 0) (pe_callTy (k_tuple K rfl) (by rfl) tp.b_tuple (by decide +kernel) (pa_cons (gv 1) pa_nil)) rfl) (pss_cons (k_fldS K rfl (gv 0) (pe_callTy (k_tuple K rfl) (by rfl) tp.b_tuple (by decide +kernel) (pa_cons (gv 2) pa_nil)) rfl) (pss_one (k_fldS K rfl (gv 0) (pe_callB (k_sum K rfl rfl) (by rfl) tp.b_sum (by decide +kernel) (pa_cons (g_lc rfl sc_Group___init__.nd (kw_list K rfl (gv 2)) (blkOk_by (own := [("part", 3)]) (N := (["self", "ranks", "parts", "part"] : List Str)) (sc := defScope s_Group___init__) (by decide +kernel)) (fun _ _ _ _ _ => pg_name (i := 3) sc_Group___init__.nd rfl (by first | exact Or.inl rfl | exact Or.inr rfl)) (fun _ _ _ _ _ => pts_nil) (fun _ _ _ _ _ => (PEor (g_prop (ok_Leaf_width tp) hr (by omega) (gv 3) rfl) (g_prop (ok_Group_width tp) hr (by omega) (gv 3) rfl)))) pa_nil)) rfl))))), ?_⟩)
  · unfold sp_Group at h
    split at h
    next rp pp =>
      obtain ⟨rk, us, ts, h1, h2, h3, h4, h5, h6, q⟩ := h
      exact ⟨dy, H, rk, us, ts, upd_same, hy, fun b o e => by rw [upd_ne (ne_of_none e hy), upd_ne (ne_of_none e hdy)]; exact e, h1, h2, h3, h4, h5, h6, fun H' s1 m => ⟨rfl, q _ H' s1 m⟩⟩
    next => exact h.elim
  · unfold sp_Group___init__ at h
    split at h
    next a rp pp =>
      obtain ⟨dx, H0, rk, us, ts, ha, h0a, s0, h1, h2, h3, ok, rok, hrl, q⟩ := h
      have hl := h3.length
      walk_at "w"
      refine ⟨rk, us, ts, s0 _ _ h1, s0 _ _ h2, h3.mono s0, ok, rok, hrl, fun H1 s1 => ?_⟩
      refine way_f ?_
      have s2 := s0.trans s1
      walk_at "w"
      refine ⟨_, SqL.of (s2 _ _ h1), fun p2 H2 hp2 s3 e2 => ?_⟩
      have n0 : ∀ {H' : Hp} {b : Addr}, Same H1 H' → H' b = none → b ≠ a := fun {H' b} s hb => by
        rintro rfl
        rw [s _ _ (s1 _ _ ha)] at hb; cases hb
      refine ⟨_, dx, [], s3 _ _ (s1 _ _ ha), tp.i_Group.cl, tp.n_Group_picks, (by decide), fun H3 s4 e3 => ?_⟩
      have s5 : Same H0 H3 := SameX.un (s2.trans s3) h0a s4
      have n2 : p2 ≠ a := n0 (Same.refl _) hp2
      have e2' : H3 p2 = some (.tup (rk.map V.int)) := s4 _ _ n2 e2
      walk_at "w"
      refine ⟨_, SqL.of (s5 _ _ h2), fun p4 H4 hp4 s6 e4 => ?_⟩
      have n4 : p4 ≠ a := by rintro rfl; rw [e3] at hp4; cases hp4
      refine ⟨_, dx, _, s6 _ _ e3, tp.i_Group.cl, tp.n_Group_rows, (by show 1 < 1000; decide), fun H5 s7 e5 => ?_⟩
      have s8 : Same H0 H5 := SameX.un (s5.trans s6) h0a s7
      have e2'' : H5 p2 = some (.tup (rk.map V.int)) := s7 _ _ n2 (s6 _ _ e2')
      have e4' : H5 p4 = some (.tup us) := s7 _ _ n4 e4
      walk_at "w"
      refine comp_list (xs := us) (fun i acc G => Same H5 G ∧ acc = (ts.take i).map fun t => V.int t.width) (by rw [hl]; exact lt1000 ok.ln) ⟨Same.refl _, rfl⟩ (fun i acc G f => SqL.of (f.1 _ _ (s8 _ _ h2))) (fun D i x acc H' hx hD hDl hq f => ⟨rfl, ?_⟩) (fun D H' acc hD hDl hq f => ?_)
      · obtain ⟨s9, rfl⟩ := f
        obtain ⟨t, ht, mt⟩ := (h3.mono (s8.trans (s9.trans off_same))).at_ hx
        refine way_t (rd_width (i := 3) rfl mt ⟨hDl, s9, ?_⟩)
        rw [List.take_add_one, ht, List.map_append]
        rfl
      · obtain ⟨s9, rfl⟩ := f
        rw [hl, List.take_length] at hDl
        have s10 : Same H5 H' := s9.trans off_same
        walk_at "w"
        refine ⟨ts.map fun t => (t.width : Int), SqL.of (by rw [List.map_map]; exact hDl), ?_⟩
        refine ⟨_, dx, _, s10 _ _ e5, tp.i_Group.cl, tp.n_Group_taken, ?_, fun H6 s11 e6 => ?_⟩
        · have e1 : ¬ (("picks" : Str) = "rows") := by decide +kernel
          simp only [putF, if_neg e1]
          show 2 < 1000
          decide
        · have s12 : Same H0 H6 := SameX.un (s8.trans s10) h0a s11
          refine q H6 s12 ⟨a, dx, p2, p4, us, rfl, ?_, s11 _ _ n2 (s10 _ _ e2''), s11 _ _ n4 (s10 _ _ e4'), h3.mono s12⟩
          rw [← gfs_put, e6, T.taken_eq]
    next => exact h.elim
end LW
namespace LW
open PySem PySem.Spec L2 GG
variable {P : Program} {w : World} {K : PySem.W.Frag} {mg : Str → Option Value} {base : Heap}
theorem _root_.GG.T.Gd.pts {rk : List Int} {ps : List T} (g : (T.grp rk ps).Gd) : PtsOk ps ∧ RkOk rk (T.taken ps) ∧ rk.length ≤ 1000 := by
  have s := g.sh
  rw [T.Sh] at s
  have n := g.nd
  rw [T.names] at n
  have z := g.sz
  rw [T.names] at z
  have d := g.dp
  rw [T.depth] at d
  have t := T.taken_le s.2.2
  have r := s.2.1.len
  exact ⟨⟨s.1, n, by omega, z, by omega, by omega⟩, s.2.1, by omega⟩
theorem pos_len {α : Type} {l : List α} (h : l ≠ []) : 0 < l.length := by
  rcases Nat.eq_zero_or_pos l.length with z | z
  · exact absurd (List.length_eq_zero_iff.mp z) h
  · exact z
theorem filt_take {α : Type} {l : List α} {p : α → Bool} {i : Nat} {x : α} (h : l[i]? = some x) : (l.take (i + 1)).filter p = (l.take i).filter p ++ (if p x = true then [x] else []) := by
  rw [List.take_add_one, h, List.filter_append]
  congr 1
  show List.filter p [x] = _
  rw [List.filter_cons, List.filter_nil]
theorem T.taken_take_le : ∀ (ts : List T) (i : Nat), T.taken (ts.take i) ≤ T.taken ts
  | [], i => by rw [List.take_nil]; exact Nat.le_refl _
  | t :: ts, 0 => Nat.zero_le _
  | t :: ts, i + 1 => by
    have := T.taken_take_le ts i
    rw [List.take_succ_cons, T.taken, T.taken]; omega
theorem is_leafT {K : PySem.W.Frag} {mg : Str → Option Value} (tp : Top K mg) {H : Hp} {t : T} {v : V} (m : MTk K H t v) : IsT K H v (.ref (He.ga K "Leaf")) (match t with | .leaf _ => true | .grp _ _ => false) := by
  cases t with
  | leaf z => obtain ⟨a, dx, rfl, h⟩ := m; exact is_own h tp.i_Leaf tp.kit_Leaf_Leaf
  | grp rk ps => obtain ⟨a, dx, p, r, us, rfl, h, _⟩ := m; exact is_own h tp.i_Group tp.kit_Group_Leaf
theorem getD_map {l : List Int} {i : Nat} (h : i < l.length) : (l.map V.int)[i]? = some (.int (l.getD i 0)) := by
  rw [List.getElem?_map, List.getElem?_eq_getElem h]
  simp [List.getD_eq_getElem?_getD, h]
theorem lt1000x {n : Nat} (h : n ≤ 100000) : n < sizeLine := Nat.lt_of_le_of_lt h (by decide)
def sp_Group_ranks (K : PySem.W.Frag) : Sp := fun vs H Q _ => match vs with
  | [v] => ∃ rk ps, MTk K H (.grp rk ps) v ∧ ∀ p H', H p = none → Same H H' → H' p = some (.lst (rk.map V.int)) → Q (.ref p) H'
  | _ => False
theorem ok_Group_ranks (tp : Top K mg) : PrN P w K mg base 1 (CGf K) "ranks" (sp_Group_ranks K) := by
  refine pr_by tp.m_Group_ranks sc_Group_ranks (fun vs H Q E h => by unfold sp_Group_ranks at h; split at h <;> first | rfl | exact h.elim) (fun f cdv A outer s H vs Q E hr h => ⟨_, (pss_one (ps_ret (pe_callTy (k_list K rfl) (by rfl) tp.b_list (by decide +kernel) (pa_cons (k_fld K rfl (gv 0) rfl) pa_nil)))), ?_⟩)
  unfold sp_Group_ranks at h
  split at h
  next v =>
    obtain ⟨rk, ps, ⟨a, dx, p, r, us, rfl, h1, h2, h3, h4⟩, q⟩ := h
    walk_at "w"
    refine ⟨_, dx, _, .ref p, h1, tp.i_Group.cl, tp.n_Group_picks, rfl, ?_⟩
    exact ⟨_, Or.inr (SqT.of h2), q⟩
  next => exact h.elim
def sp_Group_parts (K : PySem.W.Frag) : Sp := fun vs H Q _ => match vs with
  | [v] => ∃ rk ps, MTk K H (.grp rk ps) v ∧ ∀ p us H', H p = none → Same H H' → MTsk K H ps us → H' p = some (.lst us) → Q (.ref p) H'
  | _ => False
theorem ok_Group_parts (tp : Top K mg) : PrN P w K mg base 1 (CGf K) "parts" (sp_Group_parts K) := by
  refine pr_by tp.m_Group_parts sc_Group_parts (fun vs H Q E h => by unfold sp_Group_parts at h; split at h <;> first | rfl | exact h.elim) (fun f cdv A outer s H vs Q E hr h => ⟨_, (pss_one (ps_ret (pe_callTy (k_list K rfl) (by rfl) tp.b_list (by decide +kernel) (pa_cons (k_fld K rfl (gv 0) rfl) pa_nil)))), ?_⟩)
  unfold sp_Group_parts at h
  split at h
  next v =>
    obtain ⟨rk, ps, ⟨a, dx, p, r, us, rfl, h1, h2, h3, h4⟩, q⟩ := h
    walk_at "w"
    refine ⟨_, dx, _, .ref r, h1, tp.i_Group.cl, tp.n_Group_rows, rfl, ?_⟩
    exact ⟨_, Or.inr (SqT.of h3), fun p2 H2 a b c => q p2 us H2 a b h4 c⟩
  next => exact h.elim
end LW
namespace LW
open PySem PySem.Spec L2 GG
variable {P : Program} {w : World} {K : PySem.W.Frag} {mg : Str → Option Value} {base : Heap}
theorem map_atG {α : Type} {f : α → V} {l : List α} {i : Nat} {x : V} (h : (l.map f)[i]? = some x) : ∃ a, l[i]? = some a ∧ x = f a := by
  rw [List.getElem?_map] at h
  cases e : l[i]? with
  | none => rw [e] at h; cases h
  | some a => rw [e] at h; exact ⟨a, rfl, (Option.some.inj h).symm⟩
def sp__law_width (K : PySem.W.Frag) : Sp := fun vs H Q _ => match vs with
  | [v] => ∃ t, LT H t v ∧ Q (.int t.width) H
  | _ => False
theorem ok__law_width (tp : Top K mg) : FnN P w K mg base 1 "_law_width" [] (sp__law_width K) := by
  refine fn_by tp.f__law_width sc__law_width (fun vs H Q E h => by unfold sp__law_width at h; split at h <;> first | rfl | exact h.elim) (fun f cdv A outer s H vs Q E hr h => ⟨_, (pss_one (ps_ret (g_ifE (g_val (pe_callB (k_isi K rfl) (by rfl) tp.b_isinstance (by decide +kernel) (pa_cons (gv 0) (pa_cons (pe_bltn (v := .ty "str") rfl tp.b_str (by decide +kernel) rfl) pa_nil)))) pe_int (pe_callB (k_len K rfl) (by rfl) tp.b_len (by decide +kernel) (pa_cons (pe_ix (k_ix K rfl) (gv 0) pe_int (fun _ _ => rfl)) pa_nil))))), ?_⟩)
  unfold sp__law_width at h
  split at h
  next v =>
    obtain ⟨t, m, k⟩ := h
    cases t with
    | leaf z =>
      obtain rfl : v = .str z := m
      walk_at "w"
      exact ⟨_, is_ss, way_t k⟩
    | grp rk ps =>
      obtain ⟨a, r, p, us, rfl, h1, h2, h3, h4⟩ := m
      walk_at "w"
      refine ⟨_, is_ts h1, way_f ?_⟩
      walk_at "w"
      refine ⟨_, .ref r, Or.inr (SqT.of h1), at_of (j := 1) rfl rfl, ?_⟩
      walk_at "w"
      refine ⟨_, Or.inl (SqL.of h2), ?_⟩
      rw [List.length_map]
      exact k
  next => exact h.elim
def sp__law_names (K : PySem.W.Frag) (n : Nat) : Sp := fun vs H Q _ => match vs with
  | [v] => ∃ t, LT H t v ∧ t.depth < n ∧ t.names.length ≤ 1000 ∧ ∀ p H', H p = none → Same H H' → H' p = some (.lst (t.names.map V.str)) → Q (.ref p) H'
  | _ => False
theorem ok__law_names (tp : Top K mg) : ∀ n, FnN P w K mg base (n + 1) "_law_names" [] (sp__law_names K n)
  | 0 => by
    refine fn_by tp.f__law_names sc__law_names (fun vs H Q E h => by unfold sp__law_names at h; split at h <;> first | rfl | exact h.elim) (fun f cdv A outer s H vs Q E hr h => ?_)
    exfalso
    unfold sp__law_names at h
    split at h
    next v => obtain ⟨t, _, h, _⟩ := h; omega
    next => exact h
  | n + 1 => by
    have ih := ok__law_names tp n
    refine fn_by tp.f__law_names sc__law_names (fun vs H Q E h => by unfold sp__law_names at h; split at h <;> first | rfl | exact h.elim) (fun f cdv A outer s H vs Q E hr h => ⟨_, (pss_cons (g_if (g_val (pe_callB (k_isi K rfl) (by rfl) tp.b_isinstance (by decide +kernel) (pa_cons (gv 0) (pa_cons (pe_bltn (v := .ty "str") rfl tp.b_str (by decide +kernel) rfl) pa_nil)))) (pss_one (ps_ret (g_lst (pa_cons (gv 0) pa_nil)))) pss_nil) (pss_cons (ps_set (i := 1) sc__law_names.nd rfl (by first | exact Or.inl rfl | exact Or.inr rfl) (g_lst pa_nil)) (pss_cons (g_for PassesOwn.never rfl (kw_list K rfl (pe_ix (k_ix K rfl) (gv 0) pe_int (fun _ _ => rfl))) (pg_name (i := 2) sc__law_names.nd rfl (by first | exact Or.inl rfl | exact Or.inr rfl)) (pss_one (ps_set (i := 1) sc__law_names.nd rfl (by first | exact Or.inl rfl | exact Or.inr rfl) (pe_op op_addG (gv 1) (g_call (ih) hr rfl (by omega) (pa_cons (gv 2) pa_nil)))))) (pss_one (ps_ret (gv 1)))))), ?_⟩)
    unfold sp__law_names at h
    split at h
    next v =>
      obtain ⟨t, m, hd, hz, k⟩ := h
      cases t with
      | leaf z =>
        obtain rfl : v = .str z := m
        walk_at "w"
        refine ⟨_, is_ss, way_t ?_⟩
        exact ⟨(by show 1 ≤ sizeLine; decide), k⟩
      | grp rk ps =>
        obtain ⟨a, r, p, us, rfl, h1, h2, h3, h4⟩ := m
        rw [T.depth] at hd
        rw [T.names] at hz
        walk_at "w"
        refine ⟨_, is_ts h1, way_f ?_⟩
        walk_at "w"
        refine ⟨(by show 0 ≤ sizeLine; decide), fun p1 H1 hp1 s1 e1 => ?_⟩
        walk_at "w"
        refine ⟨_, .ref p, Or.inr (SqT.of (s1 _ _ h1)), at_of (j := 2) rfl rfl, ?_⟩
        have hus := h4.length
        refine forw_list (xs := us) (fun i σ H3 => ∃ p3 v3, σ = [some (.ref a), some (.ref p3), v3] ∧ H p3 = none ∧ Same H H3 ∧ H3 p3 = some (.lst ((T.namesL (ps.take i)).map V.str))) ⟨p1, none, rfl, hp1, s1, e1⟩ (fun i σ H3 _ ⟨_, _, _, _, s3, _⟩ => SqL.of (s3 _ _ h3)) ?_ ?_
        · rintro i x σ H3 hx ⟨p3, v3, rfl, hp3, s3, e3⟩
          obtain ⟨t, ht, mt⟩ := (h4.mono s3).at_ hx
          have hdt := T.depthL_le (List.mem_of_getElem? ht)
          have tl := T.namesL_take ht
          have le1 := T.namesL_take_le (ts := ps) (i + 1)
          rw [tl, List.length_append] at le1
          walk_at "w"
          refine ⟨t, mt, by omega, by omega, fun p4 H4 hp4 s4 e4 => ?_⟩
          refine ⟨_, _, s4 _ _ e3, e4, ?_, fun p5 H5 hp5 s5 e5 => ?_⟩
          · rw [List.length_map, List.length_map]; exact Nat.le_trans (by omega : _ ≤ 1000) (by decide)
          · refine ⟨p5, _, rfl, ?_, s3.trans (s4.trans s5), ?_⟩
            · cases hz : H p5 with
              | none => rfl
              | some o => rw [(s3.trans s4) _ _ hz] at hp5; cases hp5
            · rw [e5, tl, List.map_append]
        · rintro σ H3 ⟨p3, v3, rfl, hp3, s3, e3⟩
          rw [hus, List.take_length] at e3
          exact k p3 H3 hp3 s3 e3
    next => exact h.elim
def sp__law_made (K : PySem.W.Frag) (n : Nat) : Sp := fun vs H Q _ => match vs with
  | [v] => ∃ t, LT H t v ∧ t.Gd ∧ t.depth < n ∧ ∀ v' H', Same H H' → MTk K H' t v' → Q v' H'
  | _ => False
theorem ok__law_made (tp : Top K mg) : ∀ n, FnN P w K mg base (n + 52) "_law_made" [] (sp__law_made K n)
  | 0 => by
    refine fn_by tp.f__law_made sc__law_made (fun vs H Q E h => by unfold sp__law_made at h; split at h <;> first | rfl | exact h.elim) (fun f cdv A outer s H vs Q E hr h => ?_)
    exfalso
    unfold sp__law_made at h
    split at h
    next v => obtain ⟨t, _, _, h, _⟩ := h; omega
    next => exact h
  | n + 1 => by
    have ih := ok__law_made tp n
    refine fn_by tp.f__law_made sc__law_made (fun vs H Q E h => by unfold sp__law_made at h; split at h <;> first | rfl | exact h.elim) (fun f cdv A outer s H vs Q E hr h => ⟨_, (pss_cons (g_if (g_val (pe_callB (k_isi K rfl) (by rfl) tp.b_isinstance (by decide +kernel) (pa_cons (gv 0) (pa_cons (pe_bltn (v := .ty "str") rfl tp.b_str (by decide +kernel) rfl) pa_nil)))) (pss_one (ps_ret (g_make (mk_Leaf tp) hr rfl (by omega) (pa_cons (gv 0) pa_nil)))) pss_nil) (pss_one (ps_ret (g_make (mk_Group tp) hr rfl (by omega) (pa_cons (pe_callTy (k_list K rfl) (by rfl) tp.b_list (by decide +kernel) (pa_cons (pe_ix (k_ix K rfl) (gv 0) pe_int (fun _ _ => rfl)) pa_nil)) (pa_cons (g_lc rfl sc__law_made.nd (kw_list K rfl (pe_ix (k_ix K rfl) (gv 0) pe_int (fun _ _ => rfl))) (blkOk_by (own := [("part", 1)]) (N := (["tree", "part"] : List Str)) (sc := defScope s__law_made) (by decide +kernel)) (fun _ _ _ _ _ => pg_name (i := 1) sc__law_made.nd rfl (by first | exact Or.inl rfl | exact Or.inr rfl)) (fun _ _ _ _ _ => pts_nil) (fun _ _ _ _ _ => (g_call (ih) hr rfl (by omega) (pa_cons (gv 1) pa_nil)))) pa_nil)))))), ?_⟩)
    unfold sp__law_made at h
    split at h
    next v =>
      obtain ⟨t, m, g, hd, k⟩ := h
      cases t with
      | leaf z =>
        obtain rfl : v = .str z := m
        walk_at "w"
        refine ⟨_, is_ss, way_t ?_⟩
        exact ⟨g.sh, k⟩
      | grp rk ps =>
        obtain ⟨a, r, p, us, rfl, h1, h2, h3, h4⟩ := m
        have hus := h4.length
        obtain ⟨ok, rok, hrl⟩ := g.pts
        rw [T.depth] at hd
        walk_at "w"
        refine ⟨_, is_ts h1, way_f ?_⟩
        walk_at "w"
        refine ⟨_, .ref r, Or.inr (SqT.of h1), at_of (j := 1) rfl rfl, ?_⟩
        refine ⟨_, Or.inl (SqL.of h2), fun p1 H1 hp1 s1 e1 => ?_⟩
        walk_at "w"
        refine ⟨_, .ref p, Or.inr (SqT.of (s1 _ _ h1)), at_of (j := 2) rfl rfl, ?_⟩
        refine comp_list (xs := us) (fun i acc G => Same H1 G ∧ MTsk K G (ps.take i) acc) (by rw [hus]; exact lt1000 ok.ln) ⟨Same.refl _, rfl⟩ (fun i acc G f => SqL.of (f.1 _ _ (s1 _ _ h3))) (fun D i x acc H' hx hD hDl hq' f => ⟨rfl, ?_⟩) (fun D H' acc hD hDl hq' f => ?_)
        · obtain ⟨s2, hm⟩ := f
          obtain ⟨t, ht, mt⟩ := (h4.mono (s1.trans (s2.trans off_same))).at_ hx
          have hdt := T.depthL_le (List.mem_of_getElem? ht)
          refine way_t ?_
          walk_at "w"
          refine ⟨t, mt, g.part (List.mem_of_getElem? ht), by omega, fun v5 H5 s5 m5 => ?_⟩
          refine ⟨s5 _ _ hDl, s2.trans (off_mono s5), ?_⟩
          rw [List.take_add_one, ht]
          exact MTs.snoc (m5.monoT (SameT.off (s5 _ _ hDl))) (hm.monoT (SameT.of (off_mono s5)))
        · obtain ⟨s2, hm⟩ := f
          have s3 : Same H1 H' := s2.trans off_same
          rw [hus, List.take_length] at hm
          refine ⟨rk, acc, ps, s3 _ _ e1, hDl, hm.mono off_same, ok, rok, hrl, fun v6 H6 s6 m6 => k v6 H6 (s1.trans (s3.trans s6)) m6⟩
    next => exact h.elim
/-- a purse stands at p -/
def Pu (H : Hp) (p : Addr) : Prop := ∃ a b c : Int, H p = some (.lst [.int a, .int b, .int c])
theorem Pu.same {H H' : Hp} {p : Addr} (h : Pu H p) (s : Same H H') : Pu H' p := let ⟨a, b, c, e⟩ := h; ⟨a, b, c, s _ _ e⟩
theorem Pu.ne {H : Hp} {p : Addr} (h : Pu H p) {b : Addr} (n : H b = none) : b ≠ p := by
  obtain ⟨x, y, z, e⟩ := h
  exact (ne_of_none e n).symm
theorem _root_.GG.SameX.some_ {p : Addr} {H H' : Hp} (h : SameX p H H') (hp : Pu H' p) {b : Addr} {o : HO} (e : H b = some o) : ∃ o', H' b = some o' := by
  by_cases q : b = p
  · subst q; obtain ⟨x, y, z, e2⟩ := hp; exact ⟨_, e2⟩
  · exact ⟨o, h b o q e⟩
theorem _root_.GG.SameX.none_ {p : Addr} {H H' : Hp} (h : SameX p H H') (hp : Pu H' p) {b : Addr} (e : H' b = none) : H b = none := by
  cases z : H b with
  | none => rfl
  | some o => obtain ⟨o', q⟩ := h.some_ hp z; rw [q] at e; cases e
theorem fresh_later {p : Addr} {H H1 H2 : Hp} (hp : Pu H p) (s : SameX p H1 H2) : Same (fresh H H1) (fresh H H2) := fun b o e => by
  obtain ⟨n, e⟩ := fresh_some e
  exact fresh_at n (s b o (hp.ne n) e)
theorem fresh_before {p : Addr} {H H1 H2 : Hp} (s : SameX p H H1) (hp : Pu H1 p) : Same (fresh H1 H2) (fresh H H2) := fun b o e => by
  obtain ⟨n, e⟩ := fresh_some e
  exact fresh_at (s.none_ hp n) e
theorem cutV_int (xs : List Int) (lo hi : Option Int) : ∃ ys : List Int, cutV (xs.map V.int) lo hi = ys.map V.int :=
  ⟨_, by unfold cutV; rw [← List.map_drop, ← List.map_take]⟩
def sp__law_draw (K : PySem.W.Frag) : Sp := fun vs H Q _ => match vs with
  | [.ref p, .int m] => Pu H p ∧ 0 < m ∧ m < 1073741824 ∧ ∀ d H', 0 ≤ d → d < m → SameX p H H' → Pu H' p → Q (.int d) H'
  | _ => False
theorem ok__law_draw (tp : Top K mg) : FnN P w K mg base 1 "_law_draw" [] (sp__law_draw K) := by
  refine fn_by tp.f__law_draw sc__law_draw (fun vs H Q E h => by unfold sp__law_draw at h; split at h <;> first | rfl | exact h.elim) (fun f cdv A outer s H vs Q E hr h => ⟨_, (pss_cons (g_if (g_cmp op_gtG (pe_ix (k_ix K rfl) (gv 0) pe_int (fun _ _ => rfl)) pe_int (nomark _)) (pss_cons (ps_set (i := 2) sc__law_draw.nd rfl (by first | exact Or.inl rfl | exact Or.inr rfl) (pe_op op_modG (pe_ix (k_ix K rfl) (gv 0) pe_int (fun _ _ => rfl)) (gv 1))) (pss_cons (ps_asg (pe_op op_fdivG (pe_ix (k_ix K rfl) (gv 0) pe_int (fun _ _ => rfl)) (gv 1)) (pg_sub (gv 0) pe_int s_set)) (pss_one (ps_ret (gv 2))))) pss_nil) (pss_cons (ps_asg (pe_op op_addG (pe_ix (k_ix K rfl) (gv 0) pe_int (fun _ _ => rfl)) pe_int) (pg_sub (gv 0) pe_int s_set)) (pss_cons (ps_set (i := 3) sc__law_draw.nd rfl (by first | exact Or.inl rfl | exact Or.inr rfl) (pe_op op_modG (pe_op op_addG (pe_op op_addG (pe_op op_mulG (pe_ix (k_ix K rfl) (gv 0) pe_int (fun _ _ => rfl)) pe_int) (pe_op op_mulG (pe_ix (k_ix K rfl) (gv 0) pe_int (fun _ _ => rfl)) pe_int)) pe_int) pe_int)) (pss_cons (ps_set (i := 3) sc__law_draw.nd rfl (by first | exact Or.inl rfl | exact Or.inr rfl) (pe_op op_modG (pe_op op_addG (pe_op op_mulG (gv 3) (gv 3)) (pe_ix (k_ix K rfl) (gv 0) pe_int (fun _ _ => rfl))) pe_int)) (pss_cons (ps_set (i := 3) sc__law_draw.nd rfl (by first | exact Or.inl rfl | exact Or.inr rfl) (pe_op op_modG (pe_op op_addG (pe_op op_mulG (gv 3) (gv 3)) pe_int) pe_int)) (pss_one (ps_ret (pe_op op_modG (pe_op op_fdivG (gv 3) pe_int) (gv 1))))))))), ?_⟩)
  unfold sp__law_draw at h
  split at h
  next p m =>
    obtain ⟨⟨a, b, c, hp⟩, h0, h1, k⟩ := h
    walk_at "w"
    refine ⟨_, .int a, Or.inl (SqL.of hp), at_of (j := 0) rfl rfl, ?_⟩
    walk_at "w"
    refine way_d (fun ha => ?_) fun ha => ?_
    · walk_at "w"
      refine ⟨_, .int a, Or.inl (SqL.of hp), at_of (j := 0) rfl rfl, ?_⟩
      refine ⟨h0, ?_⟩
      walk_at "w"
      refine ⟨_, .int a, Or.inl (SqL.of hp), at_of (j := 0) rfl rfl, ?_⟩
      refine ⟨⟨h0, h1⟩, ?_⟩
      refine ⟨_, 0, hp, rfl, fun H1 s1 e1 => ?_⟩
      exact k _ H1 (Int.emod_nonneg _ (by omega)) (Int.emod_lt_of_pos _ h0) s1 ⟨_, _, _, e1⟩
    · walk_at "w"
      refine ⟨_, .int c, Or.inl (SqL.of hp), at_of (j := 2) rfl rfl, ?_⟩
      refine ⟨_, 2, hp, rfl, fun H1 s1 e1 => ?_⟩
      walk_at "w"
      refine ⟨_, .int b, Or.inl (SqL.of e1), at_of (j := 1) rfl rfl, ?_⟩
      walk_at "w"
      refine ⟨Or.inr (by decide), ?_⟩
      walk_at "w"
      refine ⟨_, .int (c + 1), Or.inl (SqL.of e1), at_of (j := 2) rfl rfl, ?_⟩
      walk_at "w"
      refine ⟨Or.inr (by decide), ?_⟩
      walk_at "w"
      refine ⟨(by show (0 : Int) < _; decide), ?_⟩
      have r1 := Int.emod_nonneg (b * 48271 + (c + 1) * 1299709 + 907) (b := 2147483629) (by decide)
      have r2 := Int.emod_lt_of_pos (b * 48271 + (c + 1) * 1299709 + 907) (b := 2147483629) (by decide)
      generalize (b * 48271 + (c + 1) * 1299709 + 907) % 2147483629 = n1 at r1 r2 ⊢
      walk_at "w"
      refine ⟨Or.inl (by omega), ?_⟩
      walk_at "w"
      refine ⟨_, .int (c + 1), Or.inl (SqL.of e1), at_of (j := 2) rfl rfl, ?_⟩
      walk_at "w"
      refine ⟨(by show (0 : Int) < _; decide), ?_⟩
      have r3 := Int.emod_nonneg (n1 * n1 + (c + 1)) (b := 2147483587) (by decide)
      have r4 := Int.emod_lt_of_pos (n1 * n1 + (c + 1)) (b := 2147483587) (by decide)
      generalize (n1 * n1 + (c + 1)) % 2147483587 = n2 at r3 r4 ⊢
      walk_at "w"
      refine ⟨Or.inl (by omega), ?_⟩
      walk_at "w"
      refine ⟨(by show (0 : Int) < _; decide), ?_⟩
      walk_at "w"
      refine ⟨⟨by decide, by decide⟩, ?_⟩
      refine ⟨h0, ?_⟩
      exact k _ H1 (Int.emod_nonneg _ (by omega)) (Int.emod_lt_of_pos _ h0) s1 ⟨_, _, _, e1⟩
  next => exact h.elim
def sp__law_ranks (K : PySem.W.Frag) : Sp := fun vs H Q _ => match vs with
  | [.ref p, .int tk, .int mo] => Pu H p ∧ 0 < tk ∧ tk ≤ 1000 ∧ ∀ rk r H', RkOk rk tk.toNat → H r = none → SameX p H H' → Pu H' p → H' r = some (.lst (rk.map V.int)) → Q (.ref r) H'
  | _ => False
theorem inV_int (n : Int) (S : List Int) : inV (.int n) (S.map V.int) = decide (n ∈ S) := by
  induction S with
  | nil => rfl
  | cons a S ih =>
    unfold inV at ih ⊢
    rw [List.map_cons, List.any_cons, ih]
    by_cases h : n = a
    · subst h; simp [eqV]
    · have : ¬ a = n := fun q => h q.symm
      simp [eqV, h, this]
theorem flat_ints (S : List Int) : (S.map V.int).all flatV = true := by
  rw [List.all_eq_true]
  intro v hv
  obtain ⟨z, _, rfl⟩ := List.mem_map.mp hv
  rfl
/-- ranks drawn so far -/
structure RkD (rk : List Int) (m : Int) : Prop where
  ne : rk ≠ []
  nd : rk.Nodup
  bd : ∀ r ∈ rk, 1 ≤ r ∧ r ≤ m
theorem RkD.sorted {rk rk' : List Int} {m : Int} (h : RkD rk m) (hm : 0 ≤ m) (pm : rk'.Perm rk) (pw : rk'.Pairwise (· ≤ ·)) : RkOk rk' m.toNat := by
  refine ⟨fun e => ?_, ?_, fun r hr => (h.bd r (pm.mem_iff.mp hr)).1, fun r hr => by have := (h.bd r (pm.mem_iff.mp hr)).2; omega⟩
  · subst e
    exact h.ne (List.length_eq_zero_iff.mp (by simpa using pm.length_eq.symm))
  · have nd : rk'.Nodup := pm.nodup_iff.mpr h.nd
    exact (pw.and nd).imp fun ⟨a, b⟩ => by omega
theorem nine_at {d : Int} (h0 : 0 ≤ d) (h1 : d < 9) : ∃ n : Int, ([.int 0, .int 0, .int 0, .int 1, .int 1, .int 2, .int 3, .int 4, .int 9] : List V)[d.toNat]? = some (.int n) ∧ 0 ≤ n ∧ n ≤ 9 := by
  have : d.toNat = 0 ∨ d.toNat = 1 ∨ d.toNat = 2 ∨ d.toNat = 3 ∨ d.toNat = 4 ∨ d.toNat = 5 ∨ d.toNat = 6 ∨ d.toNat = 7 ∨ d.toNat = 8 := by omega
  rcases this with q | q | q | q | q | q | q | q | q <;> rw [q] <;> exact ⟨_, rfl, by decide, by decide⟩
theorem ok__law_ranks (tp : Top K mg) : FnN P w K mg base 2 "_law_ranks" [] (sp__law_ranks K) := by
  refine fn_by tp.f__law_ranks sc__law_ranks (fun vs H Q E h => by unfold sp__law_ranks at h; split at h <;> first | rfl | exact h.elim) (fun f cdv A outer s H vs Q E hr h => ⟨_, (pss_cons (ps_set (i := 3) sc__law_ranks.nd rfl (by first | exact Or.inl rfl | exact Or.inr rfl) (g_lst (pa_cons (pe_op op_addG pe_int (g_call (ok__law_draw tp) hr rfl (by omega) (pa_cons (gv 0) (pa_cons (gv 1) pa_nil)))) pa_nil))) (pss_cons (g_for PassesOwn.never rfl (w_range1 rfl tp.b_range (pa_cons (pe_op op_mulG (pe_ix (k_ix K rfl) (g_lst (pa_cons pe_int (pa_cons pe_int (pa_cons pe_int (pa_cons pe_int (pa_cons pe_int (pa_cons pe_int (pa_cons pe_int (pa_cons pe_int (pa_cons pe_int pa_nil)))))))))) (g_call (ok__law_draw tp) hr rfl (by omega) (pa_cons (gv 0) (pa_cons pe_int pa_nil))) (fun _ _ => rfl)) (pe_callTy c_int (by rfl) tp.b_int (by decide +kernel) (pa_cons (g_cmpV op_gtG (gv 2) pe_int (nomark _)) pa_nil))) pa_nil)) (pg_name (i := 4) sc__law_ranks.nd rfl (by first | exact Or.inl rfl | exact Or.inr rfl)) (pss_cons (ps_set (i := 5) sc__law_ranks.nd rfl (by first | exact Or.inl rfl | exact Or.inr rfl) (pe_op op_addG pe_int (g_call (ok__law_draw tp) hr rfl (by omega) (pa_cons (gv 0) (pa_cons (gv 1) pa_nil))))) (pss_one (g_if (PW.pt (g_and (g_cmp (k_ninG K rfl) (gv 5) (gv 3) (by with_unfolding_all rfl)) (pw_and1 (g_cmp op_ltG (pe_callB (k_len K rfl) (by rfl) tp.b_len (by decide +kernel) (pa_cons (gv 3) pa_nil)) (gv 2) (nomark _))))) (pss_one (ps_expr (pe_bm PySem.F.plainAttrs_list PySem.F.slot_list_append PySem.F.type_list_append m_append (gv 3) (pa_cons (gv 5) pa_nil)))) pss_nil)))) (pss_one (ps_ret (pe_callB (k_sorted K rfl) (by rfl) tp.b_sorted (by decide +kernel) (pa_cons (gv 3) pa_nil)))))), ?_⟩)
  unfold sp__law_ranks at h
  split at h
  next p tk mo =>
    obtain ⟨hp, h0, h1, k⟩ := h
    walk_at "w"
    refine ⟨hp, h0, by omega, fun d H1 d0 d1 s1 hp1 => ?_⟩
    walk_at "w"
    refine ⟨(by show 1 ≤ sizeLine; decide), fun p2 H2 hn2 s2 e2 => ?_⟩
    have hp2 := hp1.same s2
    have s02 : SameX p H H2 := s1.trans (SameX.of s2)
    have f2 : H p2 = none := s1.none_ hp1 hn2
    walk_at "w"
    refine ⟨(by show 9 ≤ sizeLine; decide), fun p3 H3 hn3 s3 e3 => ?_⟩
    refine ⟨hp2.same s3, by decide, by decide, fun d4 H4 a4 b4 s4 hp4 => ?_⟩
    have e4 := s4 _ _ (hp2.ne hn3) e3
    obtain ⟨n, hn, n0, n9⟩ := nine_at a4 b4
    walk_at "w"
    refine ⟨_, .int n, Or.inl (SqL.of e4), at_of (j := d4.toNat) (by omega) hn, ?_⟩
    walk_at "w"
    refine ⟨Or.inl (by omega), ?_⟩
    have hb : 0 ≤ n * (if decide (1 < mo) = true then 1 else 0) ∧ n * (if decide (1 < mo) = true then 1 else 0) ≤ 9 := by
      split
      · omega
      · omega
    generalize n * (if decide (1 < mo) = true then 1 else 0) = turns at hb ⊢
    refine ⟨by omega, ?_⟩
    have nep : p2 ≠ p := hp.ne f2
    have e24 : H4 p2 = some (.lst (([1 + d] : List Int).map V.int)) := s4 _ _ nep (s3 _ _ e2)
    refine forw_range (fun i σ G => ∃ v4 v5 rk, σ = [some (.ref p), some (.int tk), some (.int mo), some (.ref p2), v4, v5] ∧ SameX p H G ∧ Pu G p ∧ G p2 = some (.lst (rk.map V.int)) ∧ RkD rk tk ∧ rk.length ≤ i + 1)
      ⟨none, none, [1 + d], rfl, s02.trans ((SameX.of s3).trans s4), hp4, e24, ⟨by simp, by simp, fun r hr => by rw [List.mem_singleton.mp hr]; omega⟩, Nat.le_refl _⟩ ?_ ?_
    · rintro i σ G hi ⟨v4, v5, rk, rfl, sG, hpG, eG, rd, rl⟩
      walk_at "w"
      refine ⟨hpG, h0, by omega, fun d6 H6 a6 b6 s6 hp6 => ?_⟩
      have e6 := s6 _ _ nep eG
      walk_at "w"
      refine ⟨_, Or.inl (SqL.of e6), rfl, flat_ints rk, ?_⟩
      rw [inV_int]
      refine way_nd (fun hin => ?_) fun hin => ?_
      · walk_at "w"
        refine ⟨_, Or.inl (SqL.of e6), ?_⟩
        rw [List.length_map]
        walk_at "w"
        refine way_d (fun hl => ?_) fun hl => ?_
        · walk_at "w"
          refine ⟨Or.inl ⟨rfl, _, SqL.of e6⟩, ?_⟩
          refine ⟨_, e6, ?_, fun H7 s7 e7 => ?_⟩
          · rw [List.length_map]; exact lt1000 (by omega)
          · have hp7 : Pu H7 p := by
              obtain ⟨x, y, z, e⟩ := hp6
              exact ⟨x, y, z, s7 _ _ nep.symm e⟩
            have s67 : SameX p H H7 := fun b o nb eb => s7 b o (ne_of_none eb f2) (s6 b o nb (sG b o nb eb))
            refine ⟨_, _, rk ++ [1 + d6], rfl, s67, hp7, by rw [e7, List.map_append]; rfl, ⟨by simp, ?_, fun r hr => ?_⟩, by rw [List.length_append]; simp; omega⟩
            · rw [List.nodup_append]
              exact ⟨rd.nd, by simp, fun a ha b hb e => hin (by rw [List.mem_singleton.mp hb] at e; rw [← e]; exact ha)⟩
            · rcases List.mem_append.mp hr with q | q
              · exact rd.bd r q
              · rw [List.mem_singleton.mp q]; omega
        · exact ⟨_, _, rk, rfl, sG.trans s6, hp6, e6, rd, by omega⟩
      · refine way_f ?_
        exact ⟨_, _, rk, rfl, sG.trans s6, hp6, e6, rd, by omega⟩
    · rintro σ G ⟨v4, v5, rk, rfl, sG, hpG, eG, rd, rl⟩
      walk_at "w"
      refine ⟨rk, SqL.of eG, fun ns' p5 H5 pm pw hp5 s5 e5 => ?_⟩
      exact k ns' p5 H5 (rd.sorted (by omega) pm pw) (sG.none_ hpG hp5) (sG.trans (SameX.of s5)) (hpG.same s5) e5
  next => exact h.elim
def sp__law_split (K : PySem.W.Frag) : Sp := fun vs H Q _ => match vs with
  | [.ref p, .ref q] => ∃ ns : List Str, Pu H p ∧ H q = some (.lst (ns.map V.str)) ∧ 2 ≤ ns.length ∧ ns.length ≤ 46 ∧
    ∀ (Rs : List (List Str)) us r H', (∀ R ∈ Rs, R ≠ [] ∧ R.length < ns.length) → Rs ≠ [] → Rs.length ≤ 46 → Rs.flatten.Perm ns → LS (fresh H H') Rs us → SameX p H H' → Pu H' p → fresh H H' r = some (.lst us) → Q (.ref r) H'
  | _ => False
theorem ok__law_split (tp : Top K mg) : FnN P w K mg base 2 "_law_split" [] (sp__law_split K) := by
  refine fn_by tp.f__law_split sc__law_split (fun vs H Q E h => by unfold sp__law_split at h; split at h <;> first | rfl | exact h.elim) (fun f cdv A outer s H vs Q E hr h => ⟨_, (pss_cons (g_setLc (i := 2) rfl sc__law_split.nd rfl rfl (sw_true rfl rfl rfl (by decide +kernel)) (w_range1 rfl tp.b_range (pa_cons (pe_op op_addG pe_int (g_call (ok__law_draw tp) hr rfl (by omega) (pa_cons (gv 0) (pa_cons pe_int pa_nil)))) pa_nil)) (blkOk_by (own := [("k", 4)]) (N := (["purse", "names", "rows", "name", "k", "row"] : List Str)) (sc := defScope s__law_split) (by decide +kernel)) (fun _ _ _ _ _ => pg_name (i := 4) sc__law_split.nd rfl (by first | exact Or.inl rfl | exact Or.inr rfl)) (fun _ _ _ _ _ => pts_nil) (fun _ _ _ _ _ => (g_lst pa_nil))) (pss_cons (g_for PassesOwn.never rfl (kw_list K rfl (gv 1)) (pg_name (i := 3) sc__law_split.nd rfl (by first | exact Or.inl rfl | exact Or.inr rfl)) (pss_one (ps_expr (pe_bm PySem.F.plainAttrs_list PySem.F.slot_list_append PySem.F.type_list_append m_append (pe_ix (k_ix K rfl) (gv 2) (g_call (ok__law_draw tp) hr rfl (by omega) (pa_cons (gv 0) (pa_cons (pe_callB (k_len K rfl) (by rfl) tp.b_len (by decide +kernel) (pa_cons (gv 2) pa_nil)) pa_nil))) (fun _ _ => rfl)) (pa_cons (gv 3) pa_nil))))) (pss_cons (g_setLc (i := 2) rfl sc__law_split.nd rfl rfl (sw_true rfl rfl rfl (by decide +kernel)) (kw_list K rfl (gv 2)) (blkOk_by (own := [("row", 5)]) (N := (["purse", "names", "rows", "name", "k", "row"] : List Str)) (sc := defScope s__law_split) (by decide +kernel)) (fun _ _ _ _ _ => pg_name (i := 5) sc__law_split.nd rfl (by first | exact Or.inl rfl | exact Or.inr rfl)) (fun _ _ _ _ _ => (pts_one (g_cmp (k_neG K rfl hr.units) (gv 5) (g_lst pa_nil) (nomark _)))) (fun _ _ _ _ _ => (gv 5))) (pss_cons (g_if (g_cmp (k_eqG K rfl hr.units) (pe_callB (k_len K rfl) (by rfl) tp.b_len (by decide +kernel) (pa_cons (gv 2) pa_nil)) pe_int (nomark _)) (pss_one (ps_ret (g_lst (pa_cons (pe_slice (k_sl K rfl) (gv 1) po_none (po_some pe_int)) (pa_cons (pe_slice (k_sl K rfl) (gv 1) (po_some pe_int) po_none) pa_nil))))) pss_nil) (pss_one (ps_ret (gv 2))))))), ?_⟩)
  unfold sp__law_split at h
  split at h
  next p q =>
    obtain ⟨ns, hp, hq, h2, h46, k⟩ := h
    have hpq : q ≠ p := by rintro rfl; obtain ⟨x, y, z, e⟩ := hp; rw [hq] at e; cases ns with
      | nil => simp at e
      | cons a l => simp at e
    walk_at "w"
    refine ⟨hp, by decide, by decide, fun d H1 d0 d1 s1 hp1 => ?_⟩
    refine ⟨by omega, ?_⟩
    have hn : (2 + d).toNat = 2 + d.toNat := by omega
    rw [hn]
    refine comp_range (fun i acc G => Same H1 G ∧ LS (fresh H1 G) (List.replicate i []) acc ∧ acc.Nodup) (lt1000 (by omega)) ⟨Same.refl _, rfl, List.nodup_nil⟩ (fun D i acc H' hi hD hDl hq' f => ⟨rfl, ?_⟩) (fun D H' acc hD hDl hq' f => ?_)
    · obtain ⟨s2, ls, nd⟩ := f
      refine way_t ?_
      walk_at "w"
      refine ⟨(by show 0 ≤ sizeLine; decide), fun p3 H3 hp3 s3 e3 => ?_⟩
      have n3 : p3 ≠ D := (ne_of_none hDl hp3).symm
      refine ⟨s3 _ _ hDl, s2.trans (off_mono s3), ?_, ?_⟩
      · rw [List.replicate_succ']
        have f3 : H1 p3 = none := by
          cases hz : H1 p3 with
          | none => rfl
          | some o => rw [(s2.trans off_same) _ _ hz] at hp3; cases hp3
        refine (ls.mono fun b o e => ?_).app (LS.one (fresh_at f3 (by rw [off_at n3, e3]; rfl)))
        obtain ⟨n, e⟩ := fresh_some e
        exact fresh_at n (off_mono s3 _ _ e)
      · rw [List.nodup_append]
        refine ⟨nd, by simp, fun a ha b hb e => ?_⟩
        rw [List.mem_singleton.mp hb] at e
        obtain ⟨q2, o, e2, e3'⟩ := ls.mem a ha
        rw [e2] at e
        cases e
        have := (fresh_some e3').2
        rw [off_at n3, hp3] at this; cases this
    · obtain ⟨s2, ls, nd⟩ := f
      have s3 : Same H1 H' := s2.trans off_same
      have hp' := hp1.same s3
      have sH : SameX p H H' := s1.trans (SameX.of s3)
      have fD : H D = none := s1.none_ hp1 hD
      have nDp : D ≠ p := hp.ne fD
      walk_at "w"
      refine forw_list (xs := ns.map V.str) (fun i σ G => ∃ v3 Rs us, σ = [some (.ref p), some (.ref q), some (.ref D), v3, none, none] ∧ SameX p H G ∧ Pu G p ∧ G D = some (.lst us) ∧ Rs.length = 2 + d.toNat ∧ LS (off D (fresh H G)) Rs us ∧ us.Nodup ∧ Rs.flatten.Perm (ns.take i))
        ⟨none, _, acc, rfl, sH, hp', hDl, List.length_replicate .., ls.mono (fun b o e => ?_), nd, by rw [flat_rep]; exact List.Perm.refl _⟩ (fun i σ G _ ⟨_, _, _, _, sG, _⟩ => SqL.of (sG _ _ hpq hq)) ?_ ?_
      · obtain ⟨n, e⟩ := fresh_some e
        obtain ⟨n2, e⟩ := off_some e
        rw [off_at n2]
        exact fresh_at (s1.none_ hp1 n) e
      · rintro i x σ G hx ⟨v3, Rs, us, rfl, sG, hpG, eG, rl, lsG, ndG, pm⟩
        obtain ⟨n, hn, rfl⟩ := map_atG hx
        have hus := lsG.length
        walk_at "w"
        refine ⟨_, Or.inl (SqL.of eG), ?_⟩
        rw [hus, rl]
        refine ⟨hpG, by omega, by omega, fun d6 H6 a6 b6 s6 hp6 => ?_⟩
        have eG6 := s6 _ _ nDp eG
        obtain ⟨R, q7, hR, hu7, hq7⟩ : ∃ R q7, Rs[d6.toNat]? = some R ∧ us[d6.toNat]? = some (.ref q7) ∧ off D (fresh H G) q7 = some (.lst (R.map V.str)) := by
          have hlt : d6.toNat < us.length := by omega
          obtain ⟨R, q7, a, b, c⟩ := lsG.at_ (List.getElem?_eq_getElem hlt)
          exact ⟨R, q7, a, by rw [List.getElem?_eq_getElem hlt, b], c⟩
        obtain ⟨n7, hq7⟩ := off_some hq7
        obtain ⟨f7, hq7⟩ := fresh_some hq7
        have n7p : q7 ≠ p := hp.ne f7
        have e67 := s6 _ _ n7p hq7
        walk_at "w"
        refine ⟨_, .ref q7, Or.inl (SqL.of eG6), at_of (j := d6.toNat) (by omega) hu7, ?_⟩
        walk_at "w"
        refine ⟨Or.inl ⟨rfl, _, SqL.of e67⟩, ?_⟩
        have hRl : R.length ≤ 46 := by
          have := (List.sublist_flatten_of_mem (List.mem_of_getElem? hR)).length_le
          rw [pm.length_eq, List.length_take] at this
          omega
        refine ⟨_, e67, ?_, fun H8 s8 e8 => ?_⟩
        · rw [List.length_map]; exact lt1000 (by omega)
        · have hp8 : Pu H8 p := by
            obtain ⟨x, y, z, e⟩ := hp6
            exact ⟨x, y, z, s8 _ _ n7p.symm e⟩
          refine ⟨_, Rs.set d6.toNat (R ++ [n]), us, rfl, fun b o nb eb => s8 b o (ne_of_none eb f7) (s6 b o nb (sG b o nb eb)), hp8, s8 _ _ n7.symm eG6, by rw [List.length_set, rl], ?_, ndG, ?_⟩
          · refine lsG.put (q := q7) (fun b o nb e => ?_) ?_ ndG hu7
            · obtain ⟨n1, e⟩ := off_some e
              obtain ⟨n2, e⟩ := fresh_some e
              rw [off_at n1]
              exact fresh_at n2 (s8 _ _ nb (s6 _ _ (hp.ne n2) e))
            · rw [off_at n7]
              exact fresh_at f7 (by rw [e8, List.map_append]; rfl)
          · rw [List.take_add_one, hn]
            exact (flat_put hR).trans (pm.append_right _)
      · rintro σ G ⟨v3, Rs, us, rfl, sG, hpG, eG, rl, lsG, ndG, pm⟩
        rw [List.length_map, List.take_length] at pm
        have hus := lsG.length
        walk_at "w"
        refine comp_list (xs := us) (fun i acc G2 => Same G G2 ∧ LS (fresh H G) ((Rs.take i).filter fun R => !R.isEmpty) acc) (by rw [hus]; exact lt1000 (by omega)) ⟨Same.refl _, rfl⟩ (fun i acc G2 f => SqL.of (f.1 _ _ eG)) (fun D2 i x acc G2 hx hD2 hDl2 hq2 f => ⟨rfl, ?_⟩) (fun D2 G2 acc hD2 hDl2 hq2 f => ?_)
        · obtain ⟨s9, ls9⟩ := f
          obtain ⟨R, q7, hR, rfl, hq7⟩ := lsG.at_ hx
          obtain ⟨n7, hq7⟩ := off_some hq7
          have e := filt_take (p := fun R : List Str => !R.isEmpty) hR
          walk_at "w"
          refine ⟨(by show 0 ≤ sizeLine; decide), fun p10 H10 hp10 s10 e10 => Or.inl ⟨_, SqL.of (s10 _ _ (s9.trans off_same _ _ (fresh_some hq7).2)), e10, ?_⟩⟩
          have ee : (R.map V.str).isEmpty = R.isEmpty := by cases R <;> rfl
          rw [ee]
          have keep : H10 D2 = some (.lst acc) := s10 _ _ hDl2
          have same : Same G (off D2 H10) := s9.trans (off_mono s10)
          refine way_n (fun c => ?_) fun c => ?_
          · refine ⟨keep, same, ?_⟩
            rw [e, if_pos (by rw [c]; rfl)]
            exact ls9.app (LS.one hq7)
          · refine ⟨keep, same, ?_⟩
            rw [e, if_neg (by rw [c]; decide), List.append_nil]
            exact ls9
        · obtain ⟨s9, ls9⟩ := f
          rw [hus, List.take_length] at ls9
          have s10 : Same G G2 := s9.trans off_same
          have fl : (Rs.filter fun R => !R.isEmpty).flatten.Perm ns := by rw [flat_filter]; exact pm
          have hne : ∀ R ∈ Rs.filter (fun R => !R.isEmpty), R ≠ [] := fun R hR e => by
            have := (List.mem_filter.mp hR).2
            rw [e] at this; exact absurd this (by decide)
          have hll : (Rs.filter fun R => !R.isEmpty).length ≤ 46 := Nat.le_trans (List.length_filter_le _ _) (by omega)
          have pG2 := hpG.same s10
          have sG2 : SameX p H G2 := sG.trans (SameX.of s10)
          have hal := ls9.length
          walk_at "w"
          refine ⟨_, Or.inl (SqL.of hDl2), ?_⟩
          walk_at "w"
          refine way_d (fun c => ?_) fun c => ?_
          · walk_at "w"
            have eq2 := sG2 _ _ hpq hq
            refine ⟨_, rfl, ?_⟩
            refine ⟨_, SqL.of eq2, fun p11 H11 hp11 s11 e11 => ?_⟩
            rw [cutV_take1] at e11
            walk_at "w"
            refine ⟨_, rfl, ?_⟩
            refine ⟨_, SqL.of (s11 _ _ eq2), fun p12 H12 hp12 s12 e12 => ?_⟩
            rw [cutV_drop1] at e12
            refine ⟨(by show 2 ≤ sizeLine; decide), fun p13 H13 hp13 s13 e13 => ?_⟩
            have f11 : H p11 = none := sG2.none_ pG2 hp11
            have f12 : H p12 = none := sG2.none_ pG2 (by
              cases hz : G2 p12 with
              | none => rfl
              | some o => rw [s11 _ _ hz] at hp12; cases hp12)
            have f13 : H p13 = none := sG2.none_ pG2 (by
              cases hz : G2 p13 with
              | none => rfl
              | some o => rw [(s11.trans s12) _ _ hz] at hp13; cases hp13)
            refine k [ns.take 1, ns.drop 1] [.ref p11, .ref p12] p13 H13 (fun R hR => ?_) (by simp) (by simp) (by show (ns.take 1 ++ (ns.drop 1 ++ [])).Perm ns; rw [List.append_nil, List.take_append_drop]) ?_ (sG2.trans (SameX.of (s11.trans (s12.trans s13)))) (pG2.same (s11.trans (s12.trans s13))) (fresh_at f13 e13)
            · rcases List.mem_cons.mp hR with z | z
              · subst z
                refine ⟨fun e => ?_, by rw [List.length_take]; omega⟩
                have := congrArg List.length e
                rw [List.length_take, List.length_nil] at this
                omega
              · rw [List.mem_singleton.mp z]
                refine ⟨fun e => ?_, by rw [List.length_drop]; omega⟩
                have := congrArg List.length e
                rw [List.length_drop, List.length_nil] at this
                omega
            · exact ⟨p11, _, rfl, fresh_at f11 (by rw [(s12.trans s13) _ _ e11, List.map_take]), p12, _, rfl, fresh_at f12 (by rw [s13 _ _ e12, List.map_drop]), rfl⟩
          · have c2 : ¬ (acc.length = 1) := fun z => c (by rw [z]; rfl)
            have l2 : 2 ≤ (Rs.filter fun R => !R.isEmpty).length := by
              rcases Nat.lt_or_ge (Rs.filter fun R => !R.isEmpty).length 2 with z | z
              · exfalso
                have z0 : (Rs.filter fun R => !R.isEmpty).length = 0 := by omega
                rw [List.length_eq_zero_iff.mp z0] at fl
                have := fl.length_eq
                simp at this; omega
              · exact z
            walk_at "w"
            refine k _ acc D2 G2 (fun R hR => ⟨hne R hR, ?_⟩) (by intro e; rw [e] at l2; simp at l2) hll fl (ls9.mono (fresh_later hp (SameX.of s10))) sG2 pG2 (fresh_at (sG.none_ hpG hD2) hDl2)
            have := flat_lt hne l2 R hR
            rw [fl.length_eq] at this
            exact this
  next => exact h.elim
/-- a name as the law calls them -/
def LwNm (z : Str) : Prop := (run z.cps.toList).1 ∈ lets ∧ (run z.cps.toList).2 ≤ 2
def sp__law_called (K : PySem.W.Frag) : Sp := fun vs H Q _ => match vs with
  | [.ref p, .int m] => Pu H p ∧ 0 ≤ m ∧ m ≤ 46 ∧ ∀ (ns : List Str) r H', ns.length = m.toNat → ns.Nodup → (∀ z ∈ ns, IsNm z) → (∀ z ∈ ns, LwNm z) → H r = none → SameX p H H' → Pu H' p → H' r = some (.lst (ns.map V.str)) → Q (.ref r) H'
  | _ => False
theorem tls_at {d : Int} (h0 : 0 ≤ d) (h1 : d < 5) : ∃ z, (tls.map V.str)[d.toNat]? = some (.str z) ∧ z ∈ tls := by
  have : d.toNat < tls.length := by
    have e : tls.length = 5 := rfl
    omega
  refine ⟨tls[d.toNat], ?_, List.getElem_mem this⟩
  rw [List.getElem?_map, List.getElem?_eq_getElem this]
  rfl
theorem let_at (i sh : Nat) : atI ("abcdefghijklmnopqrstuvw" : Str).cps.toList (((0 : Int) + (i : Int) + (sh : Int)) % 23) = some (letAt i sh) := by
  have e : ((0 : Int) + (i : Int) + (sh : Int)) % 23 = (((i + sh) % 23 : Nat) : Int) := by omega
  rw [e]
  have h : (i + sh) % 23 < lets.length := by rw [lets_len]; exact Nat.mod_lt _ (by omega)
  refine atI_nat ?_
  show lets[(i + sh) % 23]? = _
  rw [List.getElem?_eq_getElem h]
  unfold letAt
  rw [List.getD_eq_getElem?_getD, List.getElem?_eq_getElem h]
  rfl
theorem str_q (y : Nat) : decide ((⟨#[y]⟩ : Str) = "q") = decide (y = 113) := by
  have e : ("q" : Str) = ⟨#[113]⟩ := by decide +kernel
  rw [e]
  refine decide_eq_decide.mpr ⟨fun h => ?_, fun h => by rw [h]⟩
  have := congrArg (fun z : Str => z.cps.toList) h
  simpa using this
theorem q_alph : 113 ∈ alph ∧ 114 ∈ alph := by decide +kernel
theorem str_qr : ("q" : Str) = ⟨#[113]⟩ ∧ ("r" : Str) = ⟨#[114]⟩ := by decide +kernel
theorem app_cps (a b : Str) : (a ++ b).cps.toList = a.cps.toList ++ b.cps.toList := by
  show (a.cps ++ b.cps).toList = _
  simp
theorem lst_pos {z : Str} (h : IsNm z) : ∃ y, z.cps.toList.getLast? = some y := by
  have n : z.cps.toList ≠ [] := by
    intro e
    have h1 := h.1
    have : z.length = z.cps.toList.length := by rw [Array.length_toList]; rfl
    rw [this, e] at h1
    simp at h1
  exact ⟨_, List.getLast?_eq_some_getLast n⟩
def InvC (H : Hp) (p p1 : Addr) (m : Int) (sh i : Nat) (σ : L2.St) (G : Hp) : Prop := ∃ v4 v5 v6 v7 ns, σ = [some (.ref p), some (.int m), some (.ref p1), some (.int (sh : Int)), v4, v5, v6, v7] ∧ SameX p H G ∧ Pu G p ∧ G p1 = some (.lst (ns.map V.str)) ∧ Cd sh i ns
theorem InvC.step {H G G' : Hp} {p p1 : Addr} {m : Int} {sh i : Nat} {ns : List Str} {z : Str} {v4 v5 v6 v7 : Option V} (n1 : p1 ≠ p) (f1 : H p1 = none) (s : SameX p H G) (hp : Pu G p) (cd : Cd sh i (ns ++ [z])) (s8 : SameX p1 G G') (e8 : G' p1 = some (.lst (ns.map V.str ++ [.str z]))) :
    InvC H p p1 m sh i [some (.ref p), some (.int m), some (.ref p1), some (.int (sh : Int)), v4, v5, v6, v7] G' :=
  ⟨_, _, _, _, ns ++ [z], rfl, fun b o n e => s8 b o (ne_of_none e f1) (s b o n e), let ⟨x, y, z, e⟩ := hp; ⟨x, y, z, s8 _ _ n1.symm e⟩, by rw [e8, List.map_append]; rfl, cd⟩
theorem last_split {α : Type} {l : List α} (h : l ≠ []) : ∃ i x, l = i ++ [x] ∧ l.getLast? = some x :=
  ⟨l.dropLast, l.getLast h, (List.dropLast_concat_getLast h).symm, List.getLast?_eq_some_getLast h⟩
theorem ok__law_called (tp : Top K mg) : FnN P w K mg base 2 "_law_called" [] (sp__law_called K) := by
  refine fn_by tp.f__law_called sc__law_called (fun vs H Q E h => by unfold sp__law_called at h; split at h <;> first | rfl | exact h.elim) (fun f cdv A outer s H vs Q E hr h => ⟨_, (pss_cons (ps_par rfl sc__law_called.nd (i := 2) (j := 3) rfl rfl (by decide) rfl rfl (pa_cons (g_lst pa_nil) (pa_cons (g_call (ok__law_draw tp) hr rfl (by omega) (pa_cons (gv 0) (pa_cons pe_int pa_nil))) pa_nil)) rfl) (pss_cons (g_for PassesOwn.never rfl (w_range1 rfl tp.b_range (pa_cons (gv 1) pa_nil)) (pg_name (i := 4) sc__law_called.nd rfl (by first | exact Or.inl rfl | exact Or.inr rfl)) (pss_cons (ps_set (i := 5) sc__law_called.nd rfl (by first | exact Or.inl rfl | exact Or.inr rfl) (pe_ix (k_ix K rfl) pe_str (pe_op op_modG (pe_op op_addG (gv 4) (gv 3)) pe_int) (fun _ _ => rfl))) (pss_cons (ps_set (i := 6) sc__law_called.nd rfl (by first | exact Or.inl rfl | exact Or.inr rfl) (pe_ix (k_ix K rfl) (g_lst (pa_cons pe_str (pa_cons pe_str (pa_cons pe_str (pa_cons pe_str (pa_cons pe_str pa_nil)))))) (g_call (ok__law_draw tp) hr rfl (by omega) (pa_cons (gv 0) (pa_cons pe_int pa_nil))) (fun _ _ => rfl))) (pss_cons (ps_set (i := 7) sc__law_called.nd rfl (by first | exact Or.inl rfl | exact Or.inr rfl) (pe_op op_addG (pe_op op_mulG (gv 5) (pe_op op_addG pe_int (pe_op op_fdivG (gv 4) pe_int))) (gv 6))) (pss_cons (g_if (PW.pt (g_and (g_cmp (k_neG K rfl hr.units) (gv 2) (g_lst pa_nil) (nomark _)) (g_and (g_cmp op_ltG (pe_callB (k_len K rfl) (by rfl) tp.b_len (by decide +kernel) (pa_cons (pe_ix (k_ix K rfl) (gv 2) (pe_un un_negG pe_int) (fun _ _ => rfl)) pa_nil)) pe_int (nomark _)) (pw_and1 (g_cmp (k_eqG K rfl hr.units) (g_call (ok__law_draw tp) hr rfl (by omega) (pa_cons (gv 0) (pa_cons pe_int pa_nil))) pe_int (nomark _)))))) (pss_one (ps_set (i := 7) sc__law_called.nd rfl (by first | exact Or.inl rfl | exact Or.inr rfl) (pe_op op_addG (pe_ix (k_ix K rfl) (gv 2) (pe_un un_negG pe_int) (fun _ _ => rfl)) (g_ifE (g_cmp (k_eqG K rfl hr.units) (pe_slice (k_sl K rfl) (pe_ix (k_ix K rfl) (gv 2) (pe_un un_negG pe_int) (fun _ _ => rfl)) (po_some (pe_un un_negG pe_int)) po_none) pe_str (nomark _)) pe_str pe_str)))) pss_nil) (pss_one (ps_expr (pe_bm PySem.F.plainAttrs_list PySem.F.slot_list_append PySem.F.type_list_append m_append (gv 2) (pa_cons (gv 7) pa_nil))))))))) (pss_one (ps_ret (gv 2))))), ?_⟩)
  unfold sp__law_called at h
  split at h
  next p m =>
    obtain ⟨hp, h0, h46, k⟩ := h
    walk_at "w"
    refine ⟨(by show 0 ≤ sizeLine; decide), fun p1 H1 hp1 s1 e1 => ?_⟩
    refine ⟨hp.same s1, by decide, by decide, fun d H2 d0 d1 s2 hp2 => ?_⟩
    have n1 : p1 ≠ p := hp.ne hp1
    have e2 := s2 _ _ n1 e1
    have s02 : SameX p H H2 := (SameX.of s1).trans s2
    obtain ⟨sh, rfl⟩ : ∃ sh : Nat, d = (sh : Int) := ⟨d.toNat, by omega⟩
    walk_at "w"
    refine ⟨_, _, rfl, ?_⟩
    walk_at "w"
    refine ⟨by omega, ?_⟩
    refine forw_range (InvC H p p1 m sh)
      ⟨none, none, none, none, [], rfl, s02, hp2, e2, Cd.nil sh⟩ ?_ ?_
    · rintro i σ G hi ⟨v4, v5, v6, v7, ns, rfl, sG, hpG, eG, cd⟩
      have hi46 : i < 46 := by omega
      walk_at "w"
      refine ⟨(by show (0 : Int) < _; decide), ?_⟩
      walk_at "w"
      refine ⟨_, (by show 23 ≤ sizeLine; decide), let_at i sh, ?_⟩
      walk_at "w"
      refine ⟨(by show 5 ≤ sizeLine; decide), fun p3 H3 hp3 s3 e3 => ?_⟩
      refine ⟨hpG.same s3, by decide, by decide, fun d4 H4 a4 b4 s4 hp4 => ?_⟩
      have e34 := s4 _ _ (hpG.ne hp3) e3
      have eG4 := s4 _ _ n1 (s3 _ _ eG)
      have sG4 : SameX p H H4 := sG.trans ((SameX.of s3).trans s4)
      obtain ⟨tl, htl, htm⟩ := tls_at a4 b4
      walk_at "w"
      refine ⟨_, .str tl, Or.inl (SqL.of e34), at_of (j := d4.toNat) (by omega) htl, ?_⟩
      walk_at "w"
      refine ⟨⟨by decide, by decide⟩, ?_⟩
      have er : (1 : Int) + ((0 : Int) + (i : Int)) / 23 = ((1 + i / 23 : Nat) : Int) := by omega
      obtain ⟨mo, me⟩ := mul_ch (letAt i sh) (1 + i / 23) (by omega) (by omega)
      walk_at "w"
      rw [er]
      refine ⟨mo, ?_⟩
      rw [me]
      walk_at "w"
      have tlen := (tls_ok tl htm).1
      have rlen : (⟨(List.replicate (1 + i / 23) (letAt i sh)).toArray⟩ : Str).length = 1 + i / 23 := by
        show (List.replicate (1 + i / 23) (letAt i sh)).toArray.size = _
        simp
      refine ⟨?_, ?_⟩
      · rw [rlen]; exact Nat.le_trans (by omega : _ ≤ 1000) (by decide)
      have fr : Cd sh (i + 1) (ns ++ [(⟨(List.replicate (1 + i / 23) (letAt i sh)).toArray⟩ : Str) ++ tl]) := cd.fresh hi46 htm (by rw [app_cps])
      generalize (⟨(List.replicate (1 + i / 23) (letAt i sh)).toArray⟩ : Str) ++ tl = nm at fr ⊢
      have l46 := cd.len
      walk_at "w"
      refine ⟨(by show 0 ≤ sizeLine; decide), fun p5 H5 hp5 s5 e5 => Or.inl ⟨_, SqL.of (s5 _ _ eG4), e5, ?_⟩⟩
      have eG5 := s5 _ _ eG4
      have hp55 := hp4.same s5
      have sG5 : SameX p H H5 := sG4.trans (SameX.of s5)
      refine way_n (fun c => ?_) fun c => ?_
      · have nne : ns ≠ [] := by
          rintro rfl
          exact absurd c (by decide)
        obtain ⟨ini, l, el, gl⟩ := last_split nne
        have lat : atI (ns.map V.str) (-1) = some (.str l) := by rw [el, List.map_append]; exact atI_last _ _
        have lm : l ∈ ns := by rw [el]; simp
        have lnm := (cd.nm l lm).1
        obtain ⟨y, hy⟩ := lst_pos lnm
        walk_at "w"
        refine ⟨_, .str l, Or.inl (SqL.of eG5), lat, ?_⟩
        refine ⟨Nat.le_trans lnm.2.1 (by decide), ?_⟩
        walk_at "w"
        refine way_d (fun c8 => ?_) fun c8 => ?_
        · walk_at "w"
          refine ⟨hp55, by decide, by decide, fun d6 H6 a6 b6 s6 hp6 => ?_⟩
          have eG6 := s6 _ _ n1 eG5
          have sG6 := sG5.trans s6
          walk_at "w"
          refine way_d (fun c0 => ?_) fun c0 => ?_
          · walk_at "w"
            refine ⟨_, .str l, Or.inl (SqL.of eG6), lat, ?_⟩
            walk_at "w"
            refine ⟨_, .str l, Or.inl (SqL.of eG6), lat, ?_⟩
            refine ⟨_, rfl, ?_⟩
            refine ⟨Nat.le_trans lnm.2.1 (by decide), ?_⟩
            rw [cutS_last hy]
            walk_at "w"
            rw [str_q]
            refine way_d (fun cq => ?_) fun cq => ?_
            · walk_at "w"
              refine ⟨Nat.le_trans (Nat.add_le_add_right lnm.2.1 _) (by decide +kernel), ?_⟩
              walk_at "w"
              refine ⟨Or.inl ⟨rfl, _, SqL.of eG6⟩, _, eG6, by rw [List.length_map]; exact lt1000 (by omega), fun H8 s8 e8 => InvC.step n1 hp1 sG6 hp6 (cd.chain gl (by omega) q_alph.2 hy (by omega) ?_) s8 e8⟩
              rw [app_cps, str_qr.2]
            · walk_at "w"
              refine ⟨Nat.le_trans (Nat.add_le_add_right lnm.2.1 _) (by decide +kernel), ?_⟩
              walk_at "w"
              refine ⟨Or.inl ⟨rfl, _, SqL.of eG6⟩, _, eG6, by rw [List.length_map]; exact lt1000 (by omega), fun H8 s8 e8 => InvC.step n1 hp1 sG6 hp6 (cd.chain gl (by omega) q_alph.1 hy cq ?_) s8 e8⟩
              rw [app_cps, str_qr.1]
          · walk_at "w"
            exact ⟨Or.inl ⟨rfl, _, SqL.of eG6⟩, _, eG6, by rw [List.length_map]; exact lt1000 (by omega), fun H8 s8 e8 => InvC.step n1 hp1 sG6 hp6 fr s8 e8⟩
        · walk_at "w"
          refine way_f ?_
          walk_at "w"
          exact ⟨Or.inl ⟨rfl, _, SqL.of eG5⟩, _, eG5, by rw [List.length_map]; exact lt1000 (by omega), fun H8 s8 e8 => InvC.step n1 hp1 sG5 hp55 fr s8 e8⟩
      · refine way_f ?_
        walk_at "w"
        exact ⟨Or.inl ⟨rfl, _, SqL.of eG5⟩, _, eG5, by rw [List.length_map]; exact lt1000 (by omega), fun H8 s8 e8 => InvC.step n1 hp1 sG5 hp55 fr s8 e8⟩
    · rintro σ G ⟨v4, v5, v6, v7, ns, rfl, sG, hpG, eG, cd⟩
      walk_at "w"
      exact k ns p1 G (by rw [cd.len]) cd.nd (fun z hz => (cd.nm z hz).1) (fun z hz => by
        obtain ⟨_, j, hj, e⟩ := cd.nm z hz
        unfold LwNm
        rw [e]
        exact ⟨letAt_mem _ _, by show 1 + j / 23 ≤ 2; omega⟩) hp1 sG hpG eG
  next => exact h.elim
def sp__law_grown (K : PySem.W.Frag) (n : Nat) : Sp := fun vs H Q _ => match vs with
  | [.ref p, .ref q, .int mo] => ∃ ns : List Str, Pu H p ∧ H q = some (.lst (ns.map V.str)) ∧ 1 ≤ ns.length ∧ ns.length ≤ 46 ∧ ns.length < n ∧ (∀ z ∈ ns, IsNm z) ∧
    ∀ t v H', SameX p H H' → Pu H' p → LT (fresh H H') t v → t.Sh → t.names.Perm ns → t.depth ≤ ns.length → Q v H'
  | _ => False
theorem RkOk.one {m : Nat} (h : 1 ≤ m) : RkOk [1] m := ⟨by simp, by simp, fun r hr => by rw [List.mem_singleton.mp hr]; exact Int.le_refl _, fun r hr => by rw [List.mem_singleton.mp hr]; omega⟩
theorem T.namesL_snoc (ts : List T) (t : T) : T.namesL (ts ++ [t]) = T.namesL ts ++ t.names := by
  rw [T.namesL_eq, T.namesL_eq, List.flatMap_append]
  simp
theorem T.depthL_lt {n : Nat} : ∀ {ts : List T}, (∀ t ∈ ts, t.depth < n) → ts ≠ [] → T.depthL ts < n
  | [], _, h => absurd rfl h
  | [t], h, _ => by rw [T.depthL, T.depthL]; have := h t (List.mem_cons_self ..); omega
  | t :: u :: ts, h, _ => by
    have a := h t (List.mem_cons_self ..)
    have b := T.depthL_lt (n := n) (ts := u :: ts) (fun t ht => h t (List.mem_cons_of_mem _ ht)) (by simp)
    rw [T.depthL]; omega
/-- the parts grown from the first rows -/
structure Grw (ts : List T) (Rs : List (List Str)) (m : Nat) : Prop where
  sh : T.ShL ts
  pm : (T.namesL ts).Perm Rs.flatten
  dp : ∀ t ∈ ts, t.depth < m
theorem Grw.snoc {ts : List T} {Rs : List (List Str)} {m : Nat} (g : Grw ts Rs m) {t : T} {R : List Str} (h1 : t.Sh) (h2 : t.names.Perm R) (h3 : t.depth ≤ R.length) (h4 : R.length < m) : Grw (ts ++ [t]) (Rs ++ [R]) m := by
  refine ⟨T.ShL_iff.mpr fun u hu => ?_, ?_, fun u hu => ?_⟩
  · rcases List.mem_append.mp hu with z | z
    · exact T.ShL_iff.mp g.sh u z
    · rw [List.mem_singleton.mp z]; exact h1
  · rw [T.namesL_snoc, List.flatten_append]
    have e : [R].flatten = R := by simp
    rw [e]
    exact g.pm.append h2
  · rcases List.mem_append.mp hu with z | z
    · exact g.dp u z
    · rw [List.mem_singleton.mp z]; omega
theorem T.taken_pos : ∀ {ts : List T}, T.ShL ts → ts ≠ [] → 1 ≤ T.taken ts
  | [], _, h => absurd rfl h
  | t :: ts, h, _ => by
    rw [T.ShL] at h
    have : 1 ≤ t.width := by
      cases t with
      | leaf z => exact Nat.le_refl _
      | grp rk ps =>
        have := h.1
        rw [T.Sh] at this
        exact pos_len this.2.1.ne
    rw [T.taken]; omega
theorem ok__law_grown (tp : Top K mg) : ∀ n, FnN P w K mg base (n + 3) "_law_grown" [] (sp__law_grown K n)
  | 0 => by
    refine fn_by tp.f__law_grown sc__law_grown (fun vs H Q E h => by unfold sp__law_grown at h; split at h <;> first | rfl | exact h.elim) (fun f cdv A outer s H vs Q E hr h => ?_)
    exfalso
    unfold sp__law_grown at h
    split at h
    next p q mo => obtain ⟨ns, _, _, _, _, h, _⟩ := h; omega
    next => exact h
  | n + 1 => by
    have ih := ok__law_grown tp n
    refine fn_by tp.f__law_grown sc__law_grown (fun vs H Q E h => by unfold sp__law_grown at h; split at h <;> first | rfl | exact h.elim) (fun f cdv A outer s H vs Q E hr h => ⟨_, (pss_cons (g_if (g_cmp (k_eqG K rfl hr.units) (pe_callB (k_len K rfl) (by rfl) tp.b_len (by decide +kernel) (pa_cons (gv 1) pa_nil)) pe_int (nomark _)) (pss_one (ps_ret (g_ifE (g_cmp op_gtG (g_call (ok__law_draw tp) hr rfl (by omega) (pa_cons (gv 0) (pa_cons pe_int pa_nil))) pe_int (nomark _)) (pe_ix (k_ix K rfl) (gv 1) pe_int (fun _ _ => rfl)) (g_tup (pa_cons pe_str (pa_cons (g_lst (pa_cons pe_int pa_nil)) (pa_cons (g_lst (pa_cons (pe_ix (k_ix K rfl) (gv 1) pe_int (fun _ _ => rfl)) pa_nil)) pa_nil))))))) pss_nil) (pss_cons (g_setLc (i := 3) rfl sc__law_grown.nd rfl rfl (sw_true rfl rfl rfl (by decide +kernel)) (kw_list K rfl (g_call (ok__law_split tp) hr rfl (by omega) (pa_cons (gv 0) (pa_cons (gv 1) pa_nil)))) (blkOk_by (own := [("row", 5)]) (N := (["purse", "names", "most", "parts", "taken", "row", "part"] : List Str)) (sc := defScope s__law_grown) (by decide +kernel)) (fun _ _ _ _ _ => pg_name (i := 5) sc__law_grown.nd rfl (by first | exact Or.inl rfl | exact Or.inr rfl)) (fun _ _ _ _ _ => pts_nil) (fun _ _ _ _ _ => (g_call (ih) hr rfl (by omega) (pa_cons (gv 0) (pa_cons (gv 5) (pa_cons (gv 2) pa_nil)))))) (pss_cons (ps_set (i := 4) sc__law_grown.nd rfl (by first | exact Or.inl rfl | exact Or.inr rfl) (pe_callB (k_sum K rfl rfl) (by rfl) tp.b_sum (by decide +kernel) (pa_cons (g_lc rfl sc__law_grown.nd (kw_list K rfl (gv 3)) (blkOk_by (own := [("part", 6)]) (N := (["purse", "names", "most", "parts", "taken", "row", "part"] : List Str)) (sc := defScope s__law_grown) (by decide +kernel)) (fun _ _ _ _ _ => pg_name (i := 6) sc__law_grown.nd rfl (by first | exact Or.inl rfl | exact Or.inr rfl)) (fun _ _ _ _ _ => pts_nil) (fun _ _ _ _ _ => (g_call (ok__law_width tp) hr rfl (by omega) (pa_cons (gv 6) pa_nil)))) pa_nil))) (pss_one (ps_ret (g_tup (pa_cons pe_str (pa_cons (g_call (ok__law_ranks tp) hr rfl (by omega) (pa_cons (gv 0) (pa_cons (gv 4) (pa_cons (gv 2) pa_nil)))) (pa_cons (gv 3) pa_nil))))))))), ?_⟩)
    unfold sp__law_grown at h
    split at h
    next p q mo =>
      obtain ⟨ns, hp, hq, h1, h46, hn, hnm, k⟩ := h
      have hpq : q ≠ p := by rintro rfl; obtain ⟨x, y, z, e⟩ := hp; rw [hq] at e; cases ns with
        | nil => simp at e
        | cons a l => simp at e
      walk_at "w"
      refine ⟨_, Or.inl (SqL.of hq), ?_⟩
      rw [List.length_map]
      walk_at "w"
      refine way_d (fun c => ?_) fun c => ?_
      · obtain ⟨a, rfl⟩ : ∃ a, ns = [a] := List.length_eq_one_iff.mp (by omega)
        have an := hnm a (List.mem_cons_self ..)
        walk_at "w"
        refine ⟨hp, by decide, by decide, fun d H1 d0 d1 s1 hp1 => ?_⟩
        have hq1 := s1 _ _ hpq hq
        walk_at "w"
        refine way_d (fun c1 => ?_) fun c1 => ?_
        · walk_at "w"
          refine ⟨_, .str a, Or.inl (SqL.of hq1), at_of (j := 0) rfl rfl, ?_⟩
          exact k (.leaf a) (.str a) H1 s1 hp1 rfl an (List.Perm.refl _) (Nat.zero_le _)
        · walk_at "w"
          refine ⟨(by show 1 ≤ sizeLine; decide), fun p2 H2 hp2 s2 e2 => ?_⟩
          walk_at "w"
          refine ⟨_, .str a, Or.inl (SqL.of (s2 _ _ hq1)), at_of (j := 0) rfl rfl, ?_⟩
          walk_at "w"
          refine ⟨(by show 1 ≤ sizeLine; decide), fun p3 H3 hp3 s3 e3 => ?_⟩
          walk_at "w"
          refine ⟨(by show 3 ≤ sizeLine; decide), fun p4 H4 hp4 s4 e4 => ?_⟩
          have f2 : H p2 = none := s1.none_ hp1 hp2
          have f3 : H p3 = none := s1.none_ hp1 (by
            cases hz : H1 p3 with
            | none => rfl
            | some o => rw [s2 _ _ hz] at hp3; cases hp3)
          have f4 : H p4 = none := s1.none_ hp1 (by
            cases hz : H1 p4 with
            | none => rfl
            | some o => rw [(s2.trans s3) _ _ hz] at hp4; cases hp4)
          have s14 : Same H1 H4 := s2.trans (s3.trans s4)
          refine k (.grp [1] [.leaf a]) (.ref p4) H4 (s1.trans (SameX.of s14)) (hp1.same s14) ⟨p4, p2, p3, [.str a], rfl, fresh_at f4 e4, fresh_at f2 ((s3.trans s4) _ _ e2), fresh_at f3 (s4 _ _ e3), .str a, [], rfl, rfl, rfl⟩ ?_ ?_ ?_
          · rw [T.Sh]
            exact ⟨by simp, RkOk.one (Nat.le_refl _), an, trivial⟩
          · exact List.Perm.refl _
          · show 1 ≤ 1
            exact Nat.le_refl _
      · have h2 : 2 ≤ ns.length := by omega
        walk_at "w"
        refine ⟨ns, hp, hq, h2, h46, fun Rs us r H1 hR hRne hRl pm ls s1 hp1 er => ?_⟩
        obtain ⟨fr, er1⟩ := fresh_some er
        have hus := ls.length
        refine comp_list (xs := us) (fun i acc G => SameX p H1 G ∧ Pu G p ∧ ∃ ts, LTs (fresh H G) ts acc ∧ Grw ts (Rs.take i) ns.length ∧ ts.length = i) (by rw [hus]; exact lt1000 (by omega)) ⟨SameX.refl, hp1, [], rfl, ⟨trivial, List.Perm.refl _, fun t ht => by simp at ht⟩, rfl⟩
          (fun i acc G f => SqL.of (f.1 _ _ (hp.ne fr) er1)) (fun D i x acc H' hx hD hDl hq' f => ⟨rfl, ?_⟩) (fun D H' acc hD hDl hq' f => ?_)
        · obtain ⟨s2, hp2, ts, lt, gw, tl⟩ := f
          obtain ⟨R, qR, hRi, rfl, eR⟩ := ls.at_ hx
          obtain ⟨fR, eR⟩ := fresh_some eR
          have hp2' : Pu H' p := hp2.same off_same
          have nD : D ≠ p := hp1.ne hD
          have fD : H D = none := s1.none_ hp1 hD
          have eR' : H' qR = some (.lst (R.map V.str)) := off_same _ _ (s2 _ _ (hp.ne fR) eR)
          have hRR := hR R (List.mem_of_getElem? hRi)
          have sub : ∀ z ∈ R, z ∈ ns := fun z hz => pm.mem_iff.mp (List.mem_flatten.mpr ⟨R, List.mem_of_getElem? hRi, hz⟩)
          refine way_t ?_
          walk_at "w"
          refine ⟨R, hp2', eR', pos_len hRR.1, by omega, by omega, fun z hz => hnm z (sub z hz), fun t v H4 s4 hp4 lt4 sh4 pm4 dp4 => ?_⟩
          have h4D := s4 _ _ nD hDl
          refine ⟨h4D, s2.trans (fun b o n e => ?_), ?_, ts ++ [t], ?_, ?_, ?_⟩
          · obtain ⟨n2, e⟩ := off_some e
            rw [off_at n2]; exact s4 b o n e
          · obtain ⟨x, y, z, e⟩ := hp4
            exact ⟨x, y, z, by rw [off_at nD.symm]; exact e⟩
          · refine LTs.snoc (lt4.mono fun b o e => ?_) (lt.mono fun b o e => ?_)
            · obtain ⟨n, e⟩ := fresh_some e
              have sH : SameX p H H' := s1.trans (s2.trans (SameX.of off_same))
              have nbD : b ≠ D := (ne_of_none hDl n).symm
              exact fresh_at (sH.none_ hp2' n) (by rw [off_at nbD]; exact e)
            · obtain ⟨n, e⟩ := fresh_some e
              obtain ⟨n2, e⟩ := off_some e
              exact fresh_at n (by rw [off_at n2]; exact s4 b o (hp.ne n) e)
          · rw [List.take_add_one, hRi]
            exact gw.snoc sh4 pm4 dp4 hRR.2
          · rw [List.length_append, tl]; rfl
        · obtain ⟨s2, hp2, ts, lt, gw, tl⟩ := f
          rw [hus, List.take_length] at gw
          have hp2' : Pu H' p := hp2.same off_same
          have nD : D ≠ p := hp1.ne hD
          have fD : H D = none := s1.none_ hp1 hD
          have sH : SameX p H H' := s1.trans (s2.trans (SameX.of off_same))
          have lt' : LTs (fresh H H') ts acc := lt.mono fun b o e => by
            obtain ⟨n, e⟩ := fresh_some e
            exact fresh_at n (off_same _ _ e)
          have hal := lt'.length
          have tne : ts ≠ [] := by
            rintro rfl
            have : us.length = 0 := tl.symm
            rw [hus] at this
            exact hRne (List.length_eq_zero_iff.mp this)
          have tkl := T.taken_le gw.sh
          have nml : (T.namesL ts).length = ns.length := (gw.pm.trans pm).length_eq
          have tkp := T.taken_pos gw.sh tne
          walk_at "w"
          refine comp_list (xs := acc) (fun i a2 G => Same H' G ∧ a2 = (ts.take i).map fun t => V.int t.width) (by rw [hal]; exact lt1000 (by omega)) ⟨Same.refl _, rfl⟩ (fun i a2 G f => SqL.of (f.1 _ _ hDl)) (fun D2 i x a2 G hx hD2 hDl2 hq2 f => ⟨rfl, ?_⟩) (fun D2 G a2 hD2 hDl2 hq2 f => ?_)
          · obtain ⟨s3, rfl⟩ := f
            obtain ⟨t, ht, mt⟩ := lt'.at_ hx
            refine way_t ?_
            walk_at "w"
            refine ⟨t, mt.mono (fresh_same.trans (s3.trans off_same)), ?_⟩
            refine ⟨hDl2, s3, ?_⟩
            rw [List.take_add_one, ht, List.map_append]
            rfl
          · obtain ⟨s3, rfl⟩ := f
            rw [hal, List.take_length] at hDl2
            have s4 : Same H' G := s3.trans off_same
            walk_at "w"
            refine ⟨ts.map fun t => (t.width : Int), SqL.of (by rw [List.map_map]; exact hDl2), ?_⟩
            rw [← T.taken_eq]
            have hp4 := hp2'.same s4
            walk_at "w"
            refine ⟨hp4, by omega, by omega, fun rk rp H5 rko f5 s5 hp5 e5 => ?_⟩
            have sG : SameX p H G := sH.trans (SameX.of s4)
            have f5' : H rp = none := sG.none_ hp4 f5
            rw [Int.toNat_natCast] at rko
            walk_at "w"
            refine ⟨(by show 3 ≤ sizeLine; decide), fun p6 H6 hp6 s6 e6 => ?_⟩
            have s5' : SameX p H H5 := sG.trans s5
            have f6 : H p6 = none := s5'.none_ hp5 hp6
            refine k (.grp rk ts) (.ref p6) H6 (s5'.trans (SameX.of s6)) (hp5.same s6) ⟨p6, rp, D, acc, rfl, fresh_at f6 e6, fresh_at f5' (s6 _ _ e5), fresh_at fD (s6 _ _ (s5 _ _ nD (s4 _ _ hDl))), lt'.mono ?_⟩ ?_ ?_ ?_
            · exact fresh_later hp ((SameX.of s4).trans (s5.trans (SameX.of s6)))
            · rw [T.Sh]
              exact ⟨tne, rko, gw.sh⟩
            · rw [T.names]
              exact gw.pm.trans pm
            · rw [T.depth]
              have := T.depthL_lt gw.dp tne
              omega
    next => exact h.elim
def sp__law_tree (K : PySem.W.Frag) : Sp := fun vs H Q _ => match vs with
  | [.ref p, .int l, .int mo] => Pu H p ∧ 1 ≤ l ∧ l ≤ 45 ∧ ∀ t v H', SameX p H H' → Pu H' p → LT (fresh H H') t v → t.Gd → t.names.length ≤ l.toNat → (∀ z ∈ t.names, LwNm z) → Q v H'
  | _ => False
theorem ok__law_tree (tp : Top K mg) : FnN P w K mg base 60 "_law_tree" [] (sp__law_tree K) := by
  refine fn_by tp.f__law_tree sc__law_tree (fun vs H Q E h => by unfold sp__law_tree at h; split at h <;> first | rfl | exact h.elim) (fun f cdv A outer s H vs Q E hr h => ⟨_, (pss_cons (ps_set (i := 3) sc__law_tree.nd rfl (by first | exact Or.inl rfl | exact Or.inr rfl) (g_call (ok__law_called tp) hr rfl (by omega) (pa_cons (gv 0) (pa_cons (pe_op op_addG pe_int (g_call (ok__law_draw tp) hr rfl (by omega) (pa_cons (gv 0) (pa_cons (gv 1) pa_nil)))) pa_nil)))) (pss_one (ps_ret (g_call (ok__law_grown tp 46) hr rfl (by omega) (pa_cons (gv 0) (pa_cons (gv 3) (pa_cons (gv 2) pa_nil))))))), ?_⟩)
  unfold sp__law_tree at h
  split at h
  next p l mo =>
    obtain ⟨hp, h1, h45, k⟩ := h
    walk_at "w"
    refine ⟨hp, by omega, by omega, fun d H1 d0 d1 s1 hp1 => ?_⟩
    walk_at "w"
    refine ⟨hp1, by omega, by omega, fun ns r H2 nl nd nm lw f2 s2 hp2 e2 => ?_⟩
    walk_at "w"
    refine ⟨ns, hp2, e2, by omega, by omega, by omega, nm, fun t v H3 s3 hp3 lt sh pm dp => ?_⟩
    have s12 := s1.trans s2
    have ln := pm.length_eq
    exact k t v H3 (s12.trans s3) hp3 (lt.mono (fresh_before s12 hp2)) ⟨sh, pm.nodup_iff.mpr nd, by omega, by omega⟩ (by omega) (fun z hz => lw z (pm.mem_iff.mp hz))
  next => exact h.elim
end LW
namespace LW
open PySem PySem.Spec L2 GG
variable {P : Program} {w : World} {K : PySem.W.Frag} {mg : Str → Option Value} {base : Heap}
abbrev CLo (K : PySem.W.Frag) : Addr := He.ga K "Lot"
def kvI (ps : List (Str × Int)) : List (Key × V) := ps.map fun p => (.inr p.1, .int p.2)
def look (ps : List (Str × Int)) (z : Str) : Option Int := (ps.find? fun p => decide (p.1 = z)).map (·.2)
def wOf (ps : List (Str × Int)) (y : Str) : Int := (look ps y).getD 0
theorem look_cons (p : Str × Int) (ps : List (Str × Int)) (z : Str) : look (p :: ps) z = if p.1 = z then some p.2 else look ps z := by
  unfold look
  rw [List.find?_cons]
  by_cases c : p.1 = z
  · rw [decide_eq_true c, if_pos c]; rfl
  · rw [decide_eq_false c, if_neg c]
theorem valV_cons {κ : Type} [DecidableEq κ] (p : κ × V) (kvs : List (κ × V)) (k : κ) : valV (p :: kvs) k = if p.1 = k then some p.2 else valV kvs k := by
  unfold valV
  rw [List.find?_cons]
  by_cases c : p.1 = k
  · rw [decide_eq_true c, if_pos c]; rfl
  · rw [decide_eq_false c, if_neg c]
theorem valV_kvI : ∀ (ps : List (Str × Int)) (z : Str), valV (kvI ps) (.inr z) = (look ps z).map V.int
  | [], z => rfl
  | p :: ps, z => by
    rw [look_cons, show kvI (p :: ps) = ((.inr p.1 : Key), V.int p.2) :: kvI ps from rfl, valV_cons, valV_kvI ps z]
    by_cases c : p.1 = z
    · rw [if_pos c, if_pos (congrArg Sum.inr c)]; rfl
    · rw [if_neg c, if_neg (fun q => c (Sum.inr.inj q))]
theorem look_some : ∀ {ps : List (Str × Int)} {z : Str}, z ∈ ps.map (·.1) ↔ ∃ c, look ps z = some c
  | [], z => by simp [look]
  | p :: ps, z => by
    rw [look_cons, List.map_cons, List.mem_cons, look_some (ps := ps)]
    by_cases c : p.1 = z
    · rw [if_pos c]; exact ⟨fun _ => ⟨_, rfl⟩, fun _ => .inl c.symm⟩
    · rw [if_neg c]; exact ⟨fun q => q.elim (fun q => absurd q.symm c) id, .inr⟩
theorem look_isSome (ps : List (Str × Int)) (z : Str) : (look ps z).isSome = decide (z ∈ ps.map (·.1)) := by
  rw [Bool.eq_iff_iff, decide_eq_true_eq, look_some, Option.isSome_iff_exists]
theorem look_mem : ∀ {ps : List (Str × Int)} {z : Str} {c : Int}, look ps z = some c → (z, c) ∈ ps
  | [], z, c, h => by simp [look] at h
  | p :: ps, z, c, h => by
    rw [look_cons] at h
    by_cases q : p.1 = z
    · rw [if_pos q] at h
      have : p = (z, c) := by rw [← q, ← Option.some.inj h]
      rw [this]; exact List.mem_cons_self ..
    · rw [if_neg q] at h
      exact List.mem_cons_of_mem _ (look_mem h)
theorem look_of : ∀ {ps : List (Str × Int)} {z : Str} {c : Int}, (ps.map (·.1)).Nodup → (z, c) ∈ ps → look ps z = some c
  | [], z, c, _, h => by simp at h
  | p :: ps, z, c, nd, h => by
    rw [List.map_cons, List.nodup_cons] at nd
    rw [look_cons]
    rcases List.mem_cons.mp h with q | q
    · rw [← q, if_pos rfl]
    · rw [if_neg (fun e => nd.1 (by rw [e]; exact List.mem_map.mpr ⟨_, q, rfl⟩))]
      exact look_of nd.2 q
theorem look_perm {ps qs : List (Str × Int)} (p : ps.Perm qs) (nd : (ps.map (·.1)).Nodup) (z : Str) : look ps z = look qs z := by
  have nd2 : (qs.map (·.1)).Nodup := (p.map _).nodup_iff.mp nd
  cases h : look ps z with
  | none =>
    cases h2 : look qs z with
    | none => rfl
    | some c => rw [look_of nd (p.mem_iff.mpr (look_mem h2))] at h; cases h
  | some c => rw [look_of nd2 (p.mem_iff.mp (look_mem h))]
structure PsOk (ps : List (Str × Int)) : Prop where
  nd : (ps.map (·.1)).Nodup
  nm : ∀ p ∈ ps, IsNm p.1
  ln : ps.length ≤ 1000
theorem PsOk.perm {ps qs : List (Str × Int)} (h : PsOk ps) (p : ps.Perm qs) : PsOk qs := ⟨(p.map _).nodup_iff.mp h.nd, fun x hx => h.nm x (p.mem_iff.mpr hx), by rw [← p.length_eq]; exact h.ln⟩
theorem PsOk.sub {ps qs : List (Str × Int)} (h : PsOk ps) (s : qs.Sublist ps) : PsOk qs := ⟨h.nd.sublist (s.map _), fun x hx => h.nm x (s.subset hx), Nat.le_trans s.length_le h.ln⟩
def lof (d : Addr) : List (Str × V) := [("worths", .ref d)]
structure LotAt (K : PySem.W.Frag) (H : Hp) (a d : Addr) (ps : List (Str × Int)) : Prop where
  o : ∃ dx, H a = some (.ins (CLo K) dx (lof d))
  k : H d = some (.dK (kvI ps))
  ok : PsOk ps
theorem LotAt.mono {K : PySem.W.Frag} {H H' : Hp} {a d : Addr} {ps : List (Str × Int)} (h : LotAt K H a d ps) (s : Same H H') : LotAt K H' a d ps := ⟨h.o.imp fun _ e => s _ _ e, s _ _ h.k, h.ok⟩
theorem LotAt.ne {K : PySem.W.Frag} {H : Hp} {a d : Addr} {ps : List (Str × Int)} (h : LotAt K H a d ps) : a ≠ d := by
  rintro rfl
  obtain ⟨dx, e⟩ := h.o
  rw [h.k] at e; cases e
theorem free_back {H H1 : Hp} {p : Addr} (s : Same H H1) (h : H1 p = none) : H p = none := by
  cases z : H p with
  | none => rfl
  | some o => rw [s _ _ z] at h; cases h
theorem IsNm.le1000 {z : Str} (h : IsNm z) : z.length ≤ 1000 := by have := h.2.1; omega
def sp_are_pairs (K : PySem.W.Frag) : Sp := fun vs H Q _ => match vs with
  | [.ref p] => ∃ ps xs, H p = some (.lst xs) ∧ PL H ps xs ∧ PsOk ps ∧ ∀ H', Same H H' → Q (.bl true) H'
  | _ => False
def kvT (ps : List (Str × Int)) : List (Key × V) := ps.map fun p => (.inr p.1, .bl true)
theorem valV_kvT : ∀ (ps : List (Str × Int)) (z : Str), (valV (kvT ps) (.inr z)).isSome = decide (z ∈ ps.map (·.1))
  | [], z => rfl
  | p :: ps, z => by
    rw [show kvT (p :: ps) = ((.inr p.1 : Key), V.bl true) :: kvT ps from rfl, valV_cons]
    by_cases c : p.1 = z
    · rw [if_pos (congrArg Sum.inr c)]; simp [c]
    · rw [if_neg (fun q => c (Sum.inr.inj q)), valV_kvT ps z]
      simp [Ne.symm c]
theorem putK_new {κ : Type} [DecidableEq κ] {kvs : List (κ × V)} {k : κ} {v : V} (h : valV kvs k = none) : putK kvs k v = kvs ++ [(k, v)] := by
  unfold putK
  rw [if_neg]
  intro q
  obtain ⟨x, hx, hk⟩ := List.any_eq_true.mp q
  unfold valV at h
  rw [Option.map_eq_none_iff, List.find?_eq_none] at h
  exact h x hx hk
theorem take_fst {ps : List (Str × Int)} {i : Nat} {p : Str × Int} (nd : (ps.map (·.1)).Nodup) (h : ps[i]? = some p) : p.1 ∉ (ps.take i).map (·.1) := by
  have e : ps = ps.take i ++ p :: ps.drop (i + 1) := by
    obtain ⟨hi, e⟩ := List.getElem?_eq_some_iff.mp h
    rw [← e, List.getElem_cons_drop, List.take_append_drop]
  rw [e, List.map_append, List.map_cons, List.nodup_append] at nd
  intro q
  exact nd.2.2 _ q _ (List.mem_cons_self ..) rfl
theorem ok_are_pairs (tp : Top K mg) : FnN P w K mg base 2 "are_pairs" [] (sp_are_pairs K) := by
  refine fn_by tp.f_are_pairs sc_are_pairs (fun vs H Q E h => by unfold sp_are_pairs at h; split at h <;> first | rfl | exact h.elim) (fun f cdv A outer s H vs Q E hr h => ⟨_, (pss_cons (g_if (pt_not (g_val (pe_callB (k_isi K rfl) (by rfl) tp.b_isinstance (by decide +kernel) (pa_cons (gv 0) (pa_cons (pe_bltn (v := .ty "list") rfl tp.b_list (by decide +kernel) rfl) pa_nil))))) (pss_one (ps_ret pe_bl)) pss_nil) (pss_cons (ps_set (i := 1) sc_are_pairs.nd rfl (by first | exact Or.inl rfl | exact Or.inr rfl) g_dnew) (pss_cons (g_for PassesOwn.never rfl (kw_list K rfl (gv 0)) (pg_name (i := 2) sc_are_pairs.nd rfl (by first | exact Or.inl rfl | exact Or.inr rfl)) (pss_cons (g_if (PW.pt (g_or (pt_not (g_val (pe_callB (k_isi K rfl) (by rfl) tp.b_isinstance (by decide +kernel) (pa_cons (gv 2) (pa_cons (pe_bltn (v := .ty "tuple") rfl tp.b_tuple (by decide +kernel) rfl) pa_nil))))) (g_or (g_cmp (k_neG K rfl hr.units) (pe_callB (k_len K rfl) (by rfl) tp.b_len (by decide +kernel) (pa_cons (gv 2) pa_nil)) pe_int (nomark _)) (g_or (pt_not (g_val (g_call (ok_is_name tp) hr rfl (by omega) (pa_cons (pe_ix (k_ix K rfl) (gv 2) pe_int (fun _ _ => rfl)) pa_nil)))) (pw_or1 (pt_not (g_val (g_call (ok_is_whole tp) hr rfl (by omega) (pa_cons (pe_ix (k_ix K rfl) (gv 2) pe_int (fun _ _ => rfl)) pa_nil))))))))) (pss_one (ps_ret pe_bl)) pss_nil) (pss_cons (g_if (g_cmp (k_din (Nat.lt_of_le_of_lt (Nat.add_le_add_left (by decide : 1 ≤ 64) _) hr.units)) (pe_ix (k_ix K rfl) (gv 2) pe_int (fun _ _ => rfl)) (gv 1) (by with_unfolding_all rfl)) (pss_one (ps_ret pe_bl)) pss_nil) (pss_one (ps_asg pe_bl (pg_sub (gv 1) (pe_ix (k_ix K rfl) (gv 2) pe_int (fun _ _ => rfl)) (s_dict (Nat.lt_of_le_of_lt (Nat.add_le_add_left (by decide : 1 ≤ 64) _) hr.units)))))))) (pss_one (ps_ret pe_bl))))), ?_⟩)
  unfold sp_are_pairs at h
  split at h
  next p =>
    obtain ⟨ps, xs, hp, pl, ok, k⟩ := h
    have hl := pl.length
    walk_at "w"
    refine ⟨_, is_ll hp, way_f ?_⟩
    walk_at "w"
    refine fun pd H1 f1 s1 e1 => ?_
    walk_at "w"
    refine forw_list (xs := xs) (fun i σ G => ∃ v, σ = [some (.ref p), some (.ref pd), v] ∧ Same H G ∧ G pd = some (.dK (kvT (ps.take i)))) ⟨none, rfl, s1, e1⟩ (fun i σ G _ ⟨_, _, sG, _⟩ => SqL.of (sG _ _ hp)) ?_ ?_
    · rintro i x σ G hx ⟨v, rfl, sG, eG⟩
      obtain ⟨pr, q, hpr, rfl, hq⟩ := (pl.mono sG).at_ hx
      have nm := ok.nm pr (List.mem_of_getElem? hpr)
      have nin := take_fst ok.nd hpr
      walk_at "w"
      refine ⟨_, is_tt hq, way_f ?_⟩
      walk_at "w"
      refine ⟨_, Or.inr (SqT.of hq), way_f ?_⟩
      walk_at "w"
      refine ⟨_, .str pr.1, Or.inr (SqT.of hq), at_of (j := 0) rfl rfl, ?_⟩
      refine ⟨IsNm.le1000 nm, fun G2 s2 => ?_⟩
      rw [decide_eq_true nm]
      refine way_f ?_
      walk_at "w"
      refine ⟨_, .int pr.2, Or.inr (SqT.of (s2 _ _ hq)), at_of (j := 1) rfl rfl, ?_⟩
      refine way_f ?_
      walk_at "w"
      refine ⟨_, .str pr.1, Or.inr (SqT.of (s2 _ _ hq)), at_of (j := 0) rfl rfl, ?_⟩
      refine ⟨_, s2 _ _ eG, ?_⟩
      rw [valV_kvT, decide_eq_false nin]
      refine way_f ?_
      walk_at "w"
      refine ⟨_, .str pr.1, Or.inr (SqT.of (s2 _ _ hq)), at_of (j := 0) rfl rfl, ?_⟩
      have tk : kvT (ps.take (i + 1)) = putK (kvT (ps.take i)) (.inr pr.1) (.bl true) := by
        have z := valV_kvT (ps.take i) pr.1
        rw [decide_eq_false nin] at z
        rw [putK_new (Option.not_isSome_iff_eq_none.mp (by rw [z]; simp)), List.take_add_one, hpr]
        unfold kvT
        rw [List.map_append]
        rfl
      refine ⟨_, s2 _ _ eG, ?_, fun G3 s3 e3 => ⟨_, rfl, SameX.un (sG.trans s2) f1 s3, by rw [tk]; exact e3⟩⟩
      unfold kvT
      rw [List.length_map, List.length_take]
      have := ok.ln
      exact lt1000 (by omega)
    · rintro σ G ⟨v, rfl, sG, eG⟩
      walk_at "w"
      exact k G sG
  next => exact h.elim
/-- Lot(pairs), Lot(None) -/
def sp_Lot (K : PySem.W.Frag) : Sp := fun vs H Q _ => match vs with
  | [.ref p] => ∃ ps xs, H p = some (.lst xs) ∧ PL H ps xs ∧ PsOk ps ∧ ∀ a d H', H a = none → H d = none → Same H H' → LotAt K H' a d ps → Q (.ref a) H'
  | [.non] => ∀ a d H', H a = none → H d = none → Same H H' → LotAt K H' a d [] → Q (.ref a) H'
  | _ => False
def sp_Lot___init__ (K : PySem.W.Frag) : Sp := fun vs H Q _ => match vs with
  | [.ref a, .ref p] => ∃ dx H0 ps xs, H a = some (.ins (CLo K) dx []) ∧ H0 a = none ∧ Same H0 H ∧ H0 p = some (.lst xs) ∧ PL H0 ps xs ∧ PsOk ps ∧ ∀ d H', H0 d = none → Same H0 H' → LotAt K H' a d ps → Q .non H'
  | [.ref a, .non] => ∃ dx H0, H a = some (.ins (CLo K) dx []) ∧ H0 a = none ∧ Same H0 H ∧ ∀ d H', H0 d = none → Same H0 H' → LotAt K H' a d [] → Q .non H'
  | _ => False
theorem kvI_snoc {ps : List (Str × Int)} {i : Nat} {p : Str × Int} (nd : (ps.map (·.1)).Nodup) (h : ps[i]? = some p) : kvI (ps.take (i + 1)) = putK (kvI (ps.take i)) (.inr p.1) (.int p.2) := by
  have z : valV (kvI (ps.take i)) (.inr p.1) = none := by
    rw [valV_kvI]
    cases e : look (ps.take i) p.1 with
    | none => rfl
    | some c => exact absurd (look_some.mpr ⟨c, e⟩) (take_fst nd h)
  rw [putK_new z, List.take_add_one, h]
  unfold kvI
  rw [List.map_append]
  rfl
theorem mk_Lot (tp : Top K mg) : MkN P w K mg base 3 "Lot" (sp_Lot K) ∧ MkN P w K mg base 3 "Lot" (fun vs H Q E => sp_Lot K (vs ++ [.non]) H Q E) := by
  refine mk_byD (sp0 := sp_Lot___init__ K) tp.m_Lot___init__ tp.k_Lot.1 tp.k_Lot.2 tp.c_Lot sc_Lot___init__ (fun vs H Q E h => by unfold sp_Lot___init__ at h; split at h <;> first | rfl | exact h.elim) (fun vs H Q h y dy hy hdy hne => ?_) (fun f cdv A outer s H vs Q E hr h => ⟨_, (pss_cons (ps_set (i := 2) sc_Lot___init__.nd rfl (by first | exact Or.inl rfl | exact Or.inr rfl) (g_ifE (g_cmp op_isG (gv 1) pe_non (nomark _)) (g_lst pa_nil) (gv 1))) (pss_cons (g_if (pt_not (g_val (g_call (ok_are_pairs tp) hr rfl (by omega) (pa_cons (gv 2) pa_nil)))) (pss_one ps_never) pss_nil) (pss_one (k_fldS K rfl (gv 0) (g_dc rfl sc_Lot___init__.nd (kw_list K rfl (gv 2)) (blkOk_by (own := [("name", 3), ("worth", 4)]) (N := (["self", "pairs", "rows", "name", "worth"] : List Str)) (sc := defScope s_Lot___init__) (by decide +kernel)) (fun _ _ _ _ _ => k_tg2 K rfl rfl (pg_name (i := 3) sc_Lot___init__.nd rfl (by first | exact Or.inl rfl | exact Or.inr rfl)) (pg_name (i := 4) sc_Lot___init__.nd rfl (by first | exact Or.inl rfl | exact Or.inr rfl))) (fun _ _ _ _ _ => pts_nil) (fun _ _ _ _ _ => (gv 3)) (fun _ _ _ _ _ => (gv 4))) rfl)))), ?_⟩)
  · have s0 : ∀ o, Same H (upd (upd H dy (.own y)) y o) := fun o b u e => by rw [upd_ne (ne_of_none e hy), upd_ne (ne_of_none e hdy)]; exact e
    unfold sp_Lot at h
    split at h
    next p =>
      obtain ⟨ps, xs, h1, h2, h3, q⟩ := h
      exact ⟨dy, H, ps, xs, upd_same, hy, s0 _, h1, h2, h3, fun d H' f s l => ⟨rfl, q y d H' hy f s l⟩⟩
    next => exact ⟨dy, H, upd_same, hy, s0 _, fun d H' f s l => ⟨rfl, h y d H' hy f s l⟩⟩
    next => exact h.elim
  · unfold sp_Lot___init__ at h
    split at h
    next a p =>
      obtain ⟨dx, H0, ps, xs, ha, h0a, s0, hp, pl, ok, q⟩ := h
      have hl := pl.length
      walk_at "w"
      refine way_f ?_
      walk_at "w"
      refine ⟨ps, xs, s0 _ _ hp, pl.mono s0, ok, fun H1 s1 => ?_⟩
      refine way_f ?_
      have s2 := s0.trans s1
      walk_at "w"
      refine ⟨⟨xs, SqL.of (s2 _ _ hp)⟩, ?_⟩
      have hp1 := s2 _ _ hp
      refine dcG_by tg2_up (walkS_of walk_list) (fun i acc G => Same H1 G ∧ acc = kvI (ps.take i)) (fun i acc G G' s f => ⟨f.1.trans s, f.2⟩) (by rw [hl]; exact lt1000 ok.ln) ⟨Same.refl _, rfl⟩ (fun i acc H G _ f s => SqL.of (s _ _ (f.1 _ _ hp1))) (fun D i x acc H' hi hx hD hDl ha' f => ?_) (fun D H' acc hD hDl ha' f => ?_)
      · obtain ⟨s3, rfl⟩ := f
        obtain ⟨pr, b, hpr, rfl, hb⟩ := (pl.mono (s2.trans (s3.trans off_same))).at_ hx
        refine tg2_of hb ⟨rfl, way_t ?_⟩
        walk_at "w"
        exact ⟨hDl, s3, (kvI_snoc ok.nd hpr).symm⟩
      · obtain ⟨s3, rfl⟩ := f
        have s4 : Same H1 H' := s3.trans off_same
        have f0 := free_back s2 hD
        rw [hl, List.take_length] at hDl
        refine ⟨_, dx, [], s4 _ _ (s1 _ _ ha), tp.i_Lot.cl, tp.n_Lot_worths, (by decide), fun H5 s5 e5 => ?_⟩
        have nD : D ≠ a := by rintro rfl; rw [s1 _ _ ha] at hD; cases hD
        exact q D H5 f0 (SameX.un (s2.trans s4) h0a s5) ⟨⟨dx, e5⟩, s5 _ _ nD hDl, ok⟩
    next a =>
      obtain ⟨dx, H0, ha, h0a, s0, q⟩ := h
      walk_at "w"
      refine way_t ?_
      walk_at "w"
      refine ⟨(by show 0 ≤ sizeLine; decide), fun p H1 f1 s1 e1 => ?_⟩
      walk_at "w"
      refine ⟨[], [], e1, rfl, ⟨by simp, by simp, by simp⟩, fun H2 s2 => ?_⟩
      refine way_f ?_
      have hp1 := s2 _ _ e1
      walk_at "w"
      refine ⟨⟨[], SqL.of hp1⟩, ?_⟩
      refine dcG_by tg2_up (walkS_of (walk_list (xs := []))) (fun i acc G => Same H2 G ∧ acc = []) (fun i acc G G' s f => ⟨f.1.trans s, f.2⟩) (by decide) ⟨Same.refl _, rfl⟩ (fun i acc H G _ f s => SqL.of (s _ _ (f.1 _ _ hp1))) (fun D i x acc H' hi hx hD hDl ha' f => ?_) (fun D H' acc hD hDl ha' f => ?_)
      · simp at hx
      · obtain ⟨s3, rfl⟩ := f
        have s4 : Same H2 H' := s3.trans off_same
        have s02 : Same H0 H2 := s0.trans (s1.trans s2)
        have f0 := free_back s02 hD
        refine ⟨_, dx, [], s4 _ _ (s2 _ _ (s1 _ _ ha)), tp.i_Lot.cl, tp.n_Lot_worths, (by decide), fun H5 s5 e5 => ?_⟩
        have nD : D ≠ a := by rintro rfl; rw [s2 _ _ (s1 _ _ ha)] at hD; cases hD
        exact q D H5 f0 (SameX.un (s02.trans s4) h0a s5) ⟨⟨dx, e5⟩, s5 _ _ nD hDl, ⟨by simp, by simp, by simp⟩⟩
    next => exact h.elim
def sp_Lot___contains__ (K : PySem.W.Frag) : Sp := fun vs H Q _ => match vs with
  | [.ref a, .str z] => ∃ d ps, LotAt K H a d ps ∧ z.length ≤ 1000 ∧ ∀ H', Same H H' → Q (.bl (decide (z ∈ ps.map (·.1)))) H'
  | _ => False
theorem ok_Lot___contains__ (tp : Top K mg) : MtN P w K mg base 2 (CLo K) "__contains__" [] (sp_Lot___contains__ K) := by
  refine mt_by tp.m_Lot___contains__ sc_Lot___contains__ (fun vs H Q E h => by unfold sp_Lot___contains__ at h; split at h <;> first | rfl | exact h.elim) (fun f cdv A outer s H vs Q E hr h => ⟨_, (pss_one (ps_ret (g_andV (g_call (ok_is_name tp) hr rfl (by omega) (pa_cons (gv 1) pa_nil)) (pe_one (g_cmpV (k_din (Nat.lt_of_le_of_lt (Nat.add_le_add_left (by decide : 1 ≤ 64) _) hr.units)) (gv 1) (k_fld K rfl (gv 0) rfl) (by with_unfolding_all rfl)))))), ?_⟩)
  unfold sp_Lot___contains__ at h
  split at h
  next a z =>
    obtain ⟨d, ps, l, hz, k⟩ := h
    walk_at "w"
    refine ⟨hz, fun H1 s1 => ?_⟩
    by_cases c : IsNm z
    · rw [decide_eq_true c]
      refine way_t ?_
      obtain ⟨dx, ha⟩ := l.o
      walk_at "w"
      refine ⟨_, dx, _, .ref d, s1 _ _ ha, tp.i_Lot.cl, tp.n_Lot_worths, rfl, ?_⟩
      refine ⟨_, s1 _ _ l.k, ?_⟩
      rw [valV_kvI, Option.isSome_map, look_isSome]
      exact k H1 s1
    · rw [decide_eq_false c]
      refine way_f ?_
      have z1 := k H1 s1
      rw [decide_eq_false (fun q => by
        obtain ⟨p, hp, e⟩ := List.mem_map.mp q
        exact c (e ▸ l.ok.nm p hp))] at z1
      exact z1
  next => exact h.elim
def sp_Lot___getitem__ (K : PySem.W.Frag) : Sp := fun vs H Q _ => match vs with
  | [.ref a, .str z] => ∃ d ps c, LotAt K H a d ps ∧ look ps z = some c ∧ ∀ H', Same H H' → Q (.int c) H'
  | _ => False
theorem ok_Lot___getitem__ (tp : Top K mg) : MtN P w K mg base 3 (CLo K) "__getitem__" [] (sp_Lot___getitem__ K) := by
  refine mt_by tp.m_Lot___getitem__ sc_Lot___getitem__ (fun vs H Q E h => by unfold sp_Lot___getitem__ at h; split at h <;> first | rfl | exact h.elim) (fun f cdv A outer s H vs Q E hr h => ⟨_, (pss_cons (ps_expr (g_call (ok_check_name tp) hr rfl (by omega) (pa_cons (gv 1) pa_nil))) (pss_cons (g_if (g_cmp (k_ndin (Nat.lt_of_le_of_lt (Nat.add_le_add_left (by decide : 1 ≤ 64) _) hr.units)) (gv 1) (k_fld K rfl (gv 0) rfl) (by with_unfolding_all rfl)) (pss_one ps_never) pss_nil) (pss_one (ps_ret (g_dget (Nat.lt_of_le_of_lt (Nat.add_le_add_left (by decide : 1 ≤ 64) _) hr.units) (k_fld K rfl (gv 0) rfl) (gv 1)))))), ?_⟩)
  unfold sp_Lot___getitem__ at h
  split at h
  next a z =>
    obtain ⟨d, ps, c, l, hc, k⟩ := h
    have nm : IsNm z := l.ok.nm _ (look_mem hc)
    walk_at "w"
    refine ⟨nm, fun H1 s1 => ?_⟩
    obtain ⟨dx, ha⟩ := l.o
    walk_at "w"
    refine ⟨_, dx, _, .ref d, s1 _ _ ha, tp.i_Lot.cl, tp.n_Lot_worths, rfl, ?_⟩
    refine ⟨_, s1 _ _ l.k, ?_⟩
    rw [valV_kvI, hc]
    refine way_f ?_
    walk_at "w"
    refine ⟨_, dx, _, .ref d, s1 _ _ ha, tp.i_Lot.cl, tp.n_Lot_worths, rfl, ?_⟩
    refine ⟨_, .int c, s1 _ _ l.k, by rw [valV_kvI, hc]; rfl, ?_⟩
    exact k H1 s1
  next => exact h.elim
def sp_Lot___eq__ (K : PySem.W.Frag) : Sp := fun vs H Q _ => match vs with
  | [.ref a, .ref b] => ∃ d ps e qs, LotAt K H a d ps ∧ LotAt K H b e qs ∧ ps.Perm qs ∧ Q (.bl true) H
  | _ => False
theorem ok_Lot___eq__ (tp : Top K mg) : MtN P w K mg base 1 (CLo K) "__eq__" [] (sp_Lot___eq__ K) := by
  refine mt_by tp.m_Lot___eq__ sc_Lot___eq__ (fun vs H Q E h => by unfold sp_Lot___eq__ at h; split at h <;> first | rfl | exact h.elim) (fun f cdv A outer s H vs Q E hr h => ⟨_, (pss_one (ps_ret (g_andV (pe_callB (k_isi K rfl) (by rfl) tp.b_isinstance (by decide +kernel) (pa_cons (gv 1) (pa_cons (pe_glob (v := .ref _) rfl tp.c_Lot rfl) pa_nil))) (pe_one (g_cmpV (op_eq_dictA (Nat.lt_of_le_of_lt (Nat.le_add_right _ 64) hr.units)) (k_fld K rfl (gv 0) rfl) (k_fld K rfl (gv 1) rfl) (nomark _)))))), ?_⟩)
  unfold sp_Lot___eq__ at h
  split at h
  next a b =>
    obtain ⟨d, ps, e, qs, l, m, pm, k⟩ := h
    obtain ⟨dx, ha⟩ := l.o
    obtain ⟨dy, hb⟩ := m.o
    walk_at "w"
    refine ⟨_, is_own hb tp.i_Lot tp.kit_Lot_Lot, way_t ?_⟩
    walk_at "w"
    refine ⟨_, dx, _, .ref d, ha, tp.i_Lot.cl, tp.n_Lot_worths, rfl, ?_⟩
    walk_at "w"
    refine ⟨_, dy, _, .ref e, hb, tp.i_Lot.cl, tp.n_Lot_worths, rfl, ?_⟩
    refine ⟨d, e, _, _, rfl, rfl, l.k, m.k, ?_, fun p hp => ?_, k⟩
    · unfold kvI; rw [List.length_map, List.length_map, pm.length_eq]
    · obtain ⟨x, hx, rfl⟩ := List.mem_map.mp hp
      refine ⟨?_, rfl⟩
      show valV (kvI qs) (.inr x.1) = some (.int x.2)
      rw [valV_kvI, ← look_perm pm l.ok.nd, look_of l.ok.nd hx]
      rfl
  next => exact h.elim
theorem kvI_getElem {ps : List (Str × Int)} {i : Nat} {k : Key} {v : V} (h : (kvI ps)[i]? = some (k, v)) : ∃ p, ps[i]? = some p ∧ k = .inr p.1 ∧ v = .int p.2 := by
  unfold kvI at h
  rw [List.getElem?_map] at h
  cases e : ps[i]? with
  | none => rw [e] at h; simp at h
  | some p => rw [e] at h; simp at h; exact ⟨p, rfl, h.1.symm, h.2.symm⟩
theorem kvI_len (ps : List (Str × Int)) : (kvI ps).length = ps.length := by unfold kvI; rw [List.length_map]
theorem flt_takeP {p : Str × Int → Bool} {l : List (Str × Int)} {i : Nat} {x : Str × Int} (h : l[i]? = some x) : (l.take (i + 1)).filter p = (l.take i).filter p ++ (if p x = true then [x] else []) := by
  rw [List.take_add_one, h, List.filter_append]
  show _ ++ [x].filter p = _
  rw [List.filter_cons, List.filter_nil]
def sp_Lot_pairs (K : PySem.W.Frag) : Sp := fun vs H Q _ => match vs with
  | [.ref a] => ∃ d ps, LotAt K H a d ps ∧ ∀ ys p H', H p = none → Same H H' → H' p = some (.lst ys) → PL H' (ps.mergeSort pLe) ys → Q (.ref p) H'
  | _ => False
theorem PL.unlock {H : Hp} {d : Addr} {od : Obj} {u o : HO} (hd : H d = some (.frz od u)) : ∀ {ps : List (Str × Int)} {vs : List V}, PL H ps vs → PL (upd H d o) ps vs
  | [], vs, h => h
  | p :: ps, vs, ⟨q, r, e, h1, h2⟩ => ⟨q, r, e, by rw [upd_ne (by rintro rfl; rw [hd] at h1; cases h1)]; exact h1, PL.unlock hd h2⟩
theorem ok_Lot_pairs (tp : Top K mg) : MtN P w K mg base 1 (CLo K) "pairs" [] (sp_Lot_pairs K) := by
  refine mt_by tp.m_Lot_pairs sc_Lot_pairs (fun vs H Q E h => by unfold sp_Lot_pairs at h; split at h <;> first | rfl | exact h.elim) (fun f cdv A outer s H vs Q E hr h => ⟨_, (pss_one (ps_ret (pe_callB (k_sortP K rfl hr.units) (by rfl) tp.b_sorted (by decide +kernel) (pa_cons (pe_lock (g_lcG rfl sc_Lot_pairs.nd (w_items (k_fld K rfl (gv 0) rfl)) (blkOk_by (own := [("name", 1), ("worth", 2)]) (N := (["self", "name", "worth"] : List Str)) (sc := defScope s_Lot_pairs) (by decide +kernel)) (fun _ _ _ _ _ => k_tg2 K rfl rfl (pg_name (i := 1) sc_Lot_pairs.nd rfl (by first | exact Or.inl rfl | exact Or.inr rfl)) (pg_name (i := 2) sc_Lot_pairs.nd rfl (by first | exact Or.inl rfl | exact Or.inr rfl))) (fun _ _ _ _ _ => pts_nil) (fun _ _ _ _ _ => (g_tup (pa_cons (gv 1) (pa_cons (gv 2) pa_nil)))))) pa_nil)))), ?_⟩)
  unfold sp_Lot_pairs at h
  split at h
  next a =>
    obtain ⟨d, ps, l, k⟩ := h
    obtain ⟨dx, ha⟩ := l.o
    have hd1 := l.k
    walk_at "w"
    refine ⟨d, _, hd1, trivial, fun od => ?_⟩
    walk_at "w"
    refine ⟨_, dx, _, .ref d, by rw [upd_ne l.ne]; exact ha, tp.i_Lot.cl, tp.n_Lot_worths, rfl, ?_⟩
    refine ⟨od, _, upd_same, ?_⟩
    refine compG_byS tg2_up walkS_items (fun i acc G => Same (upd H d (.frz od (.dK (kvI ps)))) G ∧ PL G (ps.take i) acc) (fun i acc G G' s f => ⟨f.1.trans s, f.2.mono s⟩) (by rw [kvI_len]; exact lt1000 l.ok.ln) ⟨Same.refl _, rfl⟩ (fun i acc H G _ f s => s _ _ (f.1 _ _ upd_same)) (fun D i x acc H' hi hx hD hDl ha' f => ?_) (fun D H' acc hD hDl ha' f => ?_)
    · obtain ⟨s3, pl⟩ := f
      obtain ⟨T, kk, vv, hk, rfl, hT⟩ := hx
      obtain ⟨pr, hpr, rfl, rfl⟩ := kvI_getElem hk
      refine tg2_of hT ⟨rfl, way_t ?_⟩
      walk_at "w"
      refine ⟨(by show 2 ≤ sizeLine; decide), fun p2 H2 f2 s2 e2 => ?_⟩
      have nD : p2 ≠ D := by rintro rfl; rw [hDl] at f2; cases f2
      refine ⟨s2 _ _ hDl, s3.trans (off_mono s2), ?_⟩
      rw [List.take_add_one, hpr]
      exact (pl.mono (off_mono s2)).app (PL.one (by rw [off_at nD]; exact e2))
    · obtain ⟨s3, pl⟩ := f
      rw [kvI_len, List.take_length] at pl
      have s4 : Same (upd H d (.frz od (.dK (kvI ps)))) H' := s3.trans off_same
      refine ⟨s4 _ _ upd_same, ?_⟩
      have s5 : Same H (upd H' d (.dK (kvI ps))) := unlock_same hd1 s4
      have nDd : D ≠ d := by rintro rfl; rw [upd_same] at hD; cases hD
      refine ⟨acc, ps, SqL.of (by rw [upd_ne nDd]; exact hDl), PL.unlock (s4 _ _ upd_same) (pl.mono off_same), l.ok.nd, fun ys p H6 f6 s6 e6 pl6 => ?_⟩
      exact k ys p H6 (free_back s5 f6) (s5.trans s6) e6 pl6
  next => exact h.elim
def sp_Lot_copy (K : PySem.W.Frag) : Sp := fun vs H Q _ => match vs with
  | [.ref a] => ∃ d ps, LotAt K H a d ps ∧ ∀ a' d' H', H a' = none → H d' = none → Same H H' → LotAt K H' a' d' (ps.mergeSort pLe) → Q (.ref a') H'
  | _ => False
theorem ok_Lot_copy (tp : Top K mg) : MtN P w K mg base 5 (CLo K) "copy" [] (sp_Lot_copy K) := by
  refine mt_by tp.m_Lot_copy sc_Lot_copy (fun vs H Q E h => by unfold sp_Lot_copy at h; split at h <;> first | rfl | exact h.elim) (fun f cdv A outer s H vs Q E hr h => ⟨_, (pss_one (ps_ret (g_make ((mk_Lot tp).1) hr rfl (by omega) (pa_cons (g_meth0 (ok_Lot_pairs tp) hr (by omega) (gv 0)) pa_nil)))), ?_⟩)
  unfold sp_Lot_copy at h
  split at h
  next a =>
    obtain ⟨d, ps, l, k⟩ := h
    obtain ⟨dx, ha⟩ := l.o
    walk_at "w"
    refine ⟨dx, _, ha, rfl, d, ps, l, fun ys p H1 f1 s1 e1 pl1 => ?_⟩
    refine ⟨_, ys, e1, pl1, l.ok.perm (List.mergeSort_perm _ _).symm, fun a' d' H2 f2 g2 s2 l2 => ?_⟩
    exact k a' d' H2 (free_back s1 f2) (free_back s1 g2) (s1.trans s2) l2
  next => exact h.elim
/-- a name's worth set, as a dict does it -/
def putP (ps : List (Str × Int)) (z : Str) (c : Int) : List (Str × Int) := if z ∈ ps.map (·.1) then ps.map (fun p => if p.1 = z then (z, c) else p) else ps ++ [(z, c)]
theorem putP_fst (ps : List (Str × Int)) (z : Str) (c : Int) : (putP ps z c).map (·.1) = if z ∈ ps.map (·.1) then ps.map (·.1) else ps.map (·.1) ++ [z] := by
  unfold putP
  split
  · rw [List.map_map]
    refine List.map_congr_left fun p _ => ?_
    show (if p.1 = z then (z, c) else p).1 = p.1
    split
    · rename_i e; exact e.symm
    · rfl
  · rw [List.map_append]; rfl
theorem kvI_putP (ps : List (Str × Int)) (z : Str) (c : Int) : putK (kvI ps) (.inr z) (.int c) = kvI (putP ps z c) := by
  unfold putP putK
  have e : ((kvI ps).any fun kv => decide (kv.1 = Sum.inr z)) = decide (z ∈ ps.map (·.1)) := by
    rw [Bool.eq_iff_iff, List.any_eq_true, decide_eq_true_eq, List.mem_map]
    constructor
    · rintro ⟨x, hx, q⟩
      unfold kvI at hx
      obtain ⟨p, hp, rfl⟩ := List.mem_map.mp hx
      exact ⟨p, hp, Sum.inr.inj (of_decide_eq_true q)⟩
    · rintro ⟨p, hp, rfl⟩
      exact ⟨_, List.mem_map.mpr ⟨p, hp, rfl⟩, decide_eq_true rfl⟩
  rw [e]
  by_cases h : z ∈ ps.map (·.1)
  · rw [if_pos (decide_eq_true h), if_pos h]
    unfold kvI
    rw [List.map_map, List.map_map]
    refine List.map_congr_left fun p _ => ?_
    show (if (Sum.inr p.1 : Key) = Sum.inr z then ((Sum.inr p.1 : Key), V.int c) else (Sum.inr p.1, V.int p.2)) = _
    by_cases q : p.1 = z
    · rw [if_pos (by rw [q])]
      show _ = (Sum.inr (if p.1 = z then (z, c) else p).1, V.int (if p.1 = z then (z, c) else p).2)
      rw [if_pos q, q]
    · rw [if_neg (fun w => q (Sum.inr.inj w))]
      show _ = (Sum.inr (if p.1 = z then (z, c) else p).1, V.int (if p.1 = z then (z, c) else p).2)
      rw [if_neg q]
  · rw [if_neg (by simpa using h), if_neg h]
    unfold kvI
    rw [List.map_append]; rfl
theorem putP_ok {ps : List (Str × Int)} {z : Str} {c : Int} (ok : PsOk ps) (nm : IsNm z) (ln : ps.length < 1000) : PsOk (putP ps z c) := by
  have e := putP_fst ps z c
  refine ⟨?_, fun x hx => ?_, ?_⟩
  · rw [e]
    split
    · exact ok.nd
    · rename_i h
      rw [List.nodup_append]
      exact ⟨ok.nd, by simp, fun x hx y hy q => h ((q.trans (by simpa using hy)) ▸ hx)⟩
  · have : x.1 ∈ (putP ps z c).map (·.1) := List.mem_map.mpr ⟨x, hx, rfl⟩
    rw [e] at this
    split at this
    · obtain ⟨y, hy, q⟩ := List.mem_map.mp this
      rw [← q]; exact ok.nm y hy
    · rcases List.mem_append.mp this with q | q
      · obtain ⟨y, hy, q⟩ := List.mem_map.mp q
        rw [← q]; exact ok.nm y hy
      · rw [List.mem_singleton.mp q]; exact nm
  · have l : ((putP ps z c).map (·.1)).length ≤ ps.length + 1 := by
      rw [e]
      split
      · rw [List.length_map]; omega
      · rw [List.length_append, List.length_map]; exact Nat.le_refl _
    rw [List.length_map] at l
    omega
theorem look_putP {ps : List (Str × Int)} {z : Str} {c : Int} (ok : PsOk ps) (nm : IsNm z) (ln : ps.length < 1000) (y : Str) : look (putP ps z c) y = if y = z then some c else look ps y := by
  have e : valV (kvI (putP ps z c)) (.inr y) = if (Sum.inr y : Key) = Sum.inr z then some (.int c) else valV (kvI ps) (.inr y) := by
    rw [← kvI_putP, valV_put]
  rw [valV_kvI, valV_kvI] at e
  by_cases q : y = z
  · rw [if_pos q]
    rw [if_pos (by rw [q])] at e
    cases hl : look (putP ps z c) y with
    | none => rw [hl] at e; cases e
    | some v => rw [hl] at e; cases e; rfl
  · rw [if_neg q]
    rw [if_neg (fun w => q (Sum.inr.inj w))] at e
    cases hl : look (putP ps z c) y with
    | none => rw [hl] at e; cases h2 : look ps y with
      | none => rfl
      | some v => rw [h2] at e; cases e
    | some v => rw [hl] at e; cases h2 : look ps y with
      | none => rw [h2] at e; cases e
      | some v2 => rw [h2] at e; cases e; rfl
def sp_Lot___setitem__ (K : PySem.W.Frag) : Sp := fun vs H Q _ => match vs with
  | [.ref a, .str z, .int c] => ∃ d ps, LotAt K H a d ps ∧ IsNm z ∧ ps.length < 1000 ∧ ∀ H', SameX d H H' → LotAt K H' a d (putP ps z c) → Q .non H'
  | _ => False
theorem ok_Lot___setitem__ (tp : Top K mg) : MtN P w K mg base 3 (CLo K) "__setitem__" [] (sp_Lot___setitem__ K) := by
  refine mt_by tp.m_Lot___setitem__ sc_Lot___setitem__ (fun vs H Q E h => by unfold sp_Lot___setitem__ at h; split at h <;> first | rfl | exact h.elim) (fun f cdv A outer s H vs Q E hr h => ⟨_, (pss_cons (ps_expr (g_call (ok_check_name tp) hr rfl (by omega) (pa_cons (gv 1) pa_nil))) (pss_cons (ps_expr (g_call (ok_check_whole tp) hr rfl (by omega) (pa_cons (gv 2) pa_nil))) (pss_one (ps_asg (gv 2) (pg_sub (k_fld K rfl (gv 0) rfl) (gv 1) (s_dict (Nat.lt_of_le_of_lt (Nat.add_le_add_left (by decide : 1 ≤ 64) _) hr.units))))))), ?_⟩)
  unfold sp_Lot___setitem__ at h
  split at h
  next a z c =>
    obtain ⟨d, ps, l, nm, ln, k⟩ := h
    walk_at "w"
    refine ⟨nm, fun H1 s1 => ?_⟩
    have l1 := l.mono s1
    obtain ⟨dx, ha1⟩ := l1.o
    walk_at "w"
    refine ⟨_, dx, _, .ref d, ha1, tp.i_Lot.cl, tp.n_Lot_worths, rfl, ?_⟩
    walk_at "w"
    refine ⟨kvI ps, l1.k, by unfold kvI; rw [List.length_map]; exact lt1000 (by omega), fun H5 s5 e5 => ?_⟩
    rw [kvI_putP] at e5
    exact k H5 ((SameX.of s1).trans s5) ⟨⟨dx, s5 _ _ l1.ne ha1⟩, e5, putP_ok l.ok nm ln⟩
  next => exact h.elim
def sp_check_tree (K : PySem.W.Frag) : Sp := fun vs H Q _ => match vs with
  | [v] => ∃ t, MTk K H t v ∧ Q .non H
  | _ => False
theorem ok_check_tree (tp : Top K mg) : FnN P w K mg base 1 "check_tree" [] (sp_check_tree K) := by
  refine fn_by tp.f_check_tree sc_check_tree (fun vs H Q E h => by unfold sp_check_tree at h; split at h <;> first | rfl | exact h.elim) (fun f cdv A outer s H vs Q E hr h => ⟨_, (pss_one (g_if (pt_not (g_val (pe_callB (k_isi K rfl) (by rfl) tp.b_isinstance (by decide +kernel) (pa_cons (gv 0) (pa_cons (pe_glob (v := .ref _) rfl tp.c_Tree rfl) pa_nil))))) (pss_one ps_never) pss_nil)), ?_⟩)
  unfold sp_check_tree at h
  split at h
  next v =>
    obtain ⟨t, m, q⟩ := h
    walk_at "w"
    exact ⟨_, is_tree tp m, way_f q⟩
  next => exact h.elim
def sp_check_lot (K : PySem.W.Frag) : Sp := fun vs H Q _ => match vs with
  | [.ref a] => (∃ d ps, LotAt K H a d ps) ∧ Q .non H
  | _ => False
theorem ok_check_lot (tp : Top K mg) : FnN P w K mg base 1 "check_lot" [] (sp_check_lot K) := by
  refine fn_by tp.f_check_lot sc_check_lot (fun vs H Q E h => by unfold sp_check_lot at h; split at h <;> first | rfl | exact h.elim) (fun f cdv A outer s H vs Q E hr h => ⟨_, (pss_one (g_if (pt_not (g_val (pe_callB (k_isi K rfl) (by rfl) tp.b_isinstance (by decide +kernel) (pa_cons (gv 0) (pa_cons (pe_glob (v := .ref _) rfl tp.c_Lot rfl) pa_nil))))) (pss_one ps_never) pss_nil)), ?_⟩)
  unfold sp_check_lot at h
  split at h
  next a =>
    obtain ⟨⟨d, ps, l⟩, q⟩ := h
    obtain ⟨dx, ha⟩ := l.o
    walk_at "w"
    exact ⟨_, is_own ha tp.i_Lot tp.kit_Lot_Lot, way_f q⟩
  next => exact h.elim
def sp_check_end (K : PySem.W.Frag) : Sp := fun vs H Q _ => match vs with
  | [v, .int j] => ∃ t, MTk K H t v ∧ 1 ≤ j ∧ j ≤ t.width ∧ Q .non H
  | _ => False
theorem ok_check_end (tp : Top K mg) : FnN P w K mg base 3 "check_end" [] (sp_check_end K) := by
  refine fn_by tp.f_check_end sc_check_end (fun vs H Q E h => by unfold sp_check_end at h; split at h <;> first | rfl | exact h.elim) (fun f cdv A outer s H vs Q E hr h => ⟨_, (pss_one (ps_expr (g_call (ok_check_within tp) hr rfl (by omega) (pa_cons (gv 1) (pa_cons pe_int (pa_cons (PEor (g_prop (ok_Leaf_width tp) hr (by omega) (gv 0) rfl) (g_prop (ok_Group_width tp) hr (by omega) (gv 0) rfl)) pa_nil)))))), ?_⟩)
  unfold sp_check_end at h
  split at h
  next v j =>
    obtain ⟨t, m, h1, h2, q⟩ := h
    walk_at "w"
    refine rd_width (i := 0) rfl m ?_
    exact ⟨h1, h2, q⟩
  next => exact h.elim
theorem map_atS {α : Type} {f : α → V} {l : List α} {i : Nat} {x : V} (h : (l.map f)[i]? = some x) : ∃ a, l[i]? = some a ∧ x = f a := by
  rw [List.getElem?_map] at h
  cases e : l[i]? with
  | none => rw [e] at h; cases h
  | some a => rw [e] at h; exact ⟨a, rfl, (Option.some.inj h).symm⟩
theorem sh_nm : ∀ {t : T}, t.Sh → ∀ z ∈ t.names, IsNm z := by
  have key : ∀ n (t : T), sizeOf t ≤ n → t.Sh → ∀ z ∈ t.names, IsNm z := by
    intro n
    induction n with
    | zero => intro t h; cases t <;> simp at h
    | succ n ih =>
      intro t h sh z hz
      cases t with
      | leaf y =>
        obtain rfl : z = y := by simpa [T.names] using hz
        exact sh
      | grp rk ps =>
        rw [T.Sh] at sh
        rw [T.names] at hz
        obtain ⟨u, hu, hzu⟩ := T.mem_namesL.mp hz
        have : sizeOf u < sizeOf (T.grp rk ps) := by
          have := List.sizeOf_lt_of_mem hu
          simp only [T.grp.sizeOf_spec]; omega
        exact ih u (by omega) (T.ShL_iff.mp sh.2.2 u hu) z hzu
  exact fun {t} => key _ t (Nat.le_refl _)
def sp_check_full (K : PySem.W.Frag) : Sp := fun vs H Q _ => match vs with
  | [v, .ref a] => ∃ t d ps, MTk K H t v ∧ t.Gd ∧ LotAt K H a d ps ∧ (∀ z ∈ t.names, z ∈ ps.map (·.1)) ∧ ∀ H', Same H H' → Q .non H'
  | _ => False
theorem ok_check_full (tp : Top K mg) : FnN P w K mg base 48 "check_full" [] (sp_check_full K) := by
  refine fn_by tp.f_check_full sc_check_full (fun vs H Q E h => by unfold sp_check_full at h; split at h <;> first | rfl | exact h.elim) (fun f cdv A outer s H vs Q E hr h => ⟨_, (pss_one (g_for PassesOwn.never rfl (kw_list K rfl (PEor (g_meth0 (ok_Leaf_names tp) hr (by omega) (gv 0)) (g_meth0 (ok_Group_names tp 45) hr (by omega) (gv 0)))) (pg_name (i := 2) sc_check_full.nd rfl (by first | exact Or.inl rfl | exact Or.inr rfl)) (pss_one (g_if (g_cmp (op_ninO ((ok_Lot___contains__ tp).sp') (hr.mono (by omega))) (gv 2) (gv 1) (by with_unfolding_all rfl)) (pss_one ps_never) pss_nil)))), ?_⟩)
  unfold sp_check_full at h
  split at h
  next v a =>
    obtain ⟨t, d, ps, m, g, l, hall, k⟩ := h
    walk_at "w"
    refine rd_names (i := 0) (n := 45) rfl m g.dp g.sz fun p H1 f1 s1 e1 => ?_
    refine forw_list (xs := t.names.map V.str) (fun i σ G => ∃ v2, σ = [some v, some (.ref a), v2] ∧ Same H1 G) ⟨none, rfl, Same.refl _⟩ (fun i σ G _ ⟨_, _, sG⟩ => SqL.of (sG _ _ e1)) ?_ ?_
    · rintro i x σ G hx ⟨v2, rfl, sG⟩
      obtain ⟨z, hz, rfl⟩ := map_atS hx
      have hm := List.mem_of_getElem? hz
      have lG := l.mono (s1.trans sG)
      obtain ⟨dx, ha⟩ := lG.o
      walk_at "w"
      refine ⟨dx, _, ha, d, ps, lG, IsNm.le1000 (sh_nm g.sh z hm), fun G2 s2 => ?_⟩
      refine ⟨_, rfl, ?_⟩
      rw [decide_eq_true (hall z hm)]
      refine way_f ?_
      exact ⟨_, rfl, sG.trans s2⟩
    · rintro σ G ⟨v2, rfl, sG⟩
      exact k G (s1.trans sG)
  next => exact h.elim
def sp_check_partial (K : PySem.W.Frag) : Sp := fun vs H Q _ => match vs with
  | [v, .ref a, .int j] => ∃ t, MTk K H t v ∧ (∃ d ps, LotAt K H a d ps) ∧ 1 ≤ j ∧ j ≤ t.width ∧ Q .non H
  | _ => False
theorem ok_check_partial (tp : Top K mg) : FnN P w K mg base 49 "check_partial" [] (sp_check_partial K) := by
  refine fn_by tp.f_check_partial sc_check_partial (fun vs H Q E h => by unfold sp_check_partial at h; split at h <;> first | rfl | exact h.elim) (fun f cdv A outer s H vs Q E hr h => ⟨_, (pss_cons (ps_expr (g_call (ok_check_tree tp) hr rfl (by omega) (pa_cons (gv 0) pa_nil))) (pss_cons (ps_expr (g_call (ok_check_lot tp) hr rfl (by omega) (pa_cons (gv 1) pa_nil))) (pss_one (ps_expr (g_call (ok_check_end tp) hr rfl (by omega) (pa_cons (gv 0) (pa_cons (gv 2) pa_nil))))))), ?_⟩)
  unfold sp_check_partial at h
  split at h
  next v a j =>
    obtain ⟨t, m, l, h1, h2, q⟩ := h
    walk_at "w"
    refine ⟨t, m, ?_⟩
    walk_at "w"
    refine ⟨l, ?_⟩
    walk_at "w"
    exact ⟨t, m, h1, h2, q⟩
  next => exact h.elim
end LW
namespace LW
open PySem PySem.Spec L2 GG
variable {P : Program} {w : World} {K : PySem.W.Frag} {mg : Str → Option Value} {base : Heap}
theorem inV_strS (n : Str) (S : List Str) : inV (.str n) (S.map V.str) = decide (n ∈ S) := by
  induction S with
  | nil => rfl
  | cons a S ih =>
    unfold inV at ih ⊢
    rw [List.map_cons, List.any_cons, ih]
    by_cases h : n = a
    · subst h; simp [eqV]
    · have : ¬ a = n := fun q => h q.symm
      simp [eqV, h, this]
theorem inV_intS (n : Int) (S : List Int) : inV (.int n) (S.map V.int) = decide (n ∈ S) := by
  induction S with
  | nil => rfl
  | cons a S ih =>
    unfold inV at ih ⊢
    rw [List.map_cons, List.any_cons, ih]
    by_cases h : n = a
    · subst h; simp [eqV]
    · have : ¬ a = n := fun q => h q.symm
      simp [eqV, h, this]
theorem flat_strsS (S : List Str) : (S.map V.str).all flatV = true := by
  rw [List.all_eq_true]
  intro v hv
  obtain ⟨z, _, rfl⟩ := List.mem_map.mp hv
  rfl
theorem flat_intsS (S : List Int) : (S.map V.int).all flatV = true := by
  rw [List.all_eq_true]
  intro v hv
  obtain ⟨z, _, rfl⟩ := List.mem_map.mp hv
  rfl
theorem lowL_sumS (S : List Str) : ∀ ts : List T, (ts.map fun t => (t.low S : Int)).sum = (T.lowL S ts : Int)
  | [] => rfl
  | t :: ts => by rw [List.map_cons, List.sum_cons, lowL_sumS S ts, T.lowL]; omega
theorem filt_takeS {α : Type} {p : α → Bool} {l : List α} {i : Nat} {x : α} (h : l[i]? = some x) : (l.take (i + 1)).filter p = (l.take i).filter p ++ (if p x = true then [x] else []) := by
  rw [List.take_add_one, h, List.filter_append]
  show _ ++ [x].filter p = _
  rw [List.filter_cons, List.filter_nil]
def sp_Leaf___contains__ (K : PySem.W.Frag) : Sp := fun vs H Q _ => match vs with
  | [v, .str z] => ∃ n, MTk K H (.leaf n) v ∧ Q (.bl (decide (z = n))) H
  | _ => False
theorem ok_Leaf___contains__ (tp : Top K mg) : MtN P w K mg base 1 (CLf K) "__contains__" [] (sp_Leaf___contains__ K) := by
  refine mt_by tp.m_Leaf___contains__ sc_Leaf___contains__ (fun vs H Q E h => by unfold sp_Leaf___contains__ at h; split at h <;> first | rfl | exact h.elim) (fun f cdv A outer s H vs Q E hr h => ⟨_, (pss_one (ps_ret (g_andV (pe_callB (k_isi K rfl) (by rfl) tp.b_isinstance (by decide +kernel) (pa_cons (gv 1) (pa_cons (pe_bltn (v := .ty "str") rfl tp.b_str (by decide +kernel) rfl) pa_nil))) (pe_one (g_cmpV (k_eqG K rfl hr.units) (gv 1) (k_fld K rfl (gv 0) rfl) (nomark _)))))), ?_⟩)
  unfold sp_Leaf___contains__ at h
  split at h
  next v z =>
    obtain ⟨n, ⟨a, dx, rfl, h1⟩, q⟩ := h
    walk_at "w"
    refine ⟨_, is_ss, way_t ?_⟩
    walk_at "w"
    exact ⟨_, dx, _, .str n, h1, tp.i_Leaf.cl, tp.n_Leaf_label, rfl, q⟩
  next => exact h.elim
def sp_Group___contains__ (K : PySem.W.Frag) : Sp := fun vs H Q _ => match vs with
  | [v, .str z] => ∃ rk ps, MTk K H (.grp rk ps) v ∧ T.depthL ps < 45 ∧ (T.namesL ps).length ≤ 1000 ∧ ∀ H', Same H H' → Q (.bl (decide (z ∈ T.namesL ps))) H'
  | _ => False
theorem ok_Group___contains__ (tp : Top K mg) : MtN P w K mg base 47 (CGf K) "__contains__" [] (sp_Group___contains__ K) := by
  refine mt_by tp.m_Group___contains__ sc_Group___contains__ (fun vs H Q E h => by unfold sp_Group___contains__ at h; split at h <;> first | rfl | exact h.elim) (fun f cdv A outer s H vs Q E hr h => ⟨_, (pss_one (ps_ret (g_andV (pe_callB (k_isi K rfl) (by rfl) tp.b_isinstance (by decide +kernel) (pa_cons (gv 1) (pa_cons (pe_bltn (v := .ty "str") rfl tp.b_str (by decide +kernel) rfl) pa_nil))) (pe_one (g_cmpV (k_inG K rfl) (gv 1) (g_meth0 (ok_Group_names tp 45) hr (by omega) (gv 0)) (by with_unfolding_all rfl)))))), ?_⟩)
  unfold sp_Group___contains__ at h
  split at h
  next v z =>
    obtain ⟨rk, ps, m, hd, hz, k⟩ := h
    have m' := m
    obtain ⟨a, dx, p, r, us, rfl, h1, _⟩ := m
    walk_at "w"
    refine ⟨_, is_ss, way_t ?_⟩
    walk_at "w"
    refine ⟨dx, _, h1, rfl, rk, ps, m', hd, hz, fun p2 H2 f2 s2 e2 => ?_⟩
    refine ⟨_, Or.inl (SqL.of e2), rfl, flat_strsS _, ?_⟩
    rw [inV_strS]
    exact k H2 s2
  next => exact h.elim
/-- name in part -/
theorem rd_in {K : PySem.W.Frag} {f : Bool → Bool} {H : Hp} {Q : VK} {t : T} {v : V} {z : Str} (m : MTk K H t v) (g : t.Gd) (q : ∀ H', Same H H' → Q (.bl (f (decide (z ∈ t.names)))) H') :
    rInO (CLf K) (sp_Leaf___contains__ K) f (.str z) v H Q ∨ rInO (CGf K) (sp_Group___contains__ K) f (.str z) v H Q := by
  cases t with
  | leaf n =>
    have m' := m
    obtain ⟨a, dx, rfl, h⟩ := m
    left
    have z1 := q H (Same.refl _)
    rw [show decide (z ∈ (T.leaf n).names) = decide (z = n) from decide_eq_decide.mpr (by rw [T.names, List.mem_singleton])] at z1
    exact ⟨dx, _, h, n, m', _, rfl, z1⟩
  | grp rk ps =>
    have m' := m
    obtain ⟨a, dx, p, r, us, rfl, h, _⟩ := m
    obtain ⟨ok, _, _⟩ := g.pts
    right
    exact ⟨dx, _, h, rk, ps, m', ok.dp, ok.sz, fun H' s => ⟨_, rfl, q H' s⟩⟩
def sp_Leaf_low_ends (K : PySem.W.Frag) : Sp := fun vs H Q _ => match vs with
  | [v, .ref q] => ∃ z S, MTk K H (.leaf z) v ∧ H q = some (.lst (S.map V.str)) ∧ Q (.int ((T.leaf z).low S)) H
  | _ => False
theorem ok_Leaf_low_ends (tp : Top K mg) : MtN P w K mg base 1 (CLf K) "low_ends" [] (sp_Leaf_low_ends K) := by
  refine mt_by tp.m_Leaf_low_ends sc_Leaf_low_ends (fun vs H Q E h => by unfold sp_Leaf_low_ends at h; split at h <;> first | rfl | exact h.elim) (fun f cdv A outer s H vs Q E hr h => ⟨_, (pss_one (ps_ret (pe_callTy c_int (by rfl) tp.b_int (by decide +kernel) (pa_cons (g_cmpV (k_inG K rfl) (k_fld K rfl (gv 0) rfl) (gv 1) (by with_unfolding_all rfl)) pa_nil)))), ?_⟩)
  unfold sp_Leaf_low_ends at h
  split at h
  next v q =>
    obtain ⟨z, S, ⟨a, dx, rfl, h1⟩, hq, k⟩ := h
    walk_at "w"
    refine ⟨_, dx, _, .str z, h1, tp.i_Leaf.cl, tp.n_Leaf_label, rfl, ?_⟩
    refine ⟨_, Or.inl (SqL.of hq), rfl, flat_strsS S, ?_⟩
    rw [inV_strS]
    rw [T.low] at k
    walk_at "w"
    by_cases hm : z ∈ S
    · rw [if_pos hm] at k
      rw [decide_eq_true hm]; exact k
    · rw [if_neg hm] at k
      rw [decide_eq_false hm]; exact k
  next => exact h.elim
def sp_Group_low_ends (K : PySem.W.Frag) (n : Nat) : Sp := fun vs H Q _ => match vs with
  | [v, .ref q] => ∃ rk ps S, MTk K H (.grp rk ps) v ∧ (T.grp rk ps).Gd ∧ T.depthL ps < n ∧ H q = some (.lst (S.map V.str)) ∧ ∀ H', Same H H' → Q (.int ((T.grp rk ps).low S)) H'
  | _ => False
/-- what low_ends is asked of a tree -/
def spLow (K : PySem.W.Frag) (t : T) (v : V) : List V → Hp → VK → Prop := fun vs H Q => match vs with
  | [.ref q] => ∃ S, MTk K H t v ∧ H q = some (.lst (S.map V.str)) ∧ ∀ H', Same H H' → Q (.int (t.low S)) H'
  | _ => False
theorem rd_low {K : PySem.W.Frag} {i n : Nat} {σ : L2.St} {H : Hp} {Q : VK} {t : T} {v : V} {ta : TA} (hi : σ[i]? = some (some v)) (m : MTk K H t v) (hd : t.depth ≤ n) (g : t.Gd) (q : ta σ H fun vs H2 => spLow K t v vs H2 Q) :
    gMeth (CLf K) "low_ends" (sp_Leaf_low_ends K) [] (gVar i) (mcA ta) σ H Q ∨ gMeth (CGf K) "low_ends" (sp_Group_low_ends K n) [] (gVar i) (mcA ta) σ H Q := by
  cases t with
  | leaf z =>
    obtain ⟨a, dx, rfl, h⟩ := m
    left; unfold gMeth gVar; rw [hi]
    refine ⟨dx, _, h, rfl, _, fun vs H2 r => ?_, q⟩
    unfold spLow at r
    split at r
    next q' =>
      obtain ⟨S, m, hq, k⟩ := r
      exact ⟨z, S, m, hq, k H2 (Same.refl _)⟩
    next => exact r.elim
  | grp rk ps =>
    obtain ⟨a, dx, p, r, us, rfl, h, _⟩ := m
    right; unfold gMeth gVar; rw [hi]
    rw [T.depth] at hd
    refine ⟨dx, _, h, rfl, _, fun vs H2 r => ?_, q⟩
    unfold spLow at r
    split at r
    next q' =>
      obtain ⟨S, m, hq, k⟩ := r
      exact ⟨rk, ps, S, m, g, by omega, hq, k⟩
    next => exact r.elim
theorem ok_Group_low_ends (tp : Top K mg) : ∀ n, MtN P w K mg base (n + 2) (CGf K) "low_ends" [] (sp_Group_low_ends K n)
  | 0 => by
    refine mt_by tp.m_Group_low_ends sc_Group_low_ends (fun vs H Q E h => by unfold sp_Group_low_ends at h; split at h <;> first | rfl | exact h.elim) (fun f cdv A outer s H vs Q E hr h => ?_)
    exfalso
    unfold sp_Group_low_ends at h
    split at h
    next v q => obtain ⟨rk, ps, S, _, _, h, _⟩ := h; omega
    next => exact h
  | n + 1 => by
    have ih := ok_Group_low_ends tp n
    have okL : MtN P w K mg base (n + 2) (CLf K) "low_ends" [] (sp_Leaf_low_ends K) := (ok_Leaf_low_ends tp).up (by omega)
    refine mt_by tp.m_Group_low_ends sc_Group_low_ends (fun vs H Q E h => by unfold sp_Group_low_ends at h; split at h <;> first | rfl | exact h.elim) (fun f cdv A outer s H vs Q E hr h => ⟨_, (pss_cons (ps_set (i := 2) sc_Group_low_ends.nd rfl (by first | exact Or.inl rfl | exact Or.inr rfl) (pe_callB (k_sum K rfl rfl) (by rfl) tp.b_sum (by decide +kernel) (pa_cons (g_lc rfl sc_Group_low_ends.nd (kw_tup K rfl (k_fld K rfl (gv 0) rfl)) (blkOk_by (own := [("part", 3)]) (N := (["self", "low", "total", "part", "rank"] : List Str)) (sc := defScope s_Group_low_ends) (by decide +kernel)) (fun _ _ _ _ _ => pg_name (i := 3) sc_Group_low_ends.nd rfl (by first | exact Or.inl rfl | exact Or.inr rfl)) (fun _ _ _ _ _ => pts_nil) (fun _ _ _ _ _ => (PEor (g_meth (okL) hr (by omega) (gv 3) (PAm (pa_cons (gv 1) pa_nil))) (g_meth (ih) hr (by omega) (gv 3) (PAm (pa_cons (gv 1) pa_nil)))))) pa_nil))) (pss_one (ps_ret (pe_callB (k_len K rfl) (by rfl) tp.b_len (by decide +kernel) (pa_cons (g_lc rfl sc_Group_low_ends.nd (kw_tup K rfl (k_fld K rfl (gv 0) rfl)) (blkOk_by (own := [("rank", 4)]) (N := (["self", "low", "total", "part", "rank"] : List Str)) (sc := defScope s_Group_low_ends) (by decide +kernel)) (fun _ _ _ _ _ => pg_name (i := 4) sc_Group_low_ends.nd rfl (by first | exact Or.inl rfl | exact Or.inr rfl)) (fun _ _ _ _ _ => (pts_one (g_cmp op_leG (gv 4) (gv 2) (nomark _)))) (fun _ _ _ _ _ => (gv 4))) pa_nil))))), ?_⟩)
    unfold sp_Group_low_ends at h
    split at h
    next v q =>
      obtain ⟨rk, ps, S, m, g, hd, hq, k⟩ := h
      obtain ⟨a, dx, p, r, us, rfl, h1, h2, h3, h4⟩ := m
      have hus := h4.length
      obtain ⟨ok, rok, hrl⟩ := g.pts
      walk_at "w"
      refine ⟨_, dx, _, .ref r, h1, tp.i_Group.cl, tp.n_Group_rows, rfl, ?_⟩
      walk_at "w"
      refine comp_tup (xs := us) (fun i acc G => Same H G ∧ acc = (ps.take i).map fun t => V.int (t.low S)) (by rw [hus]; exact lt1000 ok.ln) ⟨Same.refl _, rfl⟩ (fun i acc G f => SqT.of (f.1 _ _ h3)) (fun D i x acc H' hx hD hDl hq' f => ⟨rfl, ?_⟩) (fun D H' acc hD hDl hq' f => ?_)
      · obtain ⟨s1, rfl⟩ := f
        have s2 := s1.trans off_same
        obtain ⟨t, ht, mt⟩ := (h4.mono s2).at_ hx
        have hm := List.mem_of_getElem? ht
        have hdt := T.depthL_le hm
        refine way_t ?_
        refine rd_low (i := 3) rfl mt (by omega) (g.part hm) ?_
        walk_at "w"
        refine ⟨S, mt, s2 _ _ hq, fun H4 s4 => ?_⟩
        refine ⟨s4 _ _ hDl, s1.trans (off_mono s4), ?_⟩
        rw [List.take_add_one, ht, List.map_append]
        rfl
      · obtain ⟨s1, rfl⟩ := f
        rw [hus, List.take_length] at hDl
        have s2 : Same H H' := s1.trans off_same
        walk_at "w"
        refine ⟨ps.map fun t => (t.low S : Int), SqL.of (by rw [List.map_map]; exact hDl), ?_⟩
        rw [lowL_sumS]
        walk_at "w"
        refine ⟨_, dx, _, .ref p, s2 _ _ h1, tp.i_Group.cl, tp.n_Group_picks, rfl, ?_⟩
        walk_at "w"
        refine comp_tup (xs := rk.map V.int) (fun i acc G => Same H' G ∧ acc = ((rk.take i).filter fun d => decide (d ≤ (T.lowL S ps : Int))).map V.int) (by rw [List.length_map]; exact lt1000 hrl) ⟨Same.refl _, rfl⟩ (fun i acc G f => SqT.of (f.1 _ _ (s2 _ _ h2))) (fun D i x acc H3 hx hD hDl hq3 f => ⟨rfl, ?_⟩) (fun D H3 acc hD hDl hq3 f => ?_)
        · obtain ⟨s3, rfl⟩ := f
          obtain ⟨r0, hr0, rfl⟩ := map_at hx
          have e := filt_takeS (p := fun d => decide (d ≤ (T.lowL S ps : Int))) hr0
          walk_at "w"
          refine way_d (fun c => ?_) fun c => ?_
          · refine ⟨hDl, s3, ?_⟩
            rw [e, if_pos (decide_eq_true c), List.map_append]
            rfl
          · refine ⟨hDl, s3, ?_⟩
            rw [e, if_neg (by simpa using c), List.append_nil]
        · obtain ⟨s3, rfl⟩ := f
          rw [List.length_map, List.take_length] at hDl
          walk_at "w"
          refine ⟨_, Or.inl (SqL.of hDl), ?_⟩
          rw [List.length_map]
          have z1 := k H3 (s2.trans (s3.trans off_same))
          rw [T.low] at z1
          exact z1
    next => exact h.elim
def sp_swings (K : PySem.W.Frag) (n : Nat) : Sp := fun vs H Q _ => match vs with
  | [v, .str z, .ref lq, .ref fq] => ∃ t L F, MTk K H t v ∧ t.Gd ∧ t.depth < n ∧ z ∈ t.names ∧ H lq = some (.lst (L.map V.str)) ∧ H fq = some (.lst (F.map V.str)) ∧ L.length + F.length ≤ 1000 ∧ t.names.length ≤ 60 ∧
    ∀ (ns : List Int) p H', ns.Pairwise (· < ·) → (∀ k, k ∈ ns ↔ t.SW z L F k) → H p = none → Same H H' → H' p = some (.lst (ns.map V.int)) → Q (.ref p) H'
  | _ => False
theorem SWL_snoc {n : Str} {L F : List Str} {k : Int} {as : List T} {p : T} : T.SWL n L F (as ++ [p]) k ↔ T.SWL n L F as k ∨ (n ∈ p.names ∧ p.SW n L F k) := by
  rw [T.SWL_iff, T.SWL_iff]
  simp only [List.mem_append, List.mem_singleton]
  constructor
  · rintro ⟨q, h | h, a, b⟩
    · exact .inl ⟨q, h, a, b⟩
    · subst h; exact .inr ⟨a, b⟩
  · rintro (⟨q, h, a, b⟩ | ⟨a, b⟩)
    · exact ⟨q, .inl h, a, b⟩
    · exact ⟨p, .inr rfl, a, b⟩
theorem others_snoc {n : Str} {as : List T} {p : T} : T.others n (as ++ [p]) = T.others n as ++ (if n ∈ p.names then [] else [p]) := by
  unfold T.others
  rw [List.filter_append, List.filter_cons, List.filter_nil]
  by_cases h : n ∈ p.names <;> simp [h]
theorem not_before {n : Str} {ps : List T} {i : Nat} {p : T} (nd : (T.namesL ps).Nodup) (hp : ps[i]? = some p) (hn : n ∈ p.names) : n ∉ T.namesL (ps.take i) := by
  have e : ps = ps.take i ++ p :: ps.drop (i + 1) := by
    obtain ⟨hi, e⟩ := List.getElem?_eq_some_iff.mp hp
    rw [← e, List.getElem_cons_drop, List.take_append_drop]
  rw [e, T.namesL_append, T.namesL, List.nodup_append] at nd
  intro q
  exact nd.2.2 _ q _ (List.mem_append_left _ hn) rfl
theorem SW_le {n : Str} {L F : List Str} {k : Int} {t : T} (h : t.SW n L F k) : 0 ≤ k ∧ k ≤ t.width := by
  cases t with
  | leaf z =>
    rw [T.SW] at h
    subst h
    exact ⟨Int.le_refl _, by show (0 : Int) ≤ (1 : Nat); omega⟩
  | grp rk ps =>
    rw [T.SW] at h
    obtain ⟨num, more, _, _, _, _, rfl⟩ := h
    have := List.length_filter_le (fun r => decide (r ≤ num + more)) rk
    rw [T.width]
    omega
theorem SWL_le {n : Str} {L F : List Str} {k : Int} {ps : List T} (h : T.SWL n L F ps k) : 0 ≤ k ∧ k ≤ T.taken ps := by
  obtain ⟨p, hp, _, sw⟩ := T.SWL_iff.mp h
  have a := SW_le sw
  have b : p.width ≤ T.taken ps := by
    clear h a sw
    induction ps with
    | nil => simp at hp
    | cons q ps ih =>
      rw [T.taken]
      rcases List.mem_cons.mp hp with e | e
      · subst e; omega
      · have := ih e; omega
  omega
theorem lowL_le1000 {S : List Str} {ps : List T} {n : Str} (ok : PtsOk ps) (i : Nat) : T.lowL S (T.others n (ps.take i)) ≤ 1000 := by
  have a := T.lowL_le (S := S) (T.others n (ps.take i))
  have b : ∀ {as bs : List T}, as.Sublist bs → T.taken as ≤ T.taken bs := by
    intro as bs h
    induction h with
    | slnil => exact Nat.le_refl _
    | cons x _ ih => rw [T.taken]; omega
    | cons_cons x _ ih => rw [T.taken, T.taken]; omega
  have c := b (List.filter_sublist (l := ps.take i) (p := fun t => !decide (n ∈ t.names)))
  have d := T.taken_take_le ps i
  have := ok.tk
  unfold T.others at a ⊢
  omega
theorem ok_swings (tp : Top K mg) : ∀ n, FnN P w K mg base (n + 50) "swings" [] (sp_swings K n)
  | 0 => by
    refine fn_by tp.f_swings sc_swings (fun vs H Q E h => by unfold sp_swings at h; split at h <;> first | rfl | exact h.elim) (fun f cdv A outer s H vs Q E hr h => ?_)
    exfalso
    unfold sp_swings at h
    split at h
    next v z lq fq => obtain ⟨t, L, F, _, _, h, _⟩ := h; omega
    next => exact h
  | n + 1 => by
    have ih := ok_swings tp n
    refine fn_by tp.f_swings sc_swings (fun vs H Q E h => by unfold sp_swings at h; split at h <;> first | rfl | exact h.elim) (fun f cdv A outer s H vs Q E hr h => ⟨_, (pss_cons (g_if (g_val (pe_callB (k_isi K rfl) (by rfl) tp.b_isinstance (by decide +kernel) (pa_cons (gv 0) (pa_cons (pe_glob (v := .ref _) rfl tp.c_Leaf rfl) pa_nil)))) (pss_one (ps_ret (g_lst (pa_cons pe_int pa_nil)))) pss_nil) (pss_cons (ps_set (i := 4) sc_swings.nd rfl (by first | exact Or.inl rfl | exact Or.inr rfl) pe_int) (pss_cons (ps_set (i := 5) sc_swings.nd rfl (by first | exact Or.inl rfl | exact Or.inr rfl) pe_int) (pss_cons (ps_set (i := 6) sc_swings.nd rfl (by first | exact Or.inl rfl | exact Or.inr rfl) (g_lst pa_nil)) (pss_cons (g_for PassesOwn.never rfl (kw_list K rfl (g_prop (ok_Group_parts tp) hr (by omega) (gv 0) rfl)) (pg_name (i := 7) sc_swings.nd rfl (by first | exact Or.inl rfl | exact Or.inr rfl)) (pss_one (g_if (g_cmp (OpRor (op_inO (((ok_Leaf___contains__ tp).sp')) (hr.mono (by omega))) (op_inO (((ok_Group___contains__ tp).sp')) (hr.mono (by omega)))) (gv 1) (gv 7) (by with_unfolding_all rfl)) (pss_one (ps_set (i := 6) sc_swings.nd rfl (by first | exact Or.inl rfl | exact Or.inr rfl) (g_call (ih) hr rfl (by omega) (pa_cons (gv 7) (pa_cons (gv 1) (pa_cons (gv 2) (pa_cons (gv 3) pa_nil))))))) (pss_cons (g_aug (i := 4) sc_swings.nd rfl (by first | exact Or.inl rfl | exact Or.inr rfl) (PEor (g_meth (ok_Leaf_low_ends tp) hr (by omega) (gv 7) (PAm (pa_cons (gv 2) pa_nil))) (g_meth (ok_Group_low_ends tp 45) hr (by omega) (gv 7) (PAm (pa_cons (gv 2) pa_nil))))) (pss_one (g_aug (i := 5) sc_swings.nd rfl (by first | exact Or.inl rfl | exact Or.inr rfl) (PEor (g_meth (ok_Leaf_low_ends tp) hr (by omega) (gv 7) (PAm (pa_cons (pe_op op_addG (gv 2) (gv 3)) pa_nil))) (g_meth (ok_Group_low_ends tp 45) hr (by omega) (gv 7) (PAm (pa_cons (pe_op op_addG (gv 2) (gv 3)) pa_nil)))))))))) (pss_cons (g_setLc2 (i := 8) rfl sc_swings.nd rfl rfl (sw_true rfl rfl rfl (by decide +kernel)) (kw_list K rfl (gv 6)) (blkOk_by (own := [("number", 10), ("more", 11)]) (N := (["tree", "name", "low", "free", "least", "most", "inner", "part", "totals", "ranks", "number", "more", "rank", "total"] : List Str)) (sc := defScope s_swings) (by decide +kernel)) (vs1 := [11]) (by decide) (fun _ _ _ _ _ => pg_name (i := 10) sc_swings.nd rfl (by first | exact Or.inl rfl | exact Or.inr rfl)) (fun _ _ _ _ _ => (w_range2 rfl tp.b_range (pa_cons (gv 4) (pa_cons (pe_op op_addG (gv 5) pe_int) pa_nil)))) (fun _ _ _ _ _ => pg_name (i := 11) sc_swings.nd rfl (by first | exact Or.inl rfl | exact Or.inr rfl)) (fun _ _ _ _ _ => (pe_op op_addG (gv 10) (gv 11)))) (pss_cons (ps_set (i := 9) sc_swings.nd rfl (by first | exact Or.inl rfl | exact Or.inr rfl) (g_prop (ok_Group_ranks tp) hr (by omega) (gv 0) rfl)) (pss_one (ps_ret (pe_callB (c_sortSet w rfl rfl) (by rfl) tp.b_sorted (by decide +kernel) (pa_cons (k_set1 w rfl rfl sc_swings.nd (kw_list K rfl (gv 8)) (blkOk_by (own := [("total", 13)]) (N := (["tree", "name", "low", "free", "least", "most", "inner", "part", "totals", "ranks", "number", "more", "rank", "total"] : List Str)) (sc := defScope s_swings) (by decide +kernel)) (fun _ _ _ _ _ => pg_name (i := 13) sc_swings.nd rfl (by first | exact Or.inl rfl | exact Or.inr rfl)) (fun _ _ _ _ _ => (pts_one (g_cmp (k_inG K rfl) (pe_op op_addG (gv 13) pe_int) (gv 9) (by with_unfolding_all rfl)))) (fun _ _ _ _ _ => (PEm (pe_callB (k_len K rfl) (by rfl) tp.b_len (by decide +kernel) (pa_cons (g_lc rfl sc_swings.nd (kw_list K rfl (gv 9)) (blkOk_by (own := [("rank", 12)]) (N := (["tree", "name", "low", "free", "least", "most", "inner", "part", "totals", "ranks", "number", "more", "rank", "total"] : List Str)) (by kernel_rfl)) (fun _ _ _ _ _ => pg_name (i := 12) sc_swings.nd rfl (by first | exact Or.inl rfl | exact Or.inr rfl)) (fun _ _ _ _ _ => (pts_one (g_cmp op_leG (gv 12) (gv 13) (nomark _)))) (fun _ _ _ _ _ => (gv 12))) pa_nil))))) pa_nil))))))))))), ?_⟩)
    unfold sp_swings at h
    split at h
    next v z lq fq =>
      obtain ⟨t, L, F, m, g, hd, hz, hL, hF, hlen, h60, k⟩ := h
      walk_at "w"
      refine ⟨_, is_leafT tp m, ?_⟩
      cases t with
      | leaf y =>
        refine way_t ?_
        walk_at "w"
        refine ⟨(by show 1 ≤ sizeLine; decide), fun p H' f1 s1 e1 => k [0] p H' (by simp) (fun q => by rw [T.SW]; simp) f1 s1 e1⟩
      | grp rk ps =>
        have m' := m
        obtain ⟨a, dx, pp, rr, us, rfl, h1, h2, h3, h4⟩ := m
        obtain ⟨ok, rok, hrl⟩ := g.pts
        rw [T.depth] at hd
        rw [T.names] at hz
        refine way_f ?_
        walk_at "w"
        refine ⟨(by show 0 ≤ sizeLine; decide), fun p0 H0 f0 s0 e0 => ?_⟩
        walk_at "w"
        refine ⟨dx, _, s0 _ _ h1, rk, ps, m'.mono s0, fun p1 us1 H1 f1 s1 hm1 e1 => ?_⟩
        have hus := hm1.length
        have s01 := s0.trans s1
        refine forw_list (xs := us1) (fun i σ G => ∃ p3 v3 ns, σ = [some (.ref a), some (.str z), some (.ref lq), some (.ref fq), some (.int (T.lowL L (T.others z (ps.take i)))), some (.int (T.lowL (L ++ F) (T.others z (ps.take i)))), some (.ref p3), v3, none, none, none, none, none, none] ∧ Same H1 G ∧ G p3 = some (.lst (ns.map V.int)) ∧ ns.Pairwise (· < ·) ∧ ∀ k, k ∈ ns ↔ T.SWL z L F (ps.take i) k)
          ⟨p0, none, [], rfl, Same.refl _, s1 _ _ e0, by simp, fun k => by rw [List.take_zero, T.SWL]; simp⟩ (fun i σ G _ ⟨_, _, _, _, sG, _⟩ => SqL.of (sG _ _ e1)) ?_ ?_
        · rintro i x σ G hx ⟨p3, v3, ns, rfl, sG, e3, asc, mem⟩
          obtain ⟨t, ht, mt⟩ := (hm1.mono (s1.trans sG)).at_ hx
          have hm := List.mem_of_getElem? ht
          have hdt := T.depthL_le hm
          have gt := g.part hm
          have tk : ps.take (i + 1) = ps.take i ++ [t] := by rw [List.take_add_one, ht]; rfl
          have s1G := s01.trans sG
          walk_at "w"
          refine rd_in mt gt fun G2 s2 => ?_
          refine way_d (fun c => ?_) fun c => ?_
          · walk_at "w"
            refine ⟨t, L, F, mt.mono s2, gt, by omega, c, s2 _ _ (s1G _ _ hL), s2 _ _ (s1G _ _ hF), hlen, Nat.le_trans (T.namesL_mem hm).length_le h60, fun ns2 p4 G3 asc2 mem2 f3 s3 e4 => ?_⟩
            have nb := not_before ok.nd ht c
            refine ⟨p4, some x, ns2, ?_, sG.trans (s2.trans s3), e4, asc2, fun k => ?_⟩
            · rw [tk, others_snoc, if_pos c, List.append_nil]; rfl
            · rw [mem2, tk, SWL_snoc]
              refine ⟨fun q => .inr ⟨c, q⟩, fun q => q.elim (fun q => ?_) fun q => q.2⟩
              obtain ⟨p, hp, hn, _⟩ := T.SWL_iff.mp q
              exact absurd (T.mem_namesL.mpr ⟨p, hp, hn⟩) nb
          · have q1 : (T.lowL L (T.others z (ps.take (i + 1))) : Int) = (T.lowL L (T.others z (ps.take i)) : Int) + (t.low L : Int) := by
              rw [tk, others_snoc, if_neg c, T.lowL_append, T.lowL, T.lowL]; omega
            have q2 : (T.lowL (L ++ F) (T.others z (ps.take (i + 1))) : Int) = (T.lowL (L ++ F) (T.others z (ps.take i)) : Int) + (t.low (L ++ F) : Int) := by
              rw [tk, others_snoc, if_neg c, T.lowL_append, T.lowL, T.lowL]; omega
            walk_at "w"
            refine rd_low (i := 7) rfl (mt.mono s2) gt.dp gt ?_
            walk_at "w"
            refine ⟨L, mt.mono s2, s2 _ _ (s1G _ _ hL), fun G4 s4 => ?_⟩
            have s24 := s2.trans s4
            walk_at "w"
            refine rd_low (i := 7) rfl (mt.mono s24) gt.dp gt ?_
            walk_at "w"
            refine ⟨_, _, s24 _ _ (s1G _ _ hL), s24 _ _ (s1G _ _ hF), by rw [List.length_map, List.length_map]; exact Nat.le_trans hlen (by decide), fun p5 G5 f5 s5 e5 => ?_⟩
            refine ⟨L ++ F, mt.mono (s24.trans s5), by rw [e5, List.map_append], fun G6 s6 => ?_⟩
            have s26 := s24.trans (s5.trans s6)
            refine ⟨p3, some x, ns, ?_, sG.trans s26, s26 _ _ e3, asc, fun k => ?_⟩
            · rw [q1, q2]; rfl
            · rw [tk, SWL_snoc, ← mem]
              exact ⟨.inl, fun q => q.elim id fun q => absurd q.1 c⟩
        · rintro σ G ⟨p3, v3, ns, rfl, sG, e3, asc, mem⟩
          rw [hus, List.take_length] at mem ⊢
          have lo1 : T.lowL (L ++ F) (T.others z ps) ≤ 1000 := by
            have := lowL_le1000 (S := L ++ F) (n := z) ok ps.length
            rw [List.take_length] at this; exact this
          have lo2 : T.lowL L (T.others z ps) ≤ 1000 := by
            have := lowL_le1000 (S := L) (n := z) ok ps.length
            rw [List.take_length] at this; exact this
          have nlen : ns.length ≤ 1001 := by
            have := asc_len (lo := 0) (hi := T.taken ps) asc (fun r hr => (SWL_le ((mem r).mp hr)).1) (fun r hr => (SWL_le ((mem r).mp hr)).2)
            have := ok.tk
            omega
          generalize eA : T.lowL L (T.others z ps) = lo at lo2
          generalize eB : T.lowL (L ++ F) (T.others z ps) = hi at lo1
          walk_at "w"
          refine comp2_list (xs := ns.map V.int) (fun i acc G2 => Same G G2 ∧ ∃ ts : List Int, acc = ts.map V.int ∧ ts.length ≤ i * 1001 ∧ ∀ x, x ∈ ts ↔ ∃ num ∈ ns.take i, ∃ more : Int, (lo : Int) ≤ more ∧ more ≤ (hi : Int) ∧ x = num + more) ⟨Same.refl _, [], rfl, by simp, fun x => by simp⟩ (fun i acc G2 f => SqL.of (f.1 _ _ e3)) (fun D i x acc H' hx hD hDl f => ⟨rfl, ?_⟩) (fun D H' acc hD hDl f => ?_)
          · obtain ⟨s5, ts, rfl, tl, tm⟩ := f
            obtain ⟨num, hnum, rfl⟩ := map_at hx
            have hi' : i < ns.length := (List.getElem?_eq_some_iff.mp hnum).1
            walk_at "w"
            refine ⟨⟨by omega, by omega, by omega, by omega⟩, ?_⟩
            refine ⟨hDl, _, fun _ => True, _, fun k acc G2 => Same G G2 ∧ ∃ us : List Int, acc = us.map V.int ∧ us.length ≤ i * 1001 + k ∧ ∀ x, x ∈ us ↔ x ∈ ts ∨ ∃ r : Nat, r < k ∧ x = num + ((lo : Int) + (r : Int)), walk_range, ⟨s5, ts, rfl, by omega, fun x => by simp⟩, fun _ _ _ _ _ _ _ => trivial, fun k y acc H5 hk hy e5 f5 => ⟨rfl, ?_⟩, fun acc G2 f => ?_⟩
            · obtain ⟨s6, us, rfl, ul, um⟩ := f5
              subst hy
              walk_at "w"
              refine ⟨e5, ?_, s6, us ++ [num + ((lo : Int) + (k : Int))], by rw [List.map_append]; rfl, by rw [List.length_append]; simp; omega, fun x => ?_⟩
              · rw [List.length_map]
                exact Nat.lt_of_le_of_lt (by have := Nat.mul_le_mul_right 1001 (Nat.le_of_lt hi'); have : ns.length * 1001 ≤ 1001 * 1001 := Nat.mul_le_mul_right 1001 nlen; omega : us.length ≤ 1010000) (by decide)
              · rw [List.mem_append, List.mem_singleton, um]
                constructor
                · rintro ((h | ⟨r, hr, e⟩) | e)
                  · exact .inl h
                  · exact .inr ⟨r, by omega, e⟩
                  · exact .inr ⟨k, by omega, e⟩
                · rintro (h | ⟨r, hr, e⟩)
                  · exact .inl (.inl h)
                  · rcases Nat.lt_or_ge r k with q | q
                    · exact .inl (.inr ⟨r, q, e⟩)
                    · have : r = k := by omega
                      subst this; exact .inr e
            · obtain ⟨s6, us, rfl, ul, um⟩ := f
              refine ⟨s6, us, rfl, by omega, fun x => ?_⟩
              rw [um, tm, List.take_add_one, hnum]
              constructor
              · rintro (⟨nu, h1, mo, h2, h3, h4⟩ | ⟨r, hr, e⟩)
                · exact ⟨nu, List.mem_append_left _ h1, mo, h2, h3, h4⟩
                · exact ⟨num, List.mem_append_right _ (List.mem_cons_self ..), (lo : Int) + (r : Int), by omega, by omega, e⟩
              · rintro ⟨nu, h1, mo, h2, h3, h4⟩
                rcases List.mem_append.mp h1 with q | q
                · exact .inl ⟨nu, q, mo, h2, h3, h4⟩
                · have : nu = num := by simpa using q
                  subst this
                  exact .inr ⟨(mo - (lo : Int)).toNat, by omega, by omega⟩
          · obtain ⟨s5, ts, rfl, tl, tm⟩ := f
            rw [List.length_map, List.take_length] at tm
            have s6 : Same G H' := s5.trans off_same
            have s7 : Same H H' := s01.trans (sG.trans s6)
            walk_at "w"
            refine ⟨dx, _, s7 _ _ h1, rk, ps, m'.mono s7, fun p8 H8 f8 s8 e8 => ?_⟩
            walk_at "w"
            have hDt := s8 _ _ hDl
            refine ⟨⟨_, SqL.of hDt⟩, fun D1 G1 hD1 sG1 oG1 eG1 => ?_⟩
            have hD1' : H8 D1 = none := hD1
            have nD8 : p8 ≠ D1 := ne_of_none e8 hD1'
            refine (cl_list (K := K) (xs := ts.map V.int) gName_up (fun i G => SameX D1 H8 G ∧ ∃ l : List Int, SetL w G D1 l ∧ l.Nodup ∧ ∀ k, k ∈ l ↔ ∃ x ∈ ts.take i, x + 1 ∈ rk ∧ k = ((rk.filter fun r => decide (r ≤ x)).length : Int)) ⟨SameX.of sG1, [], SetL.nil eG1, by simp, fun k => by simp⟩ (fun i G _ f => SqL.of (f.1 _ _ (ne_of_none hDt hD1') hDt)) (fun i x G hx f => ⟨rfl, ?_⟩) (fun G f => ?_)).2
            · obtain ⟨sG, l, sl, ln, lm⟩ := f
              obtain ⟨x0, hx0, rfl⟩ := map_at hx
              have tk : ts.take (i + 1) = ts.take i ++ [x0] := by rw [List.take_add_one, hx0]; rfl
              have e8G := sG _ _ nD8 e8
              walk_at "w"
              refine ⟨_, Or.inl (SqL.of e8G), rfl, flat_intsS rk, ?_⟩
              rw [inV_intS]
              refine way_d (fun c => ?_) fun c => ?_
              · refine tAdd_ofM (l := l) ?_
                walk_at "w"
                refine comp_list (xs := rk.map V.int) (fun i acc G2 => Same G G2 ∧ acc = ((rk.take i).filter fun d => decide (d ≤ x0)).map V.int) (by rw [List.length_map]; exact lt1000 hrl) ⟨Same.refl _, rfl⟩ (fun i acc G2 f => SqL.of (f.1 _ _ e8G)) (fun D2 i2 y acc H3 hy hD2 hDl2 hq3 f => ⟨rfl, ?_⟩) (fun D2 H3 acc hD2 hDl2 hq3 f => ?_)
                · obtain ⟨s3, rfl⟩ := f
                  obtain ⟨r0, hr0, rfl⟩ := map_at hy
                  have e := filt_takeS (p := fun d => decide (d ≤ x0)) hr0
                  walk_at "w"
                  refine way_d (fun c => ?_) fun c => ?_
                  · refine ⟨hDl2, s3, ?_⟩
                    rw [e, if_pos (decide_eq_true c), List.map_append]
                    rfl
                  · refine ⟨hDl2, s3, ?_⟩
                    rw [e, if_neg (by simpa using c), List.append_nil]
                · obtain ⟨s3, rfl⟩ := f
                  rw [List.length_map, List.take_length] at hDl2
                  have s4 : Same G H3 := s3.trans off_same
                  walk_at "w"
                  refine ⟨_, Or.inl (SqL.of hDl2), ?_⟩
                  rw [List.length_map]
                  have rw60 : rk.length ≤ 60 := Nat.le_trans (T.width_le g.sh).1 h60
                  have llen : l.length ≤ 61 := by
                    have := ln.length_le_of_subset (l₂ := (List.range (rk.length + 1)).map fun k : Nat => (k : Int)) fun k hk => by
                      obtain ⟨x, _, _, rfl⟩ := (lm k).mp hk
                      have := List.length_filter_le (fun r => decide (r ≤ x)) rk
                      exact List.mem_map.mpr ⟨_, List.mem_range.mpr (by omega), rfl⟩
                    rw [List.length_map, List.length_range] at this
                    omega
                  obtain ⟨S, nn, eS, _⟩ := sl
                  refine ⟨⟨S, nn, s4 _ _ eS, ‹_›⟩, by omega, fun G6 s6' sl6 => ⟨sG.trans ((SameX.of s4).trans s6'), _, sl6, ?_, fun k => ?_⟩⟩
                  · split
                    · exact ln
                    · rename_i q
                      rw [List.nodup_append]
                      exact ⟨ln, by simp, fun a ha b hb e => q (by rw [← List.mem_singleton.mp hb, ← e]; exact ha)⟩
                  · have base : (k ∈ (if ((rk.filter fun d => decide (d ≤ x0)).length : Int) ∈ l then l else l ++ [((rk.filter fun d => decide (d ≤ x0)).length : Int)])) ↔ (k ∈ l ∨ k = ((rk.filter fun d => decide (d ≤ x0)).length : Int)) := by
                      by_cases q : ((rk.filter fun d => decide (d ≤ x0)).length : Int) ∈ l
                      · rw [if_pos q]; exact ⟨.inl, fun w => w.elim id fun w => w ▸ q⟩
                      · rw [if_neg q, List.mem_append, List.mem_singleton]
                    rw [base, lm, tk]
                    constructor
                    · rintro (⟨x, h1, h2, h3⟩ | h)
                      · exact ⟨x, List.mem_append_left _ h1, h2, h3⟩
                      · exact ⟨x0, List.mem_append_right _ (List.mem_cons_self ..), c, h⟩
                    · rintro ⟨x, h1, h2, h3⟩
                      rcases List.mem_append.mp h1 with q | q
                      · exact .inl ⟨x, q, h2, h3⟩
                      · have : x = x0 := by simpa using q
                        subst this; exact .inr h3
              · refine ⟨sG, l, sl, ln, fun k => ?_⟩
                rw [lm, tk]
                constructor
                · rintro ⟨x, h1, h2, h3⟩
                  exact ⟨x, List.mem_append_left _ h1, h2, h3⟩
                · rintro ⟨x, h1, h2, h3⟩
                  rcases List.mem_append.mp h1 with q | q
                  · exact ⟨x, q, h2, h3⟩
                  · have : x = x0 := by simpa using q
                    subst this; exact absurd h2 c
            · obtain ⟨sG, l, sl, ln, lm⟩ := f
              rw [List.length_map, List.take_length] at lm
              have s8G : Same H8 G := SameX.un (Same.refl _) hD1' sG
              have rw60 : rk.length ≤ 60 := Nat.le_trans (T.width_le g.sh).1 h60
              have llen : l.length ≤ 61 := by
                have := ln.length_le_of_subset (l₂ := (List.range (rk.length + 1)).map fun k : Nat => (k : Int)) fun k hk => by
                  obtain ⟨x, _, _, rfl⟩ := (lm k).mp hk
                  have := List.length_filter_le (fun r => decide (r ≤ x)) rk
                  exact List.mem_map.mpr ⟨_, List.mem_range.mpr (by omega), rfl⟩
                rw [List.length_map, List.length_range] at this
                omega
              walk_at "w"
              refine ⟨l, sl, by omega, fun ws pw G9 wasc wmem f9 s9 e9 => ?_⟩
              have s10 : Same H G9 := s7.trans (s8.trans (s8G.trans s9))
              refine k ws pw G9 wasc (fun q => ?_) (free_back (s7.trans (s8.trans s8G)) f9) s10 e9
              rw [wmem, lm, T.SW, eA, eB]
              constructor
              · rintro ⟨x, h1, h2, h3⟩
                obtain ⟨num, hn, more, h4, h5, rfl⟩ := (tm x).mp h1
                exact ⟨num, more, (mem num).mp hn, h4, h5, h2, h3⟩
              · rintro ⟨num, more, hn, h4, h5, h2, h3⟩
                exact ⟨num + more, (tm _).mpr ⟨num, (mem num).mpr hn, more, h4, h5, rfl⟩, h2, h3⟩
    next => exact h.elim
noncomputable def isB (p : Prop) : Bool := @decide p (Classical.propDecidable p)
theorem isB_iff {p : Prop} : isB p = true ↔ p := by unfold isB; exact @decide_eq_true_iff p (Classical.propDecidable p)
theorem isB_of {p : Prop} {b : Bool} (h : b = true ↔ p) : isB p = b := by rw [Bool.eq_iff_iff, isB_iff, h]
def freeOf (t : T) (z : Str) (kn : List Str) : List Str := t.names.filter fun y => !decide (y = z) && !decide (y ∈ kn)
def sp_can_swing (K : PySem.W.Frag) : Sp := fun vs H Q _ => match vs with
  | [v, .ref a, .str z, .ref kq, .int j] => ∃ t d ps W kn, MTk K H t v ∧ t.Gd ∧ LotAt K H a d ps ∧ z ∈ t.names ∧ H kq = some (.lst (kn.map V.str)) ∧ (∀ y ∈ kn, look ps y = some (W y)) ∧ kn.length ≤ 60 ∧ t.names.length ≤ 60 ∧
    ∀ b H', Same H H' → (b = true ↔ CanSw t W z kn (freeOf t z kn) j) → Q (.bl b) H'
  | _ => False
theorem ok_can_swing (tp : Top K mg) : FnN P w K mg base 97 "can_swing" [] (sp_can_swing K) := by
  refine fn_by tp.f_can_swing sc_can_swing (fun vs H Q E h => by unfold sp_can_swing at h; split at h <;> first | rfl | exact h.elim) (fun f cdv A outer s H vs Q E hr h => ⟨_, (pss_cons (g_setLc (i := 5) rfl sc_can_swing.nd rfl rfl (sw_true rfl rfl rfl (by decide +kernel)) (kw_list K rfl (PEor (g_meth0 (ok_Leaf_names tp) hr (by omega) (gv 0)) (g_meth0 (ok_Group_names tp 45) hr (by omega) (gv 0)))) (blkOk_by (own := [("one", 7)]) (N := (["tree", "lot", "name", "known", "j", "free", "bound", "one"] : List Str)) (sc := defScope s_can_swing) (by decide +kernel)) (fun _ _ _ _ _ => pg_name (i := 7) sc_can_swing.nd rfl (by first | exact Or.inl rfl | exact Or.inr rfl)) (fun _ _ _ _ _ => (pts_one (PW.pt (g_and (g_cmp (k_neG K rfl hr.units) (gv 7) (gv 2) (nomark _)) (pw_and1 (g_cmp (k_ninG K rfl) (gv 7) (gv 3) (by with_unfolding_all rfl))))))) (fun _ _ _ _ _ => (gv 7))) (pss_cons (g_if (g_cmp (k_inG K rfl) (pe_op op_subG (gv 4) pe_int) (g_call (ok_swings tp 46) hr rfl (by omega) (pa_cons (gv 0) (pa_cons (gv 2) (pa_cons (g_lst pa_nil) (pa_cons (gv 5) pa_nil))))) (by with_unfolding_all rfl)) (pss_one (ps_ret pe_bl)) pss_nil) (pss_cons (g_for PassesOwn.never rfl (kw_list K rfl (pe_callB (c_sortSet w rfl rfl) (by rfl) tp.b_sorted (by decide +kernel) (pa_cons (k_set1 w rfl rfl sc_can_swing.nd (kw_list K rfl (gv 3)) (blkOk_by (own := [("one", 7)]) (N := (["tree", "lot", "name", "known", "j", "free", "bound", "one"] : List Str)) (sc := defScope s_can_swing) (by decide +kernel)) (fun _ _ _ _ _ => pg_name (i := 7) sc_can_swing.nd rfl (by first | exact Or.inl rfl | exact Or.inr rfl)) (fun _ _ _ _ _ => pts_nil) (fun _ _ _ _ _ => (PEm (g_getO ((ok_Lot___getitem__ tp).sp') tp.t_Lot (hr.mono (by omega)) (gv 1) (gv 7))))) pa_nil))) (pg_name (i := 6) sc_can_swing.nd rfl (by first | exact Or.inl rfl | exact Or.inr rfl)) (pss_one (g_if (g_cmp (k_inG K rfl) (pe_op op_subG (gv 4) pe_int) (g_call (ok_swings tp 46) hr rfl (by omega) (pa_cons (gv 0) (pa_cons (gv 2) (pa_cons (g_lc rfl sc_can_swing.nd (kw_list K rfl (gv 3)) (blkOk_by (own := [("one", 7)]) (N := (["tree", "lot", "name", "known", "j", "free", "bound", "one"] : List Str)) (sc := defScope s_can_swing) (by decide +kernel)) (fun _ _ _ _ _ => pg_name (i := 7) sc_can_swing.nd rfl (by first | exact Or.inl rfl | exact Or.inr rfl)) (fun _ _ _ _ _ => (pts_one (g_cmp op_leG (g_getO ((ok_Lot___getitem__ tp).sp') tp.t_Lot (hr.mono (by omega)) (gv 1) (gv 7)) (gv 6) (nomark _)))) (fun _ _ _ _ _ => (gv 7))) (pa_cons (gv 5) pa_nil))))) (by with_unfolding_all rfl)) (pss_one (ps_ret pe_bl)) pss_nil))) (pss_one (ps_ret pe_bl))))), ?_⟩)
  unfold sp_can_swing at h
  split at h
  next v a z kq j =>
    obtain ⟨t, d, ps, W, kn, m, g, l, hz, hk, hw, kl, h60, k⟩ := h
    obtain ⟨dx, ha⟩ := l.o
    walk_at "w"
    refine rd_names (i := 0) (n := 45) rfl m g.dp g.sz fun p1 H1 f1 s1 e1 => ?_
    refine comp_list (xs := t.names.map V.str) (fun i acc G => Same H1 G ∧ acc = ((t.names.take i).filter fun y => !decide (y = z) && !decide (y ∈ kn)).map V.str) (by rw [List.length_map]; exact lt1000 g.sz) ⟨Same.refl _, rfl⟩ (fun i acc G f => SqL.of (f.1 _ _ e1)) (fun D i x acc H' hx hD hDl hq f => ⟨rfl, ?_⟩) (fun D H2 acc hD hDl hq f => ?_)
    · obtain ⟨s2, rfl⟩ := f
      obtain ⟨y, hy, rfl⟩ := map_atS hx
      have e := filt_takeS (p := fun y => !decide (y = z) && !decide (y ∈ kn)) hy
      walk_at "w"
      refine way_nd (fun c => ?_) fun c => ?_
      · walk_at "w"
        refine ⟨_, Or.inl (SqL.of ((s1.trans (s2.trans off_same)) _ _ hk)), rfl, flat_strsS _, ?_⟩
        rw [inV_strS]
        refine way_nd (fun c2 => ?_) fun c2 => ?_
        · walk_at "w"
          refine ⟨hDl, s2, ?_⟩
          rw [e, if_pos (by simp [c, c2]), List.map_append]
          rfl
        · refine ⟨hDl, s2, ?_⟩
          rw [e, if_neg (by simp [c2]), List.append_nil]
      · refine way_f ⟨hDl, s2, ?_⟩
        rw [e, if_neg (by simp [c]), List.append_nil]
    · obtain ⟨s2, rfl⟩ := f
      rw [List.length_map, List.take_length] at hDl
      have s3 : Same H H2 := s1.trans (s2.trans off_same)
      have hDl : H2 D = some (.lst ((freeOf t z kn).map V.str)) := hDl
      have fl : (freeOf t z kn).length ≤ 60 := Nat.le_trans (List.length_filter_le _ _) h60
      walk_at "w"
      refine ⟨(by show 0 ≤ sizeLine; decide), fun p3 H3 f3 s4 e3 => ?_⟩
      have s5 := s3.trans s4
      refine ⟨t, [], freeOf t z kn, m.mono s5, g, Nat.lt_succ_of_le g.dp, hz, e3, s4 _ _ hDl, by simp; omega, h60, fun ns p4 H4 asc mem f4 s6 e4 => ?_⟩
      refine ⟨_, Or.inl (SqL.of e4), rfl, flat_intsS _, ?_⟩
      rw [inV_intS]
      have s7 := s5.trans s6
      refine way_d (fun c => ?_) fun c => ?_
      · walk_at "w"
        exact k true H4 s7 ⟨fun _ => .inl ((mem _).mp c), fun _ => rfl⟩
      · walk_at "w"
        have hk4 := s7 _ _ hk
        have l4 := l.mono s7
        have hD4 := (s4.trans s6) _ _ hDl
        refine ⟨⟨_, SqL.of hk4⟩, fun D1 G1 hD1 sG1 oG1 eG1 => ?_⟩
        have hD1' : H4 D1 = none := hD1
        refine (cl_list (K := K) (xs := kn.map V.str) gName_up (fun i G => SameX D1 H4 G ∧ ∃ l : List Int, SetL w G D1 l ∧ l.Nodup ∧ ∀ k, k ∈ l ↔ ∃ y ∈ kn.take i, W y = k) ⟨SameX.of sG1, [], SetL.nil eG1, by simp, fun k => by simp⟩ (fun i G _ f => SqL.of (f.1 _ _ (ne_of_none hk4 hD1') hk4)) (fun i x G hx f => ⟨rfl, ?_⟩) (fun G f => ?_)).2
        · obtain ⟨sG, ll, sl, ln, lm⟩ := f
          obtain ⟨y, hy, rfl⟩ := map_atS hx
          have ym := List.mem_of_getElem? hy
          have tk : kn.take (i + 1) = kn.take i ++ [y] := by rw [List.take_add_one, hy]; rfl
          have s4G : Same H4 G := SameX.un (Same.refl _) hD1' sG
          refine way_t (tAdd_ofM (l := ll) ?_)
          walk_at "w"
          have lG := l4.mono s4G
          obtain ⟨dx', ha'⟩ := lG.o
          refine ⟨dx', _, ha', d, ps, W y, lG, hw y ym, fun G5 s8 => ?_⟩
          have llen : ll.length ≤ 60 := by
            have := ln.length_le_of_subset (l₂ := kn.map W) fun k hk => by
              obtain ⟨x, hx, rfl⟩ := (lm k).mp hk
              exact List.mem_map.mpr ⟨x, List.mem_of_mem_take hx, rfl⟩
            rw [List.length_map] at this
            omega
          obtain ⟨S, nn, eS, h5⟩ := sl
          refine ⟨⟨S, nn, s8 _ _ eS, h5⟩, by omega, fun G6 s6' sl6 => ⟨sG.trans ((SameX.of s8).trans s6'), _, sl6, ?_, fun k => ?_⟩⟩
          · split
            · exact ln
            · rename_i q
              rw [List.nodup_append]
              exact ⟨ln, by simp, fun a ha b hb e => q (by rw [← List.mem_singleton.mp hb, ← e]; exact ha)⟩
          · have base : (k ∈ (if W y ∈ ll then ll else ll ++ [W y])) ↔ (k ∈ ll ∨ k = W y) := by
              by_cases q : W y ∈ ll
              · rw [if_pos q]; exact ⟨.inl, fun w => w.elim id fun w => w ▸ q⟩
              · rw [if_neg q, List.mem_append, List.mem_singleton]
            rw [base, lm, tk]
            constructor
            · rintro (⟨x, h1, h2⟩ | h)
              · exact ⟨x, List.mem_append_left _ h1, h2⟩
              · exact ⟨y, List.mem_append_right _ (List.mem_cons_self ..), h.symm⟩
            · rintro ⟨x, h1, h2⟩
              rcases List.mem_append.mp h1 with q | q
              · exact .inl ⟨x, q, h2⟩
              · have : x = y := by simpa using q
                subst this; exact .inr h2.symm
        · obtain ⟨sG, ll, sl, ln, lm⟩ := f
          rw [List.length_map, List.take_length] at lm
          have s4G : Same H4 G := SameX.un (Same.refl _) hD1' sG
          have llen : ll.length ≤ 60 := by
            have := ln.length_le_of_subset (l₂ := kn.map W) fun k hk => by
              obtain ⟨x, hx, rfl⟩ := (lm k).mp hk
              exact List.mem_map.mpr ⟨x, hx, rfl⟩
            rw [List.length_map] at this
            omega
          walk_at "w"
          refine ⟨ll, sl, by omega, fun ws pw G9 wasc wmem f9 s9 e9 => ?_⟩
          have s49 := s4G.trans s9
          have s10 : Same H G9 := s7.trans s49
          refine forw_list (xs := ws.map V.int) (fun i σ G => ∃ v6, σ = [some v, some (.ref a), some (.str z), some (.ref kq), some (.int j), some (.ref D), v6, none] ∧ Same G9 G ∧ ∀ b ∈ ws.take i, ¬ t.SW z (rowB W kn b) (freeOf t z kn) (j - 1)) ⟨none, rfl, Same.refl _, fun b hb => by simp at hb⟩ (fun i σ G _ ⟨_, _, sG, _⟩ => SqL.of (sG _ _ e9)) ?_ ?_
          · rintro i x σ G5 hx ⟨v6, rfl, sG5, no⟩
            obtain ⟨b, hb, rfl⟩ := map_at hx
            have bm := List.mem_of_getElem? hb
            have s11 := s10.trans sG5
            walk_at "w"
            refine comp_list (xs := kn.map V.str) (fun i acc G => Same G5 G ∧ acc = ((kn.take i).filter fun y => decide (W y ≤ b)).map V.str) (by rw [List.length_map]; exact lt1000 (by omega)) ⟨Same.refl _, rfl⟩ (fun i acc G f => SqL.of (f.1 _ _ (s11 _ _ hk))) (fun D5 i5 x acc H' hx5 hD5 hDl5 hq5 f => ⟨rfl, ?_⟩) (fun D5 H5 acc hD5 hDl5 hq5 f => ?_)
            · obtain ⟨s12, rfl⟩ := f
              obtain ⟨y, hy, rfl⟩ := map_atS hx5
              have ym := List.mem_of_getElem? hy
              have e := filt_takeS (p := fun y => decide (W y ≤ b)) hy
              have lG := l.mono (s11.trans (s12.trans off_same))
              obtain ⟨dx', ha'⟩ := lG.o
              walk_at "w"
              refine ⟨dx', _, ha', d, ps, W y, lG, hw y ym, fun G6 s8 => ?_⟩
              refine way_d (fun c => ?_) fun c => ?_
              · refine ⟨s8 _ _ hDl5, s12.trans (off_mono s8), ?_⟩
                rw [e, if_pos (decide_eq_true c), List.map_append]
                rfl
              · refine ⟨s8 _ _ hDl5, s12.trans (off_mono s8), ?_⟩
                rw [e, if_neg (by simpa using c), List.append_nil]
            · obtain ⟨s12, rfl⟩ := f
              rw [List.length_map, List.take_length] at hDl5
              have hDl5 : H5 D5 = some (.lst ((rowB W kn b).map V.str)) := hDl5
              have s13 : Same G5 H5 := s12.trans off_same
              have s14 := s11.trans s13
              have rl : (rowB W kn b).length ≤ 60 := Nat.le_trans (List.length_filter_le _ _) kl
              refine ⟨t, rowB W kn b, freeOf t z kn, m.mono s14, g, Nat.lt_succ_of_le g.dp, hz, hDl5, (s49.trans (sG5.trans s13)) _ _ hD4, by omega, h60, fun ns p6 H6 asc6 mem6 f6 s15 e6 => ?_⟩
              refine ⟨_, Or.inl (SqL.of e6), rfl, flat_intsS _, ?_⟩
              rw [inV_intS]
              refine way_d (fun c6 => ?_) fun c6 => ?_
              · walk_at "w"
                refine k true H6 (s14.trans s15) ⟨fun _ => .inr ?_, fun _ => rfl⟩
                obtain ⟨y, hy, e⟩ := (lm b).mp ((wmem b).mp bm)
                exact ⟨y, hy, by rw [e]; exact (mem6 _).mp c6⟩
              · refine ⟨some (.int b), rfl, sG5.trans (s13.trans s15), fun b' hb' => ?_⟩
                rw [List.take_add_one, hb] at hb'
                rcases List.mem_append.mp hb' with q | q
                · exact no b' q
                · have : b' = b := by simpa using q
                  subst this
                  exact fun q => c6 ((mem6 _).mpr q)
          · rintro σ G5 ⟨v6, rfl, sG5, no⟩
            rw [List.length_map, List.take_length] at no
            walk_at "w"
            refine k false G5 (s10.trans sG5) ⟨fun q => by simp at q, fun q => ?_⟩
            rcases q with q | ⟨y, hy, q⟩
            · exact absurd ((mem _).mpr q) c
            · exact absurd q (no _ ((wmem _).mpr ((lm _).mpr ⟨y, hy, rfl⟩)))
  next => exact h.elim
theorem wOf_some {ps : List (Str × Int)} {y : Str} (h : y ∈ ps.map (·.1)) : look ps y = some (wOf ps y) := by
  obtain ⟨c, hc⟩ := look_some.mp h
  unfold wOf
  rw [hc]; rfl
def knownOf (t : T) (ps : List (Str × Int)) : List Str := t.names.filter fun y => decide (y ∈ ps.map (·.1))
noncomputable def mattersOf (t : T) (ps : List (Str × Int)) (j : Int) : List Str := t.names.filter fun n => !decide (n ∈ ps.map (·.1)) && isB (CanSw t (wOf ps) n (knownOf t ps) (freeOf t n (knownOf t ps)) j)
def sp_matters (K : PySem.W.Frag) : Sp := fun vs H Q _ => match vs with
  | [v, .ref a, .int j] => ∃ t d ps, MTk K H t v ∧ t.Gd ∧ LotAt K H a d ps ∧ t.names.length ≤ 60 ∧ 1 ≤ j ∧ j ≤ t.width ∧ ∀ p H', H p = none → Same H H' → H' p = some (.lst ((mattersOf t ps j).map V.str)) → Q (.ref p) H'
  | _ => False
theorem ok_matters (tp : Top K mg) : FnN P w K mg base 98 "matters" [] (sp_matters K) ∧ FnN P w K mg base 98 "matters" [.int 1] (sp_matters K) := by
  refine fn_byD tp.f_matters sc_matters (fun vs H Q E h => by unfold sp_matters at h; split at h <;> first | rfl | exact h.elim) (fun f cdv A outer s H vs Q E hr h => ⟨_, (pss_cons (ps_expr (g_call (ok_check_partial tp) hr rfl (by omega) (pa_cons (gv 0) (pa_cons (gv 1) (pa_cons (gv 2) pa_nil))))) (pss_cons (ps_set (i := 3) sc_matters.nd rfl (by first | exact Or.inl rfl | exact Or.inr rfl) (g_lc rfl sc_matters.nd (kw_list K rfl (PEor (g_meth0 (ok_Leaf_names tp) hr (by omega) (gv 0)) (g_meth0 (ok_Group_names tp 45) hr (by omega) (gv 0)))) (blkOk_by (own := [("name", 4)]) (N := (["tree", "lot", "j", "known", "name"] : List Str)) (sc := defScope s_matters) (by decide +kernel)) (fun _ _ _ _ _ => pg_name (i := 4) sc_matters.nd rfl (by first | exact Or.inl rfl | exact Or.inr rfl)) (fun _ _ _ _ _ => (pts_one (g_cmp (op_inO ((ok_Lot___contains__ tp).sp') (hr.mono (by omega))) (gv 4) (gv 1) (by with_unfolding_all rfl)))) (fun _ _ _ _ _ => (gv 4)))) (pss_one (ps_ret (g_lc rfl sc_matters.nd (kw_list K rfl (PEor (g_meth0 (ok_Leaf_names tp) hr (by omega) (gv 0)) (g_meth0 (ok_Group_names tp 45) hr (by omega) (gv 0)))) (blkOk_by (own := [("name", 4)]) (N := (["tree", "lot", "j", "known", "name"] : List Str)) (sc := defScope s_matters) (by decide +kernel)) (fun _ _ _ _ _ => pg_name (i := 4) sc_matters.nd rfl (by first | exact Or.inl rfl | exact Or.inr rfl)) (fun _ _ _ _ _ => (pts_one (PW.pt (g_and (g_cmp (op_ninO ((ok_Lot___contains__ tp).sp') (hr.mono (by omega))) (gv 4) (gv 1) (by with_unfolding_all rfl)) (pw_and1 (g_val (g_call (ok_can_swing tp) hr rfl (by omega) (pa_cons (gv 0) (pa_cons (gv 1) (pa_cons (gv 4) (pa_cons (gv 3) (pa_cons (gv 2) pa_nil)))))))))))) (fun _ _ _ _ _ => (gv 4))))))), ?_⟩)
  unfold sp_matters at h
  split at h
  next v a j =>
    obtain ⟨t, d, ps, m, g, l, h60, j1, j2, k⟩ := h
    walk_at "w"
    refine ⟨t, m, ⟨d, ps, l⟩, j1, j2, ?_⟩
    walk_at "w"
    refine rd_names (i := 0) (n := 45) rfl m g.dp g.sz fun p1 H1 f1 s1 e1 => ?_
    refine comp_list (xs := t.names.map V.str) (fun i acc G => Same H1 G ∧ acc = ((t.names.take i).filter fun y => decide (y ∈ ps.map (·.1))).map V.str) (by rw [List.length_map]; exact lt1000 g.sz) ⟨Same.refl _, rfl⟩ (fun i acc G f => SqL.of (f.1 _ _ e1)) (fun D i x acc H' hx hD hDl hq f => ⟨rfl, ?_⟩) (fun D H2 acc hD hDl hq f => ?_)
    · obtain ⟨s2, rfl⟩ := f
      obtain ⟨y, hy, rfl⟩ := map_atS hx
      have e := filt_takeS (p := fun y => decide (y ∈ ps.map (·.1))) hy
      have lG := l.mono (s1.trans (s2.trans off_same))
      obtain ⟨dx', ha'⟩ := lG.o
      walk_at "w"
      refine ⟨dx', _, ha', d, ps, lG, IsNm.le1000 (sh_nm g.sh y (List.mem_of_getElem? hy)), fun G6 s8 => ?_⟩
      refine ⟨_, rfl, ?_⟩
      refine way_d (fun c => ?_) fun c => ?_
      · walk_at "w"
        refine ⟨s8 _ _ hDl, s2.trans (off_mono s8), ?_⟩
        rw [e, if_pos (decide_eq_true c), List.map_append]
        rfl
      · refine ⟨s8 _ _ hDl, s2.trans (off_mono s8), ?_⟩
        rw [e, if_neg (by simpa using c), List.append_nil]
    · obtain ⟨s2, rfl⟩ := f
      rw [List.length_map, List.take_length] at hDl
      have hDl : H2 D = some (.lst ((knownOf t ps).map V.str)) := hDl
      have s3 : Same H H2 := s1.trans (s2.trans off_same)
      have kl : (knownOf t ps).length ≤ 60 := Nat.le_trans (List.length_filter_le _ _) h60
      walk_at "w"
      refine rd_names (i := 0) (n := 45) rfl (m.mono s3) g.dp g.sz fun p4 H4 f4 s4 e4 => ?_
      refine comp_list (xs := t.names.map V.str) (fun i acc G => Same H4 G ∧ acc = ((t.names.take i).filter fun n => !decide (n ∈ ps.map (·.1)) && isB (CanSw t (wOf ps) n (knownOf t ps) (freeOf t n (knownOf t ps)) j)).map V.str) (by rw [List.length_map]; exact lt1000 g.sz) ⟨Same.refl _, rfl⟩ (fun i acc G f => SqL.of (f.1 _ _ e4)) (fun D5 i x acc H' hx hD5 hDl5 hq f => ⟨rfl, ?_⟩) (fun D5 H5 acc hD5 hDl5 hq f => ?_)
      · obtain ⟨s5, rfl⟩ := f
        obtain ⟨y, hy, rfl⟩ := map_atS hx
        have ym := List.mem_of_getElem? hy
        have e := filt_takeS (p := fun n => !decide (n ∈ ps.map (·.1)) && isB (CanSw t (wOf ps) n (knownOf t ps) (freeOf t n (knownOf t ps)) j)) hy
        have s6 : Same H H' := s3.trans (s4.trans (s5.trans off_same))
        have lG := l.mono s6
        obtain ⟨dx', ha'⟩ := lG.o
        walk_at "w"
        refine ⟨dx', _, ha', d, ps, lG, IsNm.le1000 (sh_nm g.sh y ym), fun G6 s8 => ?_⟩
        refine ⟨_, rfl, ?_⟩
        refine way_nd (fun c => ?_) fun c => ?_
        · have s9 := s6.trans s8
          walk_at "w"
          refine ⟨t, d, ps, wOf ps, knownOf t ps, m.mono s9, g, l.mono s9, ym, (s4.trans (s5.trans (off_same.trans s8))) _ _ hDl, fun y hy => wOf_some (of_decide_eq_true (List.mem_filter.mp hy).2), kl, h60, fun b G7 s10 hb => ?_⟩
          have eb := isB_of hb
          have s11 := s8.trans s10
          cases b with
          | true =>
            refine way_t ?_
            walk_at "w"
            refine ⟨s11 _ _ hDl5, s5.trans (off_mono s11), ?_⟩
            rw [e, if_pos (by rw [eb]; simp [c]), List.map_append]
            rfl
          | false =>
            refine way_f ⟨s11 _ _ hDl5, s5.trans (off_mono s11), ?_⟩
            rw [e, if_neg (by rw [eb]; simp), List.append_nil]
        · refine way_f ⟨s8 _ _ hDl5, s5.trans (off_mono s8), ?_⟩
          rw [e, if_neg (by simp [c]), List.append_nil]
      · obtain ⟨s5, rfl⟩ := f
        rw [List.length_map, List.take_length] at hDl5
        exact k D5 H5 (free_back (s3.trans s4) hD5) (s3.trans (s4.trans (s5.trans off_same))) hDl5
  next => exact h.elim
end LW
namespace LW
open PySem PySem.Spec L2 GG
variable {P : Program} {w : World} {K : PySem.W.Frag} {mg : Str → Option Value} {base : Heap}
def sp_Leaf_name (K : PySem.W.Frag) : Sp := fun vs H Q _ => match vs with
  | [v] => ∃ z, MTk K H (.leaf z) v ∧ Q (.str z) H
  | _ => False
theorem ok_Leaf_name (tp : Top K mg) : PrN P w K mg base 1 (CLf K) "name" (sp_Leaf_name K) := by
  refine pr_by tp.m_Leaf_name sc_Leaf_name (fun vs H Q E h => by unfold sp_Leaf_name at h; split at h <;> first | rfl | exact h.elim) (fun f cdv A outer s H vs Q E hr h => ⟨_, (pss_one (ps_ret (k_fld K rfl (gv 0) rfl))), ?_⟩)
  unfold sp_Leaf_name at h
  split at h
  next v =>
    obtain ⟨z, ⟨a, dx, rfl, h1⟩, q⟩ := h
    walk_at "w"
    exact ⟨_, dx, _, .str z, h1, tp.i_Leaf.cl, tp.n_Leaf_label, rfl, q⟩
  next => exact h.elim
/-- values by names: pairs -/
def VD (K : PySem.W.Frag) (H : Hp) (q : Addr) (C : Str → Int × Int) (ns : List Str) : Prop := ∃ kvs, H q = some (.dK kvs) ∧ ∀ z ∈ ns, ∃ r, valV kvs (.inr z) = some (.ref r) ∧ SqT K H r [.int (C z).1, .int (C z).2]
theorem VD.mono {K : PySem.W.Frag} {H H' : Hp} {q : Addr} {C : Str → Int × Int} {ns : List Str} (h : VD K H q C ns) (s : Same H H') : VD K H' q C ns := let ⟨k, a, b⟩ := h; ⟨k, s _ _ a, fun z hz => let ⟨r, c, d⟩ := b z hz; ⟨r, c, SqT_same d s⟩⟩
theorem VD.sub {K : PySem.W.Frag} {H : Hp} {q : Addr} {C : Str → Int × Int} {ns ms : List Str} (h : VD K H q C ns) (s : ∀ z ∈ ms, z ∈ ns) : VD K H q C ms := let ⟨k, a, b⟩ := h; ⟨k, a, fun z hz => b z (s z hz)⟩
def sp_values_of (K : PySem.W.Frag) (n : Nat) : Sp := fun vs H Q _ => match vs with
  | [v, .ref q] => ∃ t C, MTk K H t v ∧ t.Gd ∧ t.depth < n ∧ VD K H q C t.names ∧ ∀ ys p H', H p = none → Same H H' → H' p = some (.lst ys) → PI2 K H' (t.endsP C) ys → Q (.ref p) H'
  | _ => False
theorem PI2.offT {K : PySem.W.Frag} {H : Hp} {D : Addr} {xs : List V} (h : H D = some (.lst xs)) : ∀ {ps : List (Int × Int)} {vs : List V}, PI2 K H ps vs → PI2 K (off D H) ps vs
  | [], vs, e => e
  | p :: ps, vs, ⟨q, r, e, h1, h2⟩ => ⟨q, r, e, h1.elim (fun h1 => .inl (h1.elim (fun h1 => .inl (by rw [off_at (by rintro rfl; rw [h] at h1; cases h1)]; exact h1)) fun ⟨o, h1⟩ => .inr ⟨o, by rw [off_at (by rintro rfl; rw [h] at h1; cases h1)]; exact h1⟩)) .inr, PI2.offT h h2⟩
theorem ok_values_of (tp : Top K mg) : ∀ n, FnN P w K mg base (n + 5) "values_of" [] (sp_values_of K n)
  | 0 => by
    refine fn_by tp.f_values_of sc_values_of (fun vs H Q E h => by unfold sp_values_of at h; split at h <;> first | rfl | exact h.elim) (fun f cdv A outer s H vs Q E hr h => ?_)
    exfalso
    unfold sp_values_of at h
    split at h
    next v q => obtain ⟨t, C, _, _, h, _⟩ := h; omega
    next => exact h
  | n + 1 => by
    have ih := ok_values_of tp n
    refine fn_by tp.f_values_of sc_values_of (fun vs H Q E h => by unfold sp_values_of at h; split at h <;> first | rfl | exact h.elim) (fun f cdv A outer s H vs Q E hr h => ⟨_, (pss_cons (g_if (g_val (pe_callB (k_isi K rfl) (by rfl) tp.b_isinstance (by decide +kernel) (pa_cons (gv 0) (pa_cons (pe_glob (v := .ref _) rfl tp.c_Leaf rfl) pa_nil)))) (pss_one (ps_ret (g_lst (pa_cons (g_dget (Nat.lt_of_le_of_lt (Nat.add_le_add_left (by decide : 1 ≤ 64) _) hr.units) (gv 1) (g_prop (ok_Leaf_name tp) hr (by omega) (gv 0) rfl)) pa_nil)))) pss_nil) (pss_cons (ps_set (i := 2) sc_values_of.nd rfl (by first | exact Or.inl rfl | exact Or.inr rfl) (pe_callB (k_sortI2 K rfl hr.units) (by rfl) tp.b_sorted (by decide +kernel) (pa_cons (g_lc2 rfl sc_values_of.nd (kw_list K rfl (g_prop (ok_Group_parts tp) hr (by omega) (gv 0) rfl)) (blkOk_by (own := [("part", 3), ("value", 4)]) (N := (["tree", "values", "taken", "part", "value", "rank"] : List Str)) (sc := defScope s_values_of) (by decide +kernel)) (vs1 := [4]) (by decide) (fun _ _ _ _ _ => pg_name (i := 3) sc_values_of.nd rfl (by first | exact Or.inl rfl | exact Or.inr rfl)) (fun _ _ _ _ _ => (kw_list K rfl (g_call (ih) hr rfl (by omega) (pa_cons (gv 3) (pa_cons (gv 1) pa_nil))))) (fun _ _ _ _ _ => pg_name (i := 4) sc_values_of.nd rfl (by first | exact Or.inl rfl | exact Or.inr rfl)) (fun _ _ _ _ _ => (gv 4))) pa_nil))) (pss_one (ps_ret (g_lc rfl sc_values_of.nd (kw_list K rfl (g_prop (ok_Group_ranks tp) hr (by omega) (gv 0) rfl)) (blkOk_by (own := [("rank", 5)]) (N := (["tree", "values", "taken", "part", "value", "rank"] : List Str)) (sc := defScope s_values_of) (by decide +kernel)) (fun _ _ _ _ _ => pg_name (i := 5) sc_values_of.nd rfl (by first | exact Or.inl rfl | exact Or.inr rfl)) (fun _ _ _ _ _ => pts_nil) (fun _ _ _ _ _ => (pe_ix (k_ix K rfl) (gv 2) (pe_op op_subG (gv 5) pe_int) (fun _ _ => rfl)))))))), ?_⟩)
    unfold sp_values_of at h
    split at h
    next v q =>
      obtain ⟨t, C, m, g, hd, vd, k⟩ := h
      walk_at "w"
      refine ⟨_, is_leafT tp m, ?_⟩
      cases t with
      | leaf z =>
        refine way_t ?_
        have m' := m
        obtain ⟨a, dx, rfl, h1⟩ := m
        obtain ⟨kvs, hq, hv⟩ := vd
        obtain ⟨r, hr1, hr2⟩ := hv z (List.mem_cons_self ..)
        walk_at "w"
        refine ⟨dx, _, h1, z, m', ?_⟩
        refine ⟨kvs, .ref r, hq, hr1, ?_⟩
        refine ⟨(by show 1 ≤ sizeLine; decide), fun p H' f1 s1 e1 => k _ p H' f1 s1 e1 (PI2.one (SqT_same hr2 s1))⟩
      | grp rk ps =>
        have m' := m
        obtain ⟨a, dx, pp, rr, us, rfl, h1, h2, h3, h4⟩ := m
        obtain ⟨ok, rok, hrl⟩ := g.pts
        have hd' := hd
        rw [T.depth] at hd'
        refine way_f ?_
        walk_at "w"
        refine ⟨dx, _, h1, rk, ps, m', fun p1 us1 H1 f1 s1 hm1 e1 => ?_⟩
        have hus := hm1.length
        refine comp2_list (xs := us1) (fun i acc G => Same H1 G ∧ PI2 K G (T.endsPL C (ps.take i)) acc) ⟨Same.refl _, rfl⟩ (fun i acc G f => SqL.of (f.1 _ _ e1)) (fun D i x acc H' hx hD hDl f => ⟨rfl, ?_⟩) (fun D H' acc hD hDl f => ?_)
        · obtain ⟨s2, pl⟩ := f
          have s3 : Same H1 H' := s2.trans off_same
          obtain ⟨t, ht, mt⟩ := (hm1.mono (s1.trans s3)).at_ hx
          have hm := List.mem_of_getElem? ht
          have hdt := T.depthL_le hm
          have gt := g.part hm
          have tk := T.endsPL_take (C := C) ht
          have l1 := T.endsPL_len C (ps.take i)
          have l2 := T.taken_take_le ps i
          have l3 := T.endsP_len C t
          have l4 := (T.width_le gt.sh).1
          have l5 := gt.sz
          have l6 := ok.tk
          have la := pl.length
          walk_at "w"
          refine ⟨t, C, mt, gt, by omega, (vd.mono (s1.trans s3)).sub fun z hz => (T.namesL_mem hm).subset hz, fun ys b H4 f4 s4 e4 pl4 => ?_⟩
          have nD : b ≠ D := by rintro rfl; rw [hDl] at f4; cases f4
          have ly := pl4.length
          refine inner_flat (s4 _ _ hDl) (SqL.of (by rw [off_at nD]; exact e4)) ?_ (fun z => rfl) (fun z => rfl) (fun G s5 => ⟨s2.trans ((off_mono s4).trans s5), by rw [tk]; exact (pl.mono ((off_mono s4).trans s5)).app ((PI2.offT (s4 _ _ hDl) pl4).mono s5)⟩)
          exact lt1000x (by omega)
        · obtain ⟨s2, pl⟩ := f
          rw [hus, List.take_length] at pl
          have s3 : Same H H' := s1.trans (s2.trans off_same)
          walk_at "w"
          refine ⟨acc, _, SqL.of hDl, pl.mono off_same, fun ys p5 H5 f5 s5 e5 pl5 => ?_⟩
          have s6 := s3.trans s5
          have l1 := T.endsPL_len C ps
          have ls : ((T.endsPL C ps).mergeSort iLe).length = T.taken ps := by rw [List.length_mergeSort, l1]
          walk_at "w"
          refine ⟨dx, _, s6 _ _ h1, rk, ps, m'.mono s6, fun p8 H8 f8 s8 e8 => ?_⟩
          refine comp_list (xs := rk.map V.int) (fun i acc G => Same H8 G ∧ PI2 K G ((rk.take i).map fun r => ((T.endsPL C ps).mergeSort iLe).getD (r.toNat - 1) (0, 0)) acc) (by rw [List.length_map]; exact lt1000 hrl) ⟨Same.refl _, rfl⟩ (fun i acc G f => SqL.of (f.1 _ _ e8)) (fun D9 i x acc H9 hx hD9 hDl9 hq9 f => ⟨rfl, ?_⟩) (fun D9 H9 acc hD9 hDl9 hq9 f => ?_)
          · obtain ⟨s9, pl9⟩ := f
            obtain ⟨r0, hr0, rfl⟩ := map_at hx
            have q1 := rok.lo r0 (List.mem_of_getElem? hr0)
            have q2 := rok.hi r0 (List.mem_of_getElem? hr0)
            have sy := s8.trans (s9.trans off_same)
            have lt : r0.toNat - 1 < ((T.endsPL C ps).mergeSort iLe).length := by omega
            obtain ⟨b, hb1, hb2⟩ := (pl5.mono sy).at_ (List.getElem?_eq_getElem lt)
            refine way_t ?_
            walk_at "w"
            refine ⟨ys, .ref b, Or.inl (SqL.of (sy _ _ e5)), at_of (j := r0.toNat - 1) (by omega) hb1, ?_⟩
            refine ⟨hDl9, s9, ?_⟩
            have eg : ((T.endsPL C ps).mergeSort iLe).getD (r0.toNat - 1) (0, 0) = ((T.endsPL C ps).mergeSort iLe)[r0.toNat - 1] := by rw [List.getD_eq_getElem?_getD, List.getElem?_eq_getElem lt]; rfl
            rw [List.take_add_one, hr0, List.map_append]
            refine pl9.app (PI2.offT hDl9 (PI2.one ?_))
            show SqT K H9 b [.int (((T.endsPL C ps).mergeSort iLe).getD (r0.toNat - 1) (0, 0)).1, .int (((T.endsPL C ps).mergeSort iLe).getD (r0.toNat - 1) (0, 0)).2]
            rw [eg]
            exact hb2
          · obtain ⟨s9, pl9⟩ := f
            rw [List.length_map, List.take_length] at pl9
            exact k acc D9 H9 (free_back (s6.trans s8) hD9) (s6.trans (s8.trans (s9.trans off_same))) hDl9 (pl9.mono off_same)
    next => exact h.elim
def oV : Option Int → V
  | none => .non
  | some i => .int i
/-- the worths with the lacking ones beyond -/
def farW (ps : List (Str × Int)) (far : Int) (z : Str) : Int := (look ps z).getD far
structure BdOk (ps : List (Str × Int)) (B : Int) : Prop where
  B0 : 0 < B
  bd : ∀ p ∈ ps, -B < p.2 ∧ p.2 < B
def sp_bound_of (K : PySem.W.Frag) : Sp := fun vs H Q _ => match vs with
  | [v, .ref a, .int j, .ref side] => ∃ t d ps far B, MTk K H t v ∧ t.Gd ∧ LotAt K H a d ps ∧ BdOk ps B ∧ (far = -B ∨ far = B) ∧ SqT K H side [.int (dec B far).1, .int (dec B far).2] ∧ 1 ≤ j ∧ j ≤ t.width ∧
    ∀ H', Same H H' → Q (oV (sideV B ((t.ends (farW ps far)).getD (j.toNat - 1) 0))) H'
  | _ => False
theorem dec_side {B e : Int} (hB : 0 < B) : (decide ((dec B e).1 = 1) = true → sideV B e = some (dec B e).2) ∧ (decide ((dec B e).1 = 1) = false → sideV B e = none) := by
  unfold dec sideV
  by_cases h1 : e ≤ -B
  · simp [h1]
  · by_cases h2 : B ≤ e
    · simp [h1, h2]
    · simp [h1, h2]
theorem ok_bound_of (tp : Top K mg) : FnN P w K mg base 52 "bound_of" [] (sp_bound_of K) := by
  refine fn_by tp.f_bound_of sc_bound_of (fun vs H Q E h => by unfold sp_bound_of at h; split at h <;> first | rfl | exact h.elim) (fun f cdv A outer s H vs Q E hr h => ⟨_, (pss_cons (g_setDc (i := 4) rfl sc_bound_of.nd rfl rfl (sd_true rfl rfl rfl (by decide +kernel)) (kw_list K rfl (PEor (g_meth0 (ok_Leaf_names tp) hr (by omega) (gv 0)) (g_meth0 (ok_Group_names tp 45) hr (by omega) (gv 0)))) (blkOk_by (own := [("name", 7)]) (N := (["tree", "lot", "j", "side", "values", "kind", "worth", "name"] : List Str)) (sc := defScope s_bound_of) (by decide +kernel)) (fun _ _ _ _ _ => pg_name (i := 7) sc_bound_of.nd rfl (by first | exact Or.inl rfl | exact Or.inr rfl)) (fun _ _ _ _ _ => pts_nil) (fun _ _ _ _ _ => (gv 7)) (fun _ _ _ _ _ => (g_ifE (g_cmp (op_inO ((ok_Lot___contains__ tp).sp') (hr.mono (by omega))) (gv 7) (gv 1) (by with_unfolding_all rfl)) (g_tup (pa_cons pe_int (pa_cons (g_getO ((ok_Lot___getitem__ tp).sp') tp.t_Lot (hr.mono (by omega)) (gv 1) (gv 7)) pa_nil))) (gv 3)))) (pss_cons (ps_asg (pe_ix (k_ix K rfl) (g_call (ok_values_of tp 46) hr rfl (by omega) (pa_cons (gv 0) (pa_cons (gv 4) pa_nil))) (pe_op op_subG (gv 2) pe_int) (fun _ _ => rfl)) (pg_tup rfl (pgs_cons (pg_name (i := 5) sc_bound_of.nd rfl (by first | exact Or.inl rfl | exact Or.inr rfl)) (pgs_cons (pg_name (i := 6) sc_bound_of.nd rfl (by first | exact Or.inl rfl | exact Or.inr rfl)) pgs_nil)))) (pss_one (ps_ret (g_ifE (g_cmp (k_eqG K rfl hr.units) (gv 5) pe_int (nomark _)) (gv 6) pe_non))))), ?_⟩)
  unfold sp_bound_of at h
  split at h
  next v a j side =>
    obtain ⟨t, d, ps, far, B, m, g, l, bok, hfar, hs, j1, j2, k⟩ := h
    have B0 := bok.B0
    walk_at "w"
    refine rd_names (i := 0) (n := 45) rfl m g.dp g.sz fun p1 H1 f1 s1 e1 => ?_
    refine ⟨⟨_, SqL.of e1⟩, ?_⟩
    refine dcG_by gName_up (walkS_of walk_list) (fun i acc G => Same H1 G ∧ ∀ z ∈ t.names.take i, ∃ r, valV acc (.inr z) = some (.ref r) ∧ SqT K G r [.int (dec B (farW ps far z)).1, .int (dec B (farW ps far z)).2]) (fun i acc G G' s f => ⟨f.1.trans s, fun z hz => let ⟨r, a, b⟩ := f.2 z hz; ⟨r, a, SqT_same b s⟩⟩) (by rw [List.length_map]; exact lt1000 g.sz) ⟨Same.refl _, fun z hz => by simp at hz⟩ (fun i acc H G _ f s => SqL.of (s _ _ (f.1 _ _ e1))) (fun D i x acc H' hi hx hD hDl ha' f => ?_) (fun D H' acc hD hDl ha' f => ?_)
    · obtain ⟨s2, f2⟩ := f
      obtain ⟨y, hy, rfl⟩ := map_atS hx
      have ym := List.mem_of_getElem? hy
      have s12 := s1.trans (s2.trans off_same)
      have lG := l.mono s12
      obtain ⟨dx', ha'⟩ := lG.o
      refine ⟨rfl, way_t ?_⟩
      walk_at "w"
      refine ⟨dx', _, ha', d, ps, lG, IsNm.le1000 (sh_nm g.sh y ym), fun G6 s8 => ?_⟩
      refine ⟨_, rfl, ?_⟩
      refine way_d (fun c => ?_) fun c => ?_
      · obtain ⟨cc, hcc⟩ := look_some.mp c
        have lG6 := lG.mono s8
        obtain ⟨dx6, ha6⟩ := lG6.o
        walk_at "w"
        refine ⟨dx6, _, ha6, d, ps, cc, lG6, hcc, fun G7 s9 => ?_⟩
        refine ⟨(by show 2 ≤ sizeLine; decide), fun p9 H9 f9 s10 e9 => ?_⟩
        have s89 := s8.trans (s9.trans s10)
        have nD : p9 ≠ D := by rintro rfl; rw [(s8.trans s9) _ _ hDl] at f9; cases f9
        refine ⟨s89 _ _ hDl, s2.trans (off_mono s89), fun z hz => ?_⟩
        rw [valV_put]
        rw [List.take_add_one, hy] at hz
        have bb := bok.bd _ (look_mem hcc)
        have ed : dec B (farW ps far y) = (1, cc) := by
          unfold farW dec
          rw [hcc]
          show (if cc ≤ -B then _ else if B ≤ cc then _ else _) = _
          rw [if_neg (by have := bb.1; show ¬ cc ≤ -B; exact Int.not_le.mpr this), if_neg (by have := bb.2; show ¬ B ≤ cc; exact Int.not_le.mpr this)]
          rfl
        by_cases q : z = y
        · subst q
          rw [if_pos rfl, ed]
          exact ⟨p9, rfl, SqT.of (by rw [off_at nD]; exact e9)⟩
        · rw [if_neg (fun w => q (Sum.inr.inj w))]
          rcases List.mem_append.mp hz with w | w
          · obtain ⟨r, a1, b1⟩ := f2 z w
            exact ⟨r, a1, SqT_same b1 (off_mono s89)⟩
          · exact absurd (by simpa using w) q
      · walk_at "w"
        refine ⟨s8 _ _ hDl, s2.trans (off_mono s8), fun z hz => ?_⟩
        rw [valV_put]
        rw [List.take_add_one, hy] at hz
        have ef : farW ps far y = far := by
          unfold farW
          cases e : look ps y with
          | none => rfl
          | some cc => exact absurd (look_some.mpr ⟨cc, e⟩) c
        by_cases q : z = y
        · subst q
          rw [if_pos rfl, ef]
          have sH : Same H (off D G6) := (s1.trans s2).trans (off_mono s8)
          exact ⟨side, rfl, SqT_same hs sH⟩
        · rw [if_neg (fun w => q (Sum.inr.inj w))]
          rcases List.mem_append.mp hz with w | w
          · obtain ⟨r, a1, b1⟩ := f2 z w
            exact ⟨r, a1, SqT_same b1 (off_mono s8)⟩
          · exact absurd (by simpa using w) q
    · obtain ⟨s2, f2⟩ := f
      rw [List.length_map, List.take_length] at f2
      have s3 : Same H H' := s1.trans (s2.trans off_same)
      walk_at "w"
      refine ⟨t, fun z => dec B (farW ps far z), m.mono s3, g, Nat.lt_succ_of_le g.dp, ⟨acc, hDl, fun z hz => let ⟨r, a, b⟩ := f2 z hz; ⟨r, a, SqT_same b off_same⟩⟩, fun ys p5 H5 f5 s5 e5 pl5 => ?_⟩
      have wb : ∀ n ∈ t.names, -B ≤ farW ps far n ∧ farW ps far n ≤ B ∧ dec B (farW ps far n) = dec B (farW ps far n) := fun n _ => by
        unfold farW
        cases e : look ps n with
        | none => exact ⟨by show -B ≤ far; omega, by show far ≤ B; omega, rfl⟩
        | some cc => have := bok.bd _ (look_mem e); exact ⟨Int.le_of_lt this.1, Int.le_of_lt this.2, rfl⟩
      rw [T.endsP_dec B0 t g.sh wb] at pl5
      have lt : j.toNat - 1 < ((t.ends (farW ps far)).map (dec B)).length := by rw [List.length_map, T.ends_len]; omega
      obtain ⟨b, hb1, hb2⟩ := pl5.at_ (List.getElem?_eq_getElem lt)
      have eg : ((t.ends (farW ps far)).map (dec B))[j.toNat - 1] = dec B ((t.ends (farW ps far)).getD (j.toNat - 1) 0) := by
        rw [List.length_map] at lt
        rw [List.getElem_map, List.getD_eq_getElem?_getD, List.getElem?_eq_getElem lt]; rfl
      rw [eg] at hb2
      have z1 := k H5 (s3.trans s5)
      have ds := dec_side (e := (t.ends (farW ps far)).getD (j.toNat - 1) 0) B0
      generalize (t.ends (farW ps far)).getD (j.toNat - 1) 0 = ev at hb2 z1 ds
      walk_at "w"
      refine ⟨ys, .ref b, Or.inl (SqL.of e5), at_of (j := j.toNat - 1) (by omega) hb1, ?_⟩
      refine ⟨b, _, rfl, hb2, rfl, .int (dec B ev).1, _, rfl, .int (dec B ev).2, [], rfl, rfl, ?_⟩
      walk_at "w"
      cases hk : decide ((dec B ev).1 = 1) with
      | true =>
        refine way_t ?_
        rw [ds.1 hk] at z1
        exact z1
      | false =>
        refine way_f ?_
        rw [ds.2 hk] at z1
        exact z1
  next => exact h.elim
def sp_between (K : PySem.W.Frag) : Sp := fun vs H Q _ => match vs with
  | [v, .ref a, .int j] => ∃ t d ps B, MTk K H t v ∧ t.Gd ∧ LotAt K H a d ps ∧ BdOk ps B ∧ 1 ≤ j ∧ j ≤ t.width ∧
    ∀ p H', H p = none → Same H H' → H' p = some (.tup [oV (sideV B ((t.ends (farW ps (-B))).getD (j.toNat - 1) 0)), oV (sideV B ((t.ends (farW ps B)).getD (j.toNat - 1) 0))]) → Q (.ref p) H'
  | _ => False
theorem ok_between (tp : Top K mg) : FnN P w K mg base 53 "between" [] (sp_between K) ∧ FnN P w K mg base 53 "between" [.int 1] (sp_between K) := by
  refine fn_byD tp.f_between sc_between (fun vs H Q E h => by unfold sp_between at h; split at h <;> first | rfl | exact h.elim) (fun f cdv A outer s H vs Q E hr h => ⟨_, (pss_cons (ps_expr (g_call (ok_check_partial tp) hr rfl (by omega) (pa_cons (gv 0) (pa_cons (gv 1) (pa_cons (gv 2) pa_nil))))) (pss_one (ps_ret (g_tup (pa_cons (g_call (ok_bound_of tp) hr rfl (by omega) (pa_cons (gv 0) (pa_cons (gv 1) (pa_cons (gv 2) (pa_cons (pe_glob (v := .ref _) rfl tp.g_LOW.1 rfl) pa_nil))))) (pa_cons (g_call (ok_bound_of tp) hr rfl (by omega) (pa_cons (gv 0) (pa_cons (gv 1) (pa_cons (gv 2) (pa_cons (pe_glob (v := .ref _) rfl tp.g_HIGH.1 rfl) pa_nil))))) pa_nil)))))), ?_⟩)
  unfold sp_between at h
  split at h
  next v a j =>
    obtain ⟨t, d, ps, B, m, g, l, bok, j1, j2, k⟩ := h
    have B0 := bok.B0
    have el : dec B (-B) = (0, 0) := by unfold dec; rw [if_pos (Int.le_refl _)]
    have eh : dec B B = (2, 0) := by unfold dec; rw [if_neg (by omega), if_pos (Int.le_refl _)]
    walk_at "w"
    refine ⟨t, m, ⟨d, ps, l⟩, j1, j2, ?_⟩
    walk_at "w"
    refine ⟨t, d, ps, -B, B, m, g, l, bok, .inl rfl, by rw [el]; exact tp.g_LOW.2 _, j1, j2, fun H1 s1 => ?_⟩
    refine ⟨t, d, ps, B, B, m.mono s1, g, l.mono s1, bok, .inr rfl, by rw [eh]; exact tp.g_HIGH.2 _, j1, j2, fun H2 s2 => ?_⟩
    refine ⟨(by show 2 ≤ sizeLine; decide), fun p H3 f3 s3 e3 => ?_⟩
    exact k p H3 (free_back (s1.trans s2) f3) (s1.trans (s2.trans s3)) e3
  next => exact h.elim
end LW
namespace LW
open PySem PySem.Spec L2 GG
variable {P : Program} {w : World} {K : PySem.W.Frag} {mg : Str → Option Value} {base : Heap}
def sp_gathered (K : PySem.W.Frag) (n : Nat) : Sp := fun vs H Q _ => match vs with
  | [v, .ref a] => ∃ t d ps W, MTk K H t v ∧ t.depth < n ∧ t.Gd ∧ LotAt K H a d ps ∧ (∀ z ∈ t.names, look ps z = some (W z)) ∧ ∀ r H', H r = none → Same H H' → H' r = some (.lst ((t.ends W).map V.int)) → Q (.ref r) H'
  | _ => False
theorem endsL_snoc {W : Str → Int} {ts : List T} {i : Nat} {t : T} (h : ts[i]? = some t) : T.endsL W (ts.take (i + 1)) = T.endsL W (ts.take i) ++ t.ends W := by
  have ap : ∀ as bs : List T, T.endsL W (as ++ bs) = T.endsL W as ++ T.endsL W bs := by
    intro as
    induction as with
    | nil => intro bs; rfl
    | cons a as ih => intro bs; rw [List.cons_append, T.endsL, T.endsL, ih, List.append_assoc]
  rw [List.take_add_one, h, ap]
  show _ ++ (t.ends W ++ []) = _
  rw [List.append_nil]
theorem ok_gathered (tp : Top K mg) : ∀ n, FnN P w K mg base (n + 5) "gathered" [] (sp_gathered K n)
  | 0 => by
    refine fn_by tp.f_gathered sc_gathered (fun vs H Q E h => by unfold sp_gathered at h; split at h <;> first | rfl | exact h.elim) (fun f cdv A outer s H vs Q E hr h => ?_)
    exfalso
    unfold sp_gathered at h
    split at h
    next v a => obtain ⟨t, d, ps, W, _, h, _⟩ := h; omega
    next => exact h
  | n + 1 => by
    have ih := ok_gathered tp n
    refine fn_by tp.f_gathered sc_gathered (fun vs H Q E h => by unfold sp_gathered at h; split at h <;> first | rfl | exact h.elim) (fun f cdv A outer s H vs Q E hr h => ⟨_, (pss_cons (g_if (g_val (pe_callB (k_isi K rfl) (by rfl) tp.b_isinstance (by decide +kernel) (pa_cons (gv 0) (pa_cons (pe_glob (v := .ref _) rfl tp.c_Leaf rfl) pa_nil)))) (pss_one (ps_ret (g_lst (pa_cons (g_getO ((ok_Lot___getitem__ tp).sp') tp.t_Lot (hr.mono (by omega)) (gv 1) (g_prop (ok_Leaf_name tp) hr (by omega) (gv 0) rfl)) pa_nil)))) pss_nil) (pss_cons (ps_set (i := 2) sc_gathered.nd rfl (by first | exact Or.inl rfl | exact Or.inr rfl) (pe_callB (k_sorted K rfl) (by rfl) tp.b_sorted (by decide +kernel) (pa_cons (g_lc2 rfl sc_gathered.nd (kw_list K rfl (g_prop (ok_Group_parts tp) hr (by omega) (gv 0) rfl)) (blkOk_by (own := [("part", 3), ("worth", 4)]) (N := (["tree", "lot", "taken", "part", "worth", "rank"] : List Str)) (sc := defScope s_gathered) (by decide +kernel)) (vs1 := [4]) (by decide) (fun _ _ _ _ _ => pg_name (i := 3) sc_gathered.nd rfl (by first | exact Or.inl rfl | exact Or.inr rfl)) (fun _ _ _ _ _ => (kw_list K rfl (g_call (ih) hr rfl (by omega) (pa_cons (gv 3) (pa_cons (gv 1) pa_nil))))) (fun _ _ _ _ _ => pg_name (i := 4) sc_gathered.nd rfl (by first | exact Or.inl rfl | exact Or.inr rfl)) (fun _ _ _ _ _ => (gv 4))) pa_nil))) (pss_one (ps_ret (g_lc rfl sc_gathered.nd (kw_list K rfl (g_prop (ok_Group_ranks tp) hr (by omega) (gv 0) rfl)) (blkOk_by (own := [("rank", 5)]) (N := (["tree", "lot", "taken", "part", "worth", "rank"] : List Str)) (sc := defScope s_gathered) (by decide +kernel)) (fun _ _ _ _ _ => pg_name (i := 5) sc_gathered.nd rfl (by first | exact Or.inl rfl | exact Or.inr rfl)) (fun _ _ _ _ _ => pts_nil) (fun _ _ _ _ _ => (pe_ix (k_ix K rfl) (gv 2) (pe_op op_subG (gv 5) pe_int) (fun _ _ => rfl)))))))), ?_⟩)
    unfold sp_gathered at h
    split at h
    next v a =>
      obtain ⟨t, d, ps, W, m, hd, g, l, hw, k⟩ := h
      walk_at "w"
      refine ⟨_, is_leafT tp m, ?_⟩
      cases t with
      | leaf z =>
        refine way_t ?_
        have m' := m
        obtain ⟨a', dx, rfl, h1⟩ := m
        obtain ⟨dl, hl⟩ := l.o
        walk_at "w"
        refine ⟨dx, _, h1, z, m', ?_⟩
        refine ⟨dl, _, hl, d, ps, W z, l, hw z (List.mem_cons_self ..), fun H1 s1 => ?_⟩
        refine ⟨(by show 1 ≤ sizeLine; decide), fun p H' f1 s2 e1 => k p H' (free_back s1 f1) (s1.trans s2) e1⟩
      | grp rk ps' =>
        have m' := m
        obtain ⟨a', dx, pp, rr, us, rfl, h1, h2, h3, h4⟩ := m
        obtain ⟨ok, rok, hrl⟩ := g.pts
        have hd' := hd
        rw [T.depth] at hd'
        refine way_f ?_
        walk_at "w"
        refine ⟨dx, _, h1, rk, ps', m', fun p1 us1 H1 f1 s1 hm1 e1 => ?_⟩
        have hus := hm1.length
        refine comp2_list (xs := us1) (fun i acc G => Same H1 G ∧ acc = (T.endsL W (ps'.take i)).map V.int) ⟨Same.refl _, rfl⟩ (fun i acc G f => SqL.of (f.1 _ _ e1)) (fun D i x acc H' hx hD hDl f => ⟨rfl, ?_⟩) (fun D H' acc hD hDl f => ?_)
        · obtain ⟨s2, rfl⟩ := f
          have s3 : Same H1 H' := s2.trans off_same
          obtain ⟨t, ht, mt⟩ := (hm1.mono (s1.trans s3)).at_ hx
          have hm := List.mem_of_getElem? ht
          have hdt := T.depthL_le hm
          have gt := g.part hm
          have tk := endsL_snoc (W := W) ht
          have l1 := T.endsL_len W (ps'.take i)
          have l2 := T.taken_take_le ps' i
          have l3 := T.ends_len W t
          have l4 := (T.width_le gt.sh).1
          have l5 := gt.sz
          have l6 := ok.tk
          walk_at "w"
          refine ⟨t, d, ps, W, mt, by omega, gt, l.mono (s1.trans s3), fun z hz => hw z ((T.namesL_mem hm).subset hz), fun b H4 f4 s4 e4 => ?_⟩
          have nD : b ≠ D := by rintro rfl; rw [hDl] at f4; cases f4
          refine inner_flat (s4 _ _ hDl) (SqL.of (by rw [off_at nD]; exact e4)) ?_ (fun z => rfl) (fun z => rfl) (fun G s5 => ⟨s2.trans ((off_mono s4).trans s5), by rw [tk, List.map_append]⟩)
          rw [List.length_map, List.length_map]
          exact lt1000x (by omega)
        · obtain ⟨s2, rfl⟩ := f
          rw [hus, List.take_length] at hDl
          have s3 : Same H H' := s1.trans (s2.trans off_same)
          walk_at "w"
          refine ⟨_, SqL.of hDl, fun ns p5 H5 pm pw f5 s5 e5 => ?_⟩
          obtain rfl := srt_of pm pw
          have sl : (srt (T.endsL W ps')).length = T.taken ps' := by rw [(srt_perm _).length_eq, T.endsL_len]
          have s6 := s3.trans s5
          walk_at "w"
          refine ⟨dx, _, s6 _ _ h1, rk, ps', m'.mono s6, fun p8 H8 f8 s8 e8 => ?_⟩
          have ez := s8 _ _ e5
          refine comp_list (xs := rk.map V.int) (fun i acc G => Same H8 G ∧ acc = ((rk.take i).map fun r => (srt (T.endsL W ps')).getD (r.toNat - 1) 0).map V.int) (by rw [List.length_map]; exact lt1000 hrl) ⟨Same.refl _, rfl⟩ (fun i acc G f => SqL.of (f.1 _ _ e8)) (fun D9 i x acc H9 hx hD9 hDl9 hq9 f => ⟨rfl, ?_⟩) (fun D9 H9 acc hD9 hDl9 hq9 f => ?_)
          · obtain ⟨s9, rfl⟩ := f
            obtain ⟨r0, hr0, rfl⟩ := map_at hx
            have q1 := rok.lo r0 (List.mem_of_getElem? hr0)
            have q2 := rok.hi r0 (List.mem_of_getElem? hr0)
            refine way_t ?_
            walk_at "w"
            refine ⟨_, .int ((srt (T.endsL W ps')).getD (r0.toNat - 1) 0), Or.inl (SqL.of ((s9.trans off_same) _ _ ez)), at_of (j := r0.toNat - 1) (by omega) (getD_map (by omega)), ?_⟩
            refine ⟨hDl9, s9, ?_⟩
            rw [List.take_add_one, hr0, List.map_append, List.map_append]
            rfl
          · obtain ⟨s9, rfl⟩ := f
            rw [List.length_map, List.take_length] at hDl9
            have z1 := k D9 H9 (free_back (s6.trans s8) hD9) (s6.trans (s8.trans (s9.trans off_same)))
            rw [T.ends] at z1
            exact z1 hDl9
    next => exact h.elim
def sp_end_of (K : PySem.W.Frag) : Sp := fun vs H Q _ => match vs with
  | [v, .ref a, .int j] => ∃ t d ps W, MTk K H t v ∧ t.Gd ∧ LotAt K H a d ps ∧ (∀ z ∈ t.names, look ps z = some (W z)) ∧ 1 ≤ j ∧ j ≤ t.width ∧ ∀ H', Same H H' → Q (.int ((t.ends W).getD (j.toNat - 1) 0)) H'
  | _ => False
theorem ok_end_of (tp : Top K mg) : FnN P w K mg base 99 "end_of" [] (sp_end_of K) ∧ FnN P w K mg base 99 "end_of" [.int 1] (sp_end_of K) := by
  refine fn_byD tp.f_end_of sc_end_of (fun vs H Q E h => by unfold sp_end_of at h; split at h <;> first | rfl | exact h.elim) (fun f cdv A outer s H vs Q E hr h => ⟨_, (pss_cons (ps_expr (g_call (ok_check_tree tp) hr rfl (by omega) (pa_cons (gv 0) pa_nil))) (pss_cons (ps_expr (g_call (ok_check_lot tp) hr rfl (by omega) (pa_cons (gv 1) pa_nil))) (pss_cons (ps_expr (g_call (ok_check_end tp) hr rfl (by omega) (pa_cons (gv 0) (pa_cons (gv 2) pa_nil)))) (pss_cons (ps_expr (g_call (ok_check_full tp) hr rfl (by omega) (pa_cons (gv 0) (pa_cons (gv 1) pa_nil)))) (pss_one (ps_ret (pe_ix (k_ix K rfl) (g_call (ok_gathered tp 46) hr rfl (by omega) (pa_cons (gv 0) (pa_cons (gv 1) pa_nil))) (pe_op op_subG (gv 2) pe_int) (fun _ _ => rfl)))))))), ?_⟩)
  unfold sp_end_of at h
  split at h
  next v a j =>
    obtain ⟨t, d, ps, W, m, g, l, hw, j1, j2, k⟩ := h
    walk_at "w"
    refine ⟨t, m, ?_⟩
    walk_at "w"
    refine ⟨⟨d, ps, l⟩, ?_⟩
    walk_at "w"
    refine ⟨t, m, j1, j2, ?_⟩
    walk_at "w"
    refine ⟨t, d, ps, m, g, l, fun z hz => look_some.mpr ⟨_, hw z hz⟩, fun H1 s1 => ?_⟩
    walk_at "w"
    refine ⟨t, d, ps, W, m.mono s1, Nat.lt_succ_of_le g.dp, g, l.mono s1, hw, fun r H2 f2 s2 e2 => ?_⟩
    walk_at "w"
    refine ⟨_, .int ((t.ends W).getD (j.toNat - 1) 0), Or.inl (SqL.of e2), at_of (j := j.toNat - 1) (by omega) (getD_map (by rw [T.ends_len]; omega)), ?_⟩
    exact k H2 (s1.trans s2)
  next => exact h.elim
end LW
namespace LW
open PySem PySem.Spec L2 GG
variable {P : Program} {w : World} {K : PySem.W.Frag} {mg : Str → Option Value} {base : Heap}
abbrev CDk (K : PySem.W.Frag) : Addr := He.ga K "Desk"
/-- the leaves' worths of a lot -/
def initP (t : T) (ps : List (Str × Int)) : List (Str × Int) := (t.names.filter fun z => decide (z ∈ ps.map (·.1))).map fun z => (z, wOf ps z)
def oW : Option Int → V
  | none => .non
  | some i => .int i
/-- changes: a name and the worth ahead -/
def TRL (H : Hp) : List (Str × Option Int) → List V → Prop
  | [], vs => vs = []
  | x :: l, vs => ∃ q r, vs = .ref q :: r ∧ H q = some (.tup [.str x.1, oW x.2]) ∧ TRL H l r
theorem TRL.mono {H H' : Hp} (s : ∀ b o, H b = some (.tup o) → H' b = some (.tup o)) : ∀ {l : List (Str × Option Int)} {vs : List V}, TRL H l vs → TRL H' l vs
  | [], vs, h => h
  | x :: l, vs, ⟨q, r, e, h1, h2⟩ => ⟨q, r, e, s _ _ h1, TRL.mono s h2⟩
theorem TRL.length {H : Hp} : ∀ {l : List (Str × Option Int)} {vs : List V}, TRL H l vs → vs.length = l.length
  | [], vs, h => by subst h; rfl
  | x :: l, vs, ⟨q, r, e, _, h⟩ => by subst e; simp [TRL.length h]
theorem TRL.app {H : Hp} : ∀ {l : List (Str × Option Int)} {vs : List V} {m : List (Str × Option Int)} {ws : List V}, TRL H l vs → TRL H m ws → TRL H (l ++ m) (vs ++ ws)
  | [], vs, m, ws, h, h' => by subst h; exact h'
  | x :: l, vs, m, ws, ⟨q, r, e, h1, h2⟩, h' => by subst e; exact ⟨q, r ++ ws, rfl, h1, TRL.app h2 h'⟩
theorem TRL.one {H : Hp} {q : Addr} {z : Str} {c : Option Int} (h : H q = some (.tup [.str z, oW c])) : TRL H [(z, c)] [.ref q] := ⟨q, [], rfl, h, rfl⟩
def dkf (v : V) (d r : Addr) : List (Str × V) := [("plan", v), ("worths", .ref d), ("trail", .ref r)]
/-- a desk at a, its worths at d, its changes at r -/
structure DeskAt (K : PySem.W.Frag) (H : Hp) (a d r : Addr) (t : T) (v : V) (ps : List (Str × Int)) (tl : List (Str × Option Int)) : Prop where
  o : ∃ dx, H a = some (.ins (CDk K) dx (dkf v d r))
  k : H d = some (.dK (kvI ps))
  l : ∃ vs, H r = some (.lst vs) ∧ TRL H tl vs
  m : MTk K H t v
  nd : (ps.map (·.1)).Nodup
  sub : ∀ x ∈ ps, x.1 ∈ t.names
theorem DeskAt.mono {K : PySem.W.Frag} {H H' : Hp} {a d r : Addr} {t : T} {v : V} {ps : List (Str × Int)} {tl : List (Str × Option Int)} (h : DeskAt K H a d r t v ps tl) (s : Same H H') : DeskAt K H' a d r t v ps tl :=
  ⟨h.o.imp fun _ e => s _ _ e, s _ _ h.k, h.l.imp fun _ e => ⟨s _ _ e.1, e.2.mono fun b o e => s _ _ e⟩, h.m.mono s, h.nd, h.sub⟩
theorem initP_fst (t : T) (ps : List (Str × Int)) : (initP t ps).map (·.1) = t.names.filter fun z => decide (z ∈ ps.map (·.1)) := by unfold initP; rw [List.map_map]; exact List.map_id' _
def sp_Desk (K : PySem.W.Frag) : Sp := fun vs H Q _ => match vs with
  | [v, .ref lt] => ∃ t d0 ps0, MTk K H t v ∧ t.Gd ∧ LotAt K H lt d0 ps0 ∧ ∀ a d r H', H a = none → H d = none → H r = none → Same H H' → DeskAt K H' a d r t v (initP t ps0) [] → Q (.ref a) H'
  | [v, .non] => ∃ t, MTk K H t v ∧ t.Gd ∧ ∀ a d r H', H a = none → H d = none → H r = none → Same H H' → DeskAt K H' a d r t v [] [] → Q (.ref a) H'
  | _ => False
def sp_Desk___init__ (K : PySem.W.Frag) : Sp := fun vs H Q _ => match vs with
  | [.ref a, v, .ref lt] => ∃ dx H0 t d0 ps0, H a = some (.ins (CDk K) dx []) ∧ H0 a = none ∧ Same H0 H ∧ MTk K H0 t v ∧ t.Gd ∧ LotAt K H0 lt d0 ps0 ∧ ∀ d r H', H0 d = none → H0 r = none → Same H0 H' → DeskAt K H' a d r t v (initP t ps0) [] → Q .non H'
  | [.ref a, v, .non] => ∃ dx H0 t, H a = some (.ins (CDk K) dx []) ∧ H0 a = none ∧ Same H0 H ∧ MTk K H0 t v ∧ t.Gd ∧ ∀ d r H', H0 d = none → H0 r = none → Same H0 H' → DeskAt K H' a d r t v [] [] → Q .non H'
  | _ => False
theorem mk_Desk (tp : Top K mg) : MkN P w K mg base 60 "Desk" (sp_Desk K) ∧ MkN P w K mg base 60 "Desk" (fun vs H Q E => sp_Desk K (vs ++ [.non]) H Q E) := by
  refine mk_byD (sp0 := sp_Desk___init__ K) tp.m_Desk___init__ tp.k_Desk.1 tp.k_Desk.2 tp.c_Desk sc_Desk___init__ (fun vs H Q E h => by unfold sp_Desk___init__ at h; split at h <;> first | rfl | exact h.elim) (fun vs H Q h y dy hy hdy hne => ?_) (fun f cdv A outer s H vs Q E hr h => ⟨_, (pss_cons (ps_expr (g_call (ok_check_tree tp) hr rfl (by omega) (pa_cons (gv 1) pa_nil))) (pss_cons (g_if (g_cmp op_isnG (gv 2) pe_non (nomark _)) (pss_one (ps_expr (g_call (ok_check_lot tp) hr rfl (by omega) (pa_cons (gv 2) pa_nil)))) pss_nil) (pss_cons (ps_set (i := 3) sc_Desk___init__.nd rfl (by first | exact Or.inl rfl | exact Or.inr rfl) (g_ifE (g_cmp op_isG (gv 2) pe_non (nomark _)) (g_make0 ((mk_Lot tp).2) hr rfl (by omega)) (gv 2))) (pss_cons (k_fldS K rfl (gv 0) (gv 1) rfl) (pss_cons (k_fldS K rfl (gv 0) (g_dc rfl sc_Desk___init__.nd (kw_list K rfl (PEor (g_meth0 (ok_Leaf_names tp) hr (by omega) (gv 1)) (g_meth0 (ok_Group_names tp 45) hr (by omega) (gv 1)))) (blkOk_by (own := [("name", 4)]) (N := (["self", "tree", "lot", "known", "name"] : List Str)) (sc := defScope s_Desk___init__) (by decide +kernel)) (fun _ _ _ _ _ => pg_name (i := 4) sc_Desk___init__.nd rfl (by first | exact Or.inl rfl | exact Or.inr rfl)) (fun _ _ _ _ _ => (pts_one (g_cmp (op_inO ((ok_Lot___contains__ tp).sp') (hr.mono (by omega))) (gv 4) (gv 3) (by with_unfolding_all rfl)))) (fun _ _ _ _ _ => (gv 4)) (fun _ _ _ _ _ => (g_getO ((ok_Lot___getitem__ tp).sp') tp.t_Lot (hr.mono (by omega)) (gv 3) (gv 4)))) rfl) (pss_one (k_fldS K rfl (gv 0) (g_lst pa_nil) rfl))))))), ?_⟩)
  · have s0 : ∀ o, Same H (upd (upd H dy (.own y)) y o) := fun o b u e => by rw [upd_ne (ne_of_none e hy), upd_ne (ne_of_none e hdy)]; exact e
    unfold sp_Desk at h
    split at h
    next v lt =>
      obtain ⟨t, d0, ps0, m, g, l, q⟩ := h
      exact ⟨dy, H, t, d0, ps0, upd_same, hy, s0 _, m, g, l, fun d r H' f f' s l => ⟨rfl, q y d r H' hy f f' s l⟩⟩
    next v =>
      obtain ⟨t, m, g, q⟩ := h
      exact ⟨dy, H, t, upd_same, hy, s0 _, m, g, fun d r H' f f' s l => ⟨rfl, q y d r H' hy f f' s l⟩⟩
    next => exact h.elim
  · unfold sp_Desk___init__ at h
    split at h
    next a v lt =>
      obtain ⟨dx, H0, t, d0, ps0, ha, h0a, s0, m, g, l, q⟩ := h
      walk_at "w"
      refine ⟨t, m.mono s0, ?_⟩
      walk_at "w"
      refine way_t ?_
      have l0 := l.mono s0
      walk_at "w"
      refine ⟨⟨d0, ps0, l0⟩, ?_⟩
      walk_at "w"
      refine way_f ?_
      walk_at "w"
      refine ⟨_, dx, [], ha, tp.i_Desk.cl, tp.n_Desk_plan, (by decide), fun H1 s1 e1 => ?_⟩
      have sA : Same H0 H1 := SameX.un s0 h0a s1
      walk_at "w"
      refine rd_names (i := 1) (n := 45) rfl (m.mono sA) g.dp g.sz fun p1 H2 f2 s2 e2 => ?_
      refine ⟨⟨_, SqL.of e2⟩, ?_⟩
      have l2 := (l.mono sA).mono s2
      refine dcG_by gName_up (walkS_of walk_list) (fun i acc G => Same H2 G ∧ acc = kvI (((t.names.take i).filter fun z => decide (z ∈ ps0.map (·.1))).map fun z => (z, wOf ps0 z))) (fun i acc G G' s f => ⟨f.1.trans s, f.2⟩) (by rw [List.length_map]; exact lt1000 g.sz) ⟨Same.refl _, rfl⟩ (fun i acc H G _ f s => SqL.of (s _ _ (f.1 _ _ e2))) (fun D i x acc H' hi hx hD hDl ha' f => ?_) (fun D H' acc hD hDl ha' f => ?_)
      · obtain ⟨s3, rfl⟩ := f
        obtain ⟨z, hz, rfl⟩ := map_atS hx
        have zt := List.mem_of_getElem? hz
        have lG := l2.mono (s3.trans off_same)
        obtain ⟨dx', hl'⟩ := lG.o
        have ez : (t.names.take (i + 1)).filter (fun z => decide (z ∈ ps0.map (·.1))) = (t.names.take i).filter (fun z => decide (z ∈ ps0.map (·.1))) ++ (if decide (z ∈ ps0.map (·.1)) = true then [z] else []) := filt_takeS (p := fun z => decide (z ∈ ps0.map (·.1))) hz
        have nin : z ∉ t.names.take i := fun q0 => by
          have nd := g.nd
          have e : t.names = t.names.take i ++ z :: t.names.drop (i + 1) := by
            obtain ⟨hi, e⟩ := List.getElem?_eq_some_iff.mp hz
            rw [← e, List.getElem_cons_drop, List.take_append_drop]
          rw [e, List.nodup_append] at nd
          exact nd.2.2 _ q0 _ (List.mem_cons_self ..) rfl
        refine ⟨rfl, ?_⟩
        walk_at "w"
        refine ⟨dx', _, hl', d0, ps0, lG, IsNm.le1000 (sh_nm g.sh z zt), fun G6 s8 => ?_⟩
        refine ⟨_, rfl, ?_⟩
        refine way_d (fun c => ?_) fun c => ?_
        · obtain ⟨cc, hcc⟩ := look_some.mp c
          have lG6 := lG.mono s8
          obtain ⟨dx6, ha6⟩ := lG6.o
          walk_at "w"
          refine ⟨dx6, _, ha6, d0, ps0, cc, lG6, hcc, fun G7 s9 => ?_⟩
          refine ⟨(s8.trans s9) _ _ hDl, s3.trans (off_mono (s8.trans s9)), ?_⟩
          have ew : wOf ps0 z = cc := by unfold wOf; rw [hcc]; rfl
          rw [ez, if_pos (decide_eq_true c), List.map_append, ← ew, putK_new]
          · unfold kvI; rw [List.map_append]; rfl
          · rw [valV_kvI]
            cases e : look (((t.names.take i).filter fun z => decide (z ∈ ps0.map (·.1))).map fun z => (z, wOf ps0 z)) z with
            | none => rfl
            | some v =>
              obtain ⟨p, hp, q0⟩ := List.mem_map.mp (look_some.mpr ⟨v, e⟩)
              obtain ⟨y, hy, rfl⟩ := List.mem_map.mp hp
              exact absurd (q0 ▸ (List.mem_filter.mp hy).1) nin
        · walk_at "w"
          refine ⟨s8 _ _ hDl, s3.trans (off_mono s8), ?_⟩
          rw [ez, if_neg (by simpa using c), List.append_nil]
      · obtain ⟨s3, rfl⟩ := f
        rw [List.length_map, List.take_length] at hDl
        have s4 : Same H2 H' := s3.trans off_same
        have aD : a ≠ D := by rintro rfl; rw [s2 _ _ e1] at hD; cases hD
        walk_at "w"
        refine ⟨_, dx, _, s4 _ _ (s2 _ _ e1), tp.i_Desk.cl, tp.n_Desk_worths, (show (1 : Nat) < 1000 by decide), fun H5 s5 e5 => ?_⟩
        have s05 : Same H0 H5 := SameX.un (sA.trans (s2.trans s4)) h0a s5
        walk_at "w"
        refine ⟨(by show 0 ≤ sizeLine; decide), fun pr H6 f6 s6 e6 => ?_⟩
        walk_at "w"
        refine ⟨_, dx, _, s6 _ _ e5, tp.i_Desk.cl, tp.n_Desk_trail, (show (2 : Nat) < 1000 by decide), fun H7 s7 e7 => ?_⟩
        have pra : pr ≠ a := by rintro rfl; rw [e5] at f6; cases f6
        have s07 : Same H0 H7 := SameX.un (s05.trans s6) h0a s7
        refine q D pr H7 (free_back (sA.trans s2) hD) (free_back s05 f6) s07 ⟨⟨dx, e7⟩, s7 _ _ aD.symm (s6 _ _ (s5 _ _ aD.symm hDl)), ⟨[], s7 _ _ pra e6, rfl⟩, m.mono s07, ?_, fun x hx => ?_⟩
        · rw [initP_fst]; exact g.nd.sublist List.filter_sublist
        · have : x.1 ∈ (initP t ps0).map (·.1) := List.mem_map.mpr ⟨x, hx, rfl⟩
          rw [initP_fst] at this
          exact (List.mem_filter.mp this).1
    next a v =>
      obtain ⟨dx, H0, t, ha, h0a, s0, m, g, q⟩ := h
      walk_at "w"
      refine ⟨t, m.mono s0, ?_⟩
      walk_at "w"
      refine way_f ?_
      walk_at "w"
      refine way_t ?_
      walk_at "w"
      refine fun ka kd Hk fk fkd sk lk => ?_
      walk_at "w"
      have ska := sk _ _ ha
      refine ⟨_, dx, [], ska, tp.i_Desk.cl, tp.n_Desk_plan, (by decide), fun H1 s1 e1 => ?_⟩
      have sA : Same H0 H1 := SameX.un (s0.trans sk) h0a s1
      have kaa : ka ≠ a := (ne_of_none ha fk).symm
      have kda : kd ≠ a := (ne_of_none ha fkd).symm
      have lA : LotAt K H1 ka kd [] := ⟨lk.o.imp fun _ e => s1 _ _ kaa e, s1 _ _ kda lk.k, lk.ok⟩
      walk_at "w"
      refine rd_names (i := 1) (n := 45) rfl (m.mono sA) g.dp g.sz fun p1 H2 f2 s2 e2 => ?_
      refine ⟨⟨_, SqL.of e2⟩, ?_⟩
      have l2 := lA.mono s2
      refine dcG_by gName_up (walkS_of walk_list) (fun i acc G => Same H2 G ∧ acc = []) (fun i acc G G' s f => ⟨f.1.trans s, f.2⟩) (by rw [List.length_map]; exact lt1000 g.sz) ⟨Same.refl _, rfl⟩ (fun i acc H G _ f s => SqL.of (s _ _ (f.1 _ _ e2))) (fun D i x acc H' hi hx hD hDl ha' f => ?_) (fun D H' acc hD hDl ha' f => ?_)
      · obtain ⟨s3, rfl⟩ := f
        obtain ⟨z, hz, rfl⟩ := map_atS hx
        have zt := List.mem_of_getElem? hz
        have lG := l2.mono (s3.trans off_same)
        obtain ⟨dx', hl'⟩ := lG.o
        refine ⟨rfl, ?_⟩
        walk_at "w"
        refine ⟨dx', _, hl', kd, [], lG, IsNm.le1000 (sh_nm g.sh z zt), fun G6 s8 => ?_⟩
        refine ⟨_, rfl, ?_⟩
        refine way_d (fun c => ?_) fun c => ?_
        · exact absurd c (by simp)
        · walk_at "w"
          exact ⟨s8 _ _ hDl, s3.trans (off_mono s8), rfl⟩
      · obtain ⟨s3, rfl⟩ := f
        have s4 : Same H2 H' := s3.trans off_same
        have aD : a ≠ D := by rintro rfl; rw [s2 _ _ e1] at hD; cases hD
        walk_at "w"
        refine ⟨_, dx, _, s4 _ _ (s2 _ _ e1), tp.i_Desk.cl, tp.n_Desk_worths, (show (1 : Nat) < 1000 by decide), fun H5 s5 e5 => ?_⟩
        have s05 : Same H0 H5 := SameX.un (sA.trans (s2.trans s4)) h0a s5
        walk_at "w"
        refine ⟨(by show 0 ≤ sizeLine; decide), fun pr H6 f6 s6 e6 => ?_⟩
        walk_at "w"
        refine ⟨_, dx, _, s6 _ _ e5, tp.i_Desk.cl, tp.n_Desk_trail, (show (2 : Nat) < 1000 by decide), fun H7 s7 e7 => ?_⟩
        have pra : pr ≠ a := by rintro rfl; rw [e5] at f6; cases f6
        have s07 : Same H0 H7 := SameX.un (s05.trans s6) h0a s7
        exact q D pr H7 (free_back (sA.trans s2) hD) (free_back s05 f6) s07 ⟨⟨dx, e7⟩, s7 _ _ aD.symm (s6 _ _ (s5 _ _ aD.symm hDl)), ⟨[], s7 _ _ pra e6, rfl⟩, m.mono s07, by simp, fun x hx => by simp at hx⟩
    next => exact h.elim
def sp_Desk_tree (K : PySem.W.Frag) : Sp := fun vs H Q _ => match vs with
  | [.ref a] => ∃ d r t v ps tl, DeskAt K H a d r t v ps tl ∧ Q v H
  | _ => False
theorem ok_Desk_tree (tp : Top K mg) : PrN P w K mg base 1 (CDk K) "tree" (sp_Desk_tree K) := by
  refine pr_by tp.m_Desk_tree sc_Desk_tree (fun vs H Q E h => by unfold sp_Desk_tree at h; split at h <;> first | rfl | exact h.elim) (fun f cdv A outer s H vs Q E hr h => ⟨_, (pss_one (ps_ret (k_fld K rfl (gv 0) rfl))), ?_⟩)
  unfold sp_Desk_tree at h
  split at h
  next a =>
    obtain ⟨d, r, t, v, ps, tl, l, q⟩ := h
    obtain ⟨dx, ha⟩ := l.o
    walk_at "w"
    exact ⟨_, dx, _, v, ha, tp.i_Desk.cl, tp.n_Desk_plan, rfl, q⟩
  next => exact h.elim
def sp_Desk_made (K : PySem.W.Frag) : Sp := fun vs H Q _ => match vs with
  | [.ref a] => ∃ d r t v ps tl, DeskAt K H a d r t v ps tl ∧ Q (.int tl.length) H
  | _ => False
theorem ok_Desk_made (tp : Top K mg) : PrN P w K mg base 1 (CDk K) "made" (sp_Desk_made K) := by
  refine pr_by tp.m_Desk_made sc_Desk_made (fun vs H Q E h => by unfold sp_Desk_made at h; split at h <;> first | rfl | exact h.elim) (fun f cdv A outer s H vs Q E hr h => ⟨_, (pss_one (ps_ret (pe_callB (k_len K rfl) (by rfl) tp.b_len (by decide +kernel) (pa_cons (k_fld K rfl (gv 0) rfl) pa_nil)))), ?_⟩)
  unfold sp_Desk_made at h
  split at h
  next a =>
    obtain ⟨d, r, t, v, ps, tl, l, q⟩ := h
    obtain ⟨dx, ha⟩ := l.o
    obtain ⟨vs, hr2, tr⟩ := l.l
    walk_at "w"
    refine ⟨_, dx, _, .ref r, ha, tp.i_Desk.cl, tp.n_Desk_trail, rfl, ?_⟩
    refine ⟨_, Or.inl (SqL.of hr2), ?_⟩
    rw [tr.length]; exact q
  next => exact h.elim
def sp_Desk___len__ (K : PySem.W.Frag) : Sp := fun vs H Q _ => match vs with
  | [.ref a] => ∃ d r t v ps tl, DeskAt K H a d r t v ps tl ∧ Q (.int ps.length) H
  | _ => False
theorem ok_Desk___len__ (tp : Top K mg) : MtN P w K mg base 1 (CDk K) "__len__" [] (sp_Desk___len__ K) := by
  refine mt_by tp.m_Desk___len__ sc_Desk___len__ (fun vs H Q E h => by unfold sp_Desk___len__ at h; split at h <;> first | rfl | exact h.elim) (fun f cdv A outer s H vs Q E hr h => ⟨_, (pss_one (ps_ret (pe_callB c_lenD (by rfl) tp.b_len (by decide +kernel) (pa_cons (k_fld K rfl (gv 0) rfl) pa_nil)))), ?_⟩)
  unfold sp_Desk___len__ at h
  split at h
  next a =>
    obtain ⟨d, r, t, v, ps, tl, l, q⟩ := h
    obtain ⟨dx, ha⟩ := l.o
    walk_at "w"
    refine ⟨_, dx, _, .ref d, ha, tp.i_Desk.cl, tp.n_Desk_worths, rfl, ?_⟩
    refine ⟨kvI ps, l.k, ?_⟩
    rw [kvI_len]; exact q
  next => exact h.elim
def sp_Desk_check_leaf (K : PySem.W.Frag) : Sp := fun vs H Q _ => match vs with
  | [.ref a, .str z] => ∃ d r t v ps tl, DeskAt K H a d r t v ps tl ∧ t.Gd ∧ z ∈ t.names ∧ ∀ H', Same H H' → Q .non H'
  | _ => False
theorem ok_Desk_check_leaf (tp : Top K mg) : MtN P w K mg base 50 (CDk K) "check_leaf" [] (sp_Desk_check_leaf K) := by
  refine mt_by tp.m_Desk_check_leaf sc_Desk_check_leaf (fun vs H Q E h => by unfold sp_Desk_check_leaf at h; split at h <;> first | rfl | exact h.elim) (fun f cdv A outer s H vs Q E hr h => ⟨_, (pss_cons (ps_expr (g_call (ok_check_name tp) hr rfl (by omega) (pa_cons (gv 1) pa_nil))) (pss_one (g_if (g_cmp (OpRor (op_ninO (((ok_Leaf___contains__ tp).sp')) (hr.mono (by omega))) (op_ninO (((ok_Group___contains__ tp).sp')) (hr.mono (by omega)))) (gv 1) (k_fld K rfl (gv 0) rfl) (by with_unfolding_all rfl)) (pss_one ps_never) pss_nil))), ?_⟩)
  unfold sp_Desk_check_leaf at h
  split at h
  next a z =>
    obtain ⟨d, r, t, v, ps, tl, l, g, hz, k⟩ := h
    obtain ⟨dx, ha⟩ := l.o
    walk_at "w"
    refine ⟨sh_nm g.sh z hz, fun H1 s1 => ?_⟩
    have l1 := l.mono s1
    obtain ⟨dx1, ha1⟩ := l1.o
    walk_at "w"
    refine ⟨_, dx1, _, v, ha1, tp.i_Desk.cl, tp.n_Desk_plan, rfl, ?_⟩
    refine rd_in (f := fun b => !b) l1.m g fun H2 s2 => ?_
    rw [decide_eq_true hz]
    refine way_f ?_
    exact k H2 (s1.trans s2)
  next => exact h.elim
def sp_Desk___contains__ (K : PySem.W.Frag) : Sp := fun vs H Q _ => match vs with
  | [.ref a, .str z] => ∃ d r t v ps tl, DeskAt K H a d r t v ps tl ∧ Q (.bl (decide (z ∈ ps.map (·.1)))) H
  | [.ref a, v] => IsT K H v (.ty "str") false ∧ Q (.bl false) H
  | _ => False
theorem ok_Desk___contains__ (tp : Top K mg) : MtN P w K mg base 1 (CDk K) "__contains__" [] (sp_Desk___contains__ K) := by
  refine mt_by tp.m_Desk___contains__ sc_Desk___contains__ (fun vs H Q E h => by unfold sp_Desk___contains__ at h; split at h <;> first | rfl | exact h.elim) (fun f cdv A outer s H vs Q E hr h => ⟨_, (pss_one (ps_ret (g_andV (pe_callB (k_isi K rfl) (by rfl) tp.b_isinstance (by decide +kernel) (pa_cons (gv 1) (pa_cons (pe_bltn (v := .ty "str") rfl tp.b_str (by decide +kernel) rfl) pa_nil))) (pe_one (g_cmpV (k_din (Nat.lt_of_le_of_lt (Nat.add_le_add_left (by decide : 1 ≤ 64) _) hr.units)) (gv 1) (k_fld K rfl (gv 0) rfl) (by with_unfolding_all rfl)))))), ?_⟩)
  unfold sp_Desk___contains__ at h
  split at h
  next a z =>
    obtain ⟨d, r, t, v, ps, tl, l, q⟩ := h
    obtain ⟨dx, ha⟩ := l.o
    walk_at "w"
    refine ⟨_, is_ss, way_t ?_⟩
    walk_at "w"
    refine ⟨_, dx, _, .ref d, ha, tp.i_Desk.cl, tp.n_Desk_worths, rfl, ?_⟩
    refine ⟨_, l.k, ?_⟩
    rw [valV_kvI, Option.isSome_map, look_isSome]
    exact q
  next a v _ =>
    obtain ⟨h1, q⟩ := h
    walk_at "w"
    exact ⟨_, h1, way_f q⟩
  next => exact h.elim
def sp_Desk___getitem__ (K : PySem.W.Frag) : Sp := fun vs H Q _ => match vs with
  | [.ref a, .str z] => ∃ d r t v ps tl, DeskAt K H a d r t v ps tl ∧ t.Gd ∧ z ∈ t.names ∧ ∀ H', Same H H' → Q (oW (look ps z)) H'
  | _ => False
theorem oW_get (ps : List (Str × Int)) (z : Str) : (valV (kvI ps) (.inr z)).getD .non = oW (look ps z) := by
  rw [valV_kvI]; cases look ps z <;> rfl
theorem ok_Desk___getitem__ (tp : Top K mg) : MtN P w K mg base 52 (CDk K) "__getitem__" [] (sp_Desk___getitem__ K) := by
  refine mt_by tp.m_Desk___getitem__ sc_Desk___getitem__ (fun vs H Q E h => by unfold sp_Desk___getitem__ at h; split at h <;> first | rfl | exact h.elim) (fun f cdv A outer s H vs Q E hr h => ⟨_, (pss_cons (ps_expr (g_meth (ok_Desk_check_leaf tp) hr (by omega) (gv 0) (pa_cons (gv 1) pa_nil))) (pss_one (ps_ret (g_dget1 (Nat.lt_of_le_of_lt (Nat.add_le_add_left (by decide : 1 ≤ 64) _) hr.units) (k_fld K rfl (gv 0) rfl) (gv 1) ⟨by rfl, by rfl, by rfl, by rfl⟩)))), ?_⟩)
  unfold sp_Desk___getitem__ at h
  split at h
  next a z =>
    obtain ⟨d, r, t, v, ps, tl, l, g, hz, k⟩ := h
    obtain ⟨dx, ha⟩ := l.o
    walk_at "w"
    refine ⟨dx, _, ha, rfl, ?_⟩
    refine ⟨d, r, t, v, ps, tl, l, g, hz, fun H1 s1 => ?_⟩
    have l1 := l.mono s1
    obtain ⟨dx1, ha1⟩ := l1.o
    walk_at "w"
    refine ⟨_, dx1, _, .ref d, ha1, tp.i_Desk.cl, tp.n_Desk_worths, rfl, ?_⟩
    refine ⟨d, kvI ps, rfl, l1.k, ?_⟩
    refine ⟨kvI ps, z, l1.k, rfl, ?_⟩
    rw [oW_get]
    exact k H1 s1
  next => exact h.elim
end LW
namespace LW
open PySem PySem.Spec L2 GG
variable {P : Program} {w : World} {K : PySem.W.Frag} {mg : Str → Option Value} {base : Heap}
def dropP (ps : List (Str × Int)) (z : Str) : List (Str × Int) := ps.filter fun p => !decide (p.1 = z)
def sp_Desk_without (K : PySem.W.Frag) : Sp := fun vs H Q _ => match vs with
  | [.ref a, .str z] => ∃ d r t v ps tl, DeskAt K H a d r t v ps tl ∧ ps.length ≤ 1000 ∧ ∀ D H', H D = none → Same H H' → H' D = some (.dK (kvI (dropP ps z))) → Q (.ref D) H'
  | _ => False
theorem ok_Desk_without (tp : Top K mg) : MtN P w K mg base 1 (CDk K) "without" [] (sp_Desk_without K) := by
  refine mt_by tp.m_Desk_without sc_Desk_without (fun vs H Q E h => by unfold sp_Desk_without at h; split at h <;> first | rfl | exact h.elim) (fun f cdv A outer s H vs Q E hr h => ⟨_, (pss_one (ps_ret (pe_lock (g_dc rfl sc_Desk_without.nd (w_items (k_fld K rfl (gv 0) rfl)) (blkOk_by (own := [("one", 2), ("worth", 3)]) (N := (["self", "name", "one", "worth"] : List Str)) (sc := defScope s_Desk_without) (by decide +kernel)) (fun _ _ _ _ _ => k_tg2 K rfl rfl (pg_name (i := 2) sc_Desk_without.nd rfl (by first | exact Or.inl rfl | exact Or.inr rfl)) (pg_name (i := 3) sc_Desk_without.nd rfl (by first | exact Or.inl rfl | exact Or.inr rfl))) (fun _ _ _ _ _ => (pts_one (g_cmp (k_neG K rfl hr.units) (gv 2) (gv 1) (nomark _)))) (fun _ _ _ _ _ => (gv 2)) (fun _ _ _ _ _ => (gv 3)))))), ?_⟩)
  unfold sp_Desk_without at h
  split at h
  next a z =>
    obtain ⟨d, r, t, v, ps, tl, l, ln, k⟩ := h
    obtain ⟨dx, ha⟩ := l.o
    walk_at "w"
    refine ⟨d, _, l.k, trivial, fun od => ?_⟩
    have sL : ∀ b o, b ≠ d → H b = some o → upd H d (.frz od (.dK (kvI ps))) b = some o := fun b o n e => by rw [upd_ne n]; exact e
    have nad : a ≠ d := by rintro rfl; rw [l.k] at ha; cases ha
    walk_at "w"
    refine ⟨_, dx, _, .ref d, sL _ _ nad ha, tp.i_Desk.cl, tp.n_Desk_worths, rfl, ?_⟩
    refine ⟨od, _, upd_same, ?_⟩
    refine dcG_by tg2_up walkS_items (fun i acc G => Same (upd H d (.frz od (.dK (kvI ps)))) G ∧ acc = kvI ((ps.take i).filter fun p => !decide (p.1 = z))) (fun i acc G G' s f => ⟨f.1.trans s, f.2⟩) (by rw [kvI_len]; exact lt1000 ln) ⟨Same.refl _, rfl⟩ (fun i acc H G _ f s => s _ _ (f.1 _ _ upd_same)) (fun D i x acc H' hi hx hD hDl ha' f => ?_) (fun D H' acc hD hDl ha' f => ?_)
    · obtain ⟨s3, rfl⟩ := f
      obtain ⟨T, kk, vv, hk, rfl, hT⟩ := hx
      obtain ⟨pr, hpr, rfl, rfl⟩ := kvI_getElem hk
      refine tg2_of hT ⟨rfl, ?_⟩
      have e := flt_takeP (p := fun p => !decide (p.1 = z)) hpr
      walk_at "w"
      refine way_nd (fun c => ?_) fun c => ?_
      · walk_at "w"
        refine ⟨hDl, s3, ?_⟩
        rw [e, if_pos (by simp [c])]
        have nin := take_fst l.nd hpr
        have zn : valV (kvI ((ps.take i).filter fun p => !decide (p.1 = z))) (.inr pr.1) = none := by
          rw [valV_kvI]
          cases q : look ((ps.take i).filter fun p => !decide (p.1 = z)) pr.1 with
          | none => rfl
          | some c => exact absurd (List.mem_map.mpr ⟨_, (List.mem_filter.mp (look_mem q)).1, rfl⟩) nin
        rw [putK_new zn]
        unfold kvI
        rw [List.map_append]
        rfl
      · refine ⟨hDl, s3, ?_⟩
        rw [e, if_neg (by simp [c]), List.append_nil]
    · obtain ⟨s3, rfl⟩ := f
      rw [kvI_len, List.take_length] at hDl
      have s4 : Same (upd H d (.frz od (.dK (kvI ps)))) H' := s3.trans off_same
      refine ⟨s4 _ _ upd_same, ?_⟩
      have s5 : Same H (upd H' d (.dK (kvI ps))) := unlock_same l.k s4
      have nDd : D ≠ d := by rintro rfl; rw [upd_same] at hD; cases hD
      have f1 : H D = none := by rw [upd_ne nDd] at hD; exact hD
      exact k D _ f1 s5 (by rw [upd_ne nDd]; exact hDl)
  next => exact h.elim
def NoD (o : HO) : Prop := NoL o ∧ ∀ C dx v d r, o ≠ .ins C dx (dkf v d r)
mutual
theorem MT.monoD {CL CG : Addr} {H H' : Hp} (s : ∀ b o, NoD o → H b = some o → H' b = some o) : ∀ {t : T} {v : V}, MT CL CG H t v → MT CL CG H' t v
  | .leaf n, v, ⟨a, dx, e, h⟩ => ⟨a, dx, e, s _ _ ⟨trivial, fun C dx v d r e => by
      injection e with _ _ e
      have := congrArg List.length e
      unfold lfs dkf at this; simp at this⟩ h⟩
  | .grp rk ps, v, ⟨a, dx, p, r, vs, e, h1, h2, h3, h4⟩ => ⟨a, dx, p, r, vs, e, s _ _ ⟨trivial, fun C dx v d r e => by
      injection e with _ _ e
      unfold gfs dkf at e
      have := congrArg Prod.fst (List.cons.inj e).1
      exact absurd (show ("picks" : Str) = "plan" from this) (by decide +kernel)⟩ h1, s _ _ ⟨trivial, fun C dx v d r e => by cases e⟩ h2, s _ _ ⟨trivial, fun C dx v d r e => by cases e⟩ h3, MTs.monoD s h4⟩
theorem MTs.monoD {CL CG : Addr} {H H' : Hp} (s : ∀ b o, NoD o → H b = some o → H' b = some o) : ∀ {ts : List T} {vs : List V}, MTs CL CG H ts vs → MTs CL CG H' ts vs
  | [], vs, h => h
  | t :: ts, vs, ⟨v, r, e, h1, h2⟩ => ⟨v, r, e, MT.monoD s h1, MTs.monoD s h2⟩
end
def sp_Desk___setitem__ (K : PySem.W.Frag) : Sp := fun vs H Q _ => match vs with
  | [.ref a, .str z, .int c] => ∃ d r t v ps tl, DeskAt K H a d r t v ps tl ∧ t.Gd ∧ z ∈ t.names ∧ ps.length ≤ 1000 ∧ tl.length < 900 ∧
    ∀ H', (∀ b o, b ≠ d → b ≠ r → H b = some o → H' b = some o) → DeskAt K H' a d r t v (putP ps z c) (tl ++ [(z, look ps z)]) → Q .non H'
  | _ => False
theorem ok_Desk___setitem__ (tp : Top K mg) : MtN P w K mg base 52 (CDk K) "__setitem__" [] (sp_Desk___setitem__ K) := by
  refine mt_by tp.m_Desk___setitem__ sc_Desk___setitem__ (fun vs H Q E h => by unfold sp_Desk___setitem__ at h; split at h <;> first | rfl | exact h.elim) (fun f cdv A outer s H vs Q E hr h => ⟨_, (pss_cons (ps_expr (g_meth (ok_Desk_check_leaf tp) hr (by omega) (gv 0) (pa_cons (gv 1) pa_nil))) (pss_cons (ps_expr (g_call (ok_check_whole tp) hr rfl (by omega) (pa_cons (gv 2) pa_nil))) (pss_cons (ps_expr (pe_bm PySem.F.plainAttrs_list PySem.F.slot_list_append PySem.F.type_list_append m_append (k_fld K rfl (gv 0) rfl) (pa_cons (g_tup (pa_cons (gv 1) (pa_cons (g_dget1 (Nat.lt_of_le_of_lt (Nat.add_le_add_left (by decide : 1 ≤ 64) _) hr.units) (k_fld K rfl (gv 0) rfl) (gv 1) ⟨by rfl, by rfl, by rfl, by rfl⟩) pa_nil))) pa_nil))) (pss_one (ps_asg (gv 2) (pg_sub (k_fld K rfl (gv 0) rfl) (gv 1) (s_dict (Nat.lt_of_le_of_lt (Nat.add_le_add_left (by decide : 1 ≤ 64) _) hr.units)))))))), ?_⟩)
  unfold sp_Desk___setitem__ at h
  split at h
  next a z c =>
    obtain ⟨d, r, t, v, ps, tl, l, g, hz, pl, tll, k⟩ := h
    obtain ⟨dx, ha⟩ := l.o
    walk_at "w"
    refine ⟨dx, _, ha, rfl, ?_⟩
    refine ⟨d, r, t, v, ps, tl, l, g, hz, fun H1 s1 => ?_⟩
    walk_at "w"
    have l1 := l.mono s1
    obtain ⟨dx1, ha1⟩ := l1.o
    obtain ⟨vs, hr1, tr1⟩ := l1.l
    have vl := tr1.length
    have nad : a ≠ d := by rintro rfl; rw [l1.k] at ha1; cases ha1
    have nar : a ≠ r := by rintro rfl; rw [hr1] at ha1; cases ha1
    have ndr : d ≠ r := by rintro rfl; have := l1.k; rw [hr1] at this; cases this
    refine ⟨_, dx1, _, .ref r, ha1, tp.i_Desk.cl, tp.n_Desk_trail, rfl, ?_⟩
    refine ⟨Or.inl ⟨rfl, _, SqL.of hr1⟩, ?_⟩
    walk_at "w"
    refine ⟨_, dx1, _, .ref d, ha1, tp.i_Desk.cl, tp.n_Desk_worths, rfl, ?_⟩
    refine ⟨d, kvI ps, rfl, l1.k, ?_⟩
    refine ⟨kvI ps, z, l1.k, rfl, ?_⟩
    rw [oW_get]
    refine ⟨(by show 2 ≤ sizeLine; decide), fun pt H2 f2 s2 e2 => ?_⟩
    refine ⟨_, s2 _ _ hr1, lt1000 (by omega), fun H3 s3 e3 => ?_⟩
    have ptr : pt ≠ r := (ne_of_none hr1 f2).symm
    have tr3 : TRL H3 (tl ++ [(z, look ps z)]) (vs ++ [.ref pt]) := (tr1.mono fun b o e => s3 _ _ (by rintro rfl; rw [hr1] at e; cases e) (s2 _ _ e)).app (TRL.one (s3 _ _ ptr e2))
    have ha3 := s3 _ _ nar (s2 _ _ ha1)
    have hk3 := s3 _ _ ndr (s2 _ _ l1.k)
    walk_at "w"
    refine ⟨_, dx1, _, .ref d, ha3, tp.i_Desk.cl, tp.n_Desk_worths, rfl, ?_⟩
    refine ⟨kvI ps, hk3, by rw [kvI_len]; exact lt1000 pl, fun H5 s5 e5 => ?_⟩
    rw [kvI_putP] at e5
    refine k H5 (fun b o n1 n2 e => s5 b o n1 (s3 b o n2 (s2 b o (s1 b o e)))) ⟨⟨dx1, s5 _ _ nad ha3⟩, e5, ⟨_, s5 _ _ ndr.symm e3, tr3.mono fun b o e => s5 _ _ (by rintro rfl; rw [hk3] at e; cases e) e⟩, ?_, ?_, ?_⟩
    · exact (l1.m.mono s2).monoT fun b o n e => s5 b o (by rintro rfl; have q := s3 _ _ ndr e; rw [hk3] at q; cases q; exact n) (s3 b o (by rintro rfl; rw [s2 _ _ hr1] at e; cases e; exact n) e)
    · rw [putP_fst]
      split
      · exact l.nd
      · rename_i hn
        rw [List.nodup_append]
        exact ⟨l.nd, by simp, fun x hx y hy e => hn ((e.trans (by simpa using hy)) ▸ hx)⟩
    · intro x hx
      have : x.1 ∈ (putP ps z c).map (·.1) := List.mem_map.mpr ⟨x, hx, rfl⟩
      rw [putP_fst] at this
      split at this
      · obtain ⟨y, hy, e⟩ := List.mem_map.mp this
        rw [← e]; exact l.sub y hy
      · rcases List.mem_append.mp this with q | q
        · obtain ⟨y, hy, e⟩ := List.mem_map.mp q
          rw [← e]; exact l.sub y hy
        · rw [List.mem_singleton.mp q]; exact hz
  next => exact h.elim
def sp_Desk_forget (K : PySem.W.Frag) : Sp := fun vs H Q _ => match vs with
  | [.ref a, .str z] => ∃ d r t v ps tl, DeskAt K H a d r t v ps tl ∧ t.Gd ∧ z ∈ t.names ∧ ps.length ≤ 1000 ∧ tl.length < 900 ∧
    ∀ D H', H D = none → (∀ b o, b ≠ a → b ≠ r → H b = some o → H' b = some o) → DeskAt K H' a D r t v (dropP ps z) (tl ++ [(z, look ps z)]) → Q .non H'
  | _ => False
theorem ok_Desk_forget (tp : Top K mg) : MtN P w K mg base 52 (CDk K) "forget" [] (sp_Desk_forget K) := by
  refine mt_by tp.m_Desk_forget sc_Desk_forget (fun vs H Q E h => by unfold sp_Desk_forget at h; split at h <;> first | rfl | exact h.elim) (fun f cdv A outer s H vs Q E hr h => ⟨_, (pss_cons (ps_expr (g_meth (ok_Desk_check_leaf tp) hr (by omega) (gv 0) (pa_cons (gv 1) pa_nil))) (pss_cons (ps_expr (pe_bm PySem.F.plainAttrs_list PySem.F.slot_list_append PySem.F.type_list_append m_append (k_fld K rfl (gv 0) rfl) (pa_cons (g_tup (pa_cons (gv 1) (pa_cons (g_dget1 (Nat.lt_of_le_of_lt (Nat.add_le_add_left (by decide : 1 ≤ 64) _) hr.units) (k_fld K rfl (gv 0) rfl) (gv 1) ⟨by rfl, by rfl, by rfl, by rfl⟩) pa_nil))) pa_nil))) (pss_one (k_fldS K rfl (gv 0) (g_meth (ok_Desk_without tp) hr (by omega) (gv 0) (pa_cons (gv 1) pa_nil)) rfl)))), ?_⟩)
  unfold sp_Desk_forget at h
  split at h
  next a z =>
    obtain ⟨d, r, t, v, ps, tl, l, g, hz, pl, tll, k⟩ := h
    obtain ⟨dx, ha⟩ := l.o
    walk_at "w"
    refine ⟨dx, _, ha, rfl, ?_⟩
    refine ⟨d, r, t, v, ps, tl, l, g, hz, fun H1 s1 => ?_⟩
    walk_at "w"
    have l1 := l.mono s1
    obtain ⟨dx1, ha1⟩ := l1.o
    obtain ⟨vs, hr1, tr1⟩ := l1.l
    have vl := tr1.length
    have nad : a ≠ d := by rintro rfl; rw [l1.k] at ha1; cases ha1
    have nar : a ≠ r := by rintro rfl; rw [hr1] at ha1; cases ha1
    have ndr : d ≠ r := by rintro rfl; have := l1.k; rw [hr1] at this; cases this
    refine ⟨_, dx1, _, .ref r, ha1, tp.i_Desk.cl, tp.n_Desk_trail, rfl, ?_⟩
    refine ⟨Or.inl ⟨rfl, _, SqL.of hr1⟩, ?_⟩
    walk_at "w"
    refine ⟨_, dx1, _, .ref d, ha1, tp.i_Desk.cl, tp.n_Desk_worths, rfl, ?_⟩
    refine ⟨d, kvI ps, rfl, l1.k, ?_⟩
    refine ⟨kvI ps, z, l1.k, rfl, ?_⟩
    rw [oW_get]
    refine ⟨(by show 2 ≤ sizeLine; decide), fun pt H2 f2 s2 e2 => ?_⟩
    refine ⟨_, s2 _ _ hr1, lt1000 (by omega), fun H3 s3 e3 => ?_⟩
    have ptr : pt ≠ r := (ne_of_none hr1 f2).symm
    have tr3 : TRL H3 (tl ++ [(z, look ps z)]) (vs ++ [.ref pt]) := (tr1.mono fun b o e => s3 _ _ (by rintro rfl; rw [hr1] at e; cases e) (s2 _ _ e)).app (TRL.one (s3 _ _ ptr e2))
    have ha3 := s3 _ _ nar (s2 _ _ ha1)
    have hk3 := s3 _ _ ndr (s2 _ _ l1.k)
    have l3 : DeskAt K H3 a d r t v ps (tl ++ [(z, look ps z)]) := ⟨⟨dx1, ha3⟩, hk3, ⟨_, e3, tr3⟩, (l1.m.mono s2).monoT fun b o n e => s3 b o (by rintro rfl; rw [s2 _ _ hr1] at e; cases e; exact n) e, l.nd, l.sub⟩
    walk_at "w"
    refine ⟨dx1, _, ha3, rfl, ?_⟩
    refine ⟨d, r, t, v, ps, _, l3, pl, fun D H4 f4 s4 e4 => ?_⟩
    walk_at "w"
    have l4 := l3.mono s4
    refine ⟨_, dx1, _, s4 _ _ ha3, tp.i_Desk.cl, tp.n_Desk_worths, (show (3 : Nat) < 1000 by decide), fun H5 s5 e5 => ?_⟩
    have fD : H D = none := by
      cases hq : H D with
      | none => rfl
      | some o =>
        by_cases c : D = r
        · subst c; rw [e3] at f4; cases f4
        · rw [s3 _ _ c (s2 _ _ (s1 _ _ hq))] at f4; cases f4
    have aD : D ≠ a := by rintro rfl; rw [ha3] at f4; cases f4
    have ha4 := s4 _ _ ha3
    exact k D H5 fD (fun b o n1 n2 e => s5 b o n1 (s4 b o (s3 b o n2 (s2 b o (s1 b o e))))) ⟨⟨dx1, e5⟩, s5 _ _ aD e4, ⟨_, s5 _ _ nar.symm (s4 _ _ e3), (tr3.mono fun b o e => s4 _ _ e).mono fun b o e => s5 _ _ (by rintro rfl; rw [ha4] at e; cases e) e⟩,
      MT.monoD (fun b o nd e => s5 b o (by rintro rfl; rw [ha4] at e; cases e; exact nd.2 _ _ _ _ _ rfl) e) l4.m, l.nd.sublist (List.filter_sublist.map _), fun x hx => l.sub x (List.mem_filter.mp hx).1⟩
  next => exact h.elim
def backP (ps : List (Str × Int)) (z : Str) (w : Option Int) : List (Str × Int) := match w with
  | none => dropP ps z
  | some c => dropP ps z ++ [(z, c)]
theorem cut_init (xs : List V) (y : V) : cutV (xs ++ [y]) none (some (-1)) = xs := by
  unfold cutV
  have e1 : HT.sIx (xs ++ [y]).length (xs ++ [y]).length (some (-1)) = xs.length := by
    show (if (-1 : Int) < 0 then ((-1 : Int) + ((xs ++ [y]).length : Int)).toNat else min (-1 : Int).toNat (xs ++ [y]).length) = _
    rw [if_pos (by decide), List.length_append]
    simp
    omega
  rw [HT.sIx_none, e1, List.drop_zero]
  simp
theorem TRL.snoc {H : Hp} : ∀ {l : List (Str × Option Int)} {x : Str × Option Int} {vs : List V}, TRL H (l ++ [x]) vs → ∃ us q, vs = us ++ [.ref q] ∧ TRL H l us ∧ H q = some (.tup [.str x.1, oW x.2])
  | [], x, vs, ⟨q, r, e, h, h2⟩ => by
    have : r = [] := h2
    subst this; subst e
    exact ⟨[], q, rfl, rfl, h⟩
  | y :: l, x, vs, ⟨q, r, e, h, h2⟩ => by
    subst e
    obtain ⟨us, q', rfl, a, b⟩ := TRL.snoc h2
    exact ⟨.ref q :: us, q', rfl, ⟨q, us, rfl, h, a⟩, b⟩
theorem at_end (xs : List V) (x : V) : atI (xs ++ [x]) (-1) = some x := by
  unfold atI ixN
  rw [if_neg (by decide), List.length_append]
  have h : (-(((xs.length + [x].length : Nat)) : Int)) ≤ -1 := by simp; omega
  rw [if_pos (by first | exact h | (simp; omega))]
  show (xs ++ [x])[_]? = _
  have : (-1 + ((xs.length + [x].length : Nat) : Int)).toNat = xs.length := by simp; omega
  rw [this, List.getElem?_append_right (Nat.le_refl _)]
  simp
def sp_Desk_back (K : PySem.W.Frag) : Sp := fun vs H Q _ => match vs with
  | [.ref a] => ∃ d r t v ps tl, DeskAt K H a d r t v ps tl ∧ ps.length ≤ 1000 ∧ (tl = [] → ∀ H', Same H H' → Q .non H') ∧
    ∀ tl' z w, tl = tl' ++ [(z, w)] → z ∈ t.names ∧ ∀ D r' H', H D = none → H r' = none → (∀ b o, b ≠ a → H b = some o → H' b = some o) → DeskAt K H' a D r' t v (backP ps z w) tl' → Q (.str z) H'
  | _ => False
theorem ok_Desk_back (tp : Top K mg) : MtN P w K mg base 5 (CDk K) "back" [] (sp_Desk_back K) := by
  refine mt_by tp.m_Desk_back sc_Desk_back (fun vs H Q E h => by unfold sp_Desk_back at h; split at h <;> first | rfl | exact h.elim) (fun f cdv A outer s H vs Q E hr h => ⟨_, (pss_cons (g_if (g_cmp (k_eqG K rfl hr.units) (k_fld K rfl (gv 0) rfl) (g_lst pa_nil) (nomark _)) (pss_one (ps_ret pe_non)) pss_nil) (pss_cons (ps_asg (pe_ix (k_ix K rfl) (k_fld K rfl (gv 0) rfl) (pe_un un_negG pe_int) (fun _ _ => rfl)) (pg_tup rfl (pgs_cons (pg_name (i := 1) sc_Desk_back.nd rfl (by first | exact Or.inl rfl | exact Or.inr rfl)) (pgs_cons (pg_name (i := 2) sc_Desk_back.nd rfl (by first | exact Or.inl rfl | exact Or.inr rfl)) pgs_nil)))) (pss_cons (k_fldS K rfl (gv 0) (pe_slice (k_sl K rfl) (k_fld K rfl (gv 0) rfl) po_none (po_some (pe_un un_negG pe_int))) rfl) (pss_cons (k_fldS K rfl (gv 0) (g_meth (ok_Desk_without tp) hr (by omega) (gv 0) (pa_cons (gv 1) pa_nil)) rfl) (pss_cons (g_if (g_cmp op_isnG (gv 2) pe_non (nomark _)) (pss_one (ps_asg (gv 2) (pg_sub (k_fld K rfl (gv 0) rfl) (gv 1) (s_dict (Nat.lt_of_le_of_lt (Nat.add_le_add_left (by decide : 1 ≤ 64) _) hr.units))))) pss_nil) (pss_one (ps_ret (gv 1)))))))), ?_⟩)
  unfold sp_Desk_back at h
  split at h
  next a =>
    obtain ⟨d, r, t, v, ps, tl, l, pl, k0, k1⟩ := h
    obtain ⟨dx, ha⟩ := l.o
    obtain ⟨vs, hr1, tr⟩ := l.l
    walk_at "w"
    refine ⟨_, dx, _, .ref r, ha, tp.i_Desk.cl, tp.n_Desk_trail, rfl, ?_⟩
    refine ⟨(by show 0 ≤ sizeLine; decide), fun p1 H1 f1 s1 e1 => ?_⟩
    refine Or.inl ⟨vs, SqL.of (s1 _ _ hr1), e1, ?_⟩
    rcases List.eq_nil_or_concat tl with rfl | ⟨tl', ⟨z, w'⟩, rfl⟩
    · obtain rfl : vs = [] := tr
      refine way_t ?_
      walk_at "w"
      exact k0 rfl H1 s1
    · rw [List.concat_eq_append] at *
      obtain ⟨hz, k⟩ := k1 tl' z w' rfl
      obtain ⟨us, q, rfl, tr', hq⟩ := tr.snoc
      rw [show (us ++ [V.ref q]).isEmpty = false by cases us <;> rfl]
      refine way_f ?_
      walk_at "w"
      have l1 := l.mono s1
      have ha1 := s1 _ _ ha
      refine ⟨_, dx, _, .ref r, ha1, tp.i_Desk.cl, tp.n_Desk_trail, rfl, ?_⟩
      walk_at "w"
      refine ⟨_, .ref q, Or.inl (SqL.of (s1 _ _ hr1)), at_end us _, ?_⟩
      refine ⟨q, _, rfl, SqT.of (s1 _ _ hq), rfl, .str z, _, rfl, oW w', [], rfl, rfl, ?_⟩
      walk_at "w"
      refine ⟨_, dx, _, .ref r, ha1, tp.i_Desk.cl, tp.n_Desk_trail, rfl, ?_⟩
      walk_at "w"
      refine ⟨_, rfl, ?_⟩
      refine ⟨_, SqL.of (s1 _ _ hr1), fun r' H2 f2 s2 e2 => ?_⟩
      rw [cut_init] at e2
      refine ⟨_, dx, _, s2 _ _ ha1, tp.i_Desk.cl, tp.n_Desk_trail, (show (3 : Nat) < 1000 by decide), fun H3 s3 e3 => ?_⟩
      have ra : r' ≠ a := by rintro rfl; rw [ha1] at f2; cases f2
      have da : d ≠ a := by rintro rfl; rw [l1.k] at ha1; cases ha1
      have ha2 := s2 _ _ ha1
      have tr3 : TRL H3 tl' us := tr'.mono fun b o e => s3 _ _ (by rintro rfl; have := s2 _ _ (s1 _ _ e); rw [ha2] at this; cases this) (s2 _ _ (s1 _ _ e))
      have l3 : DeskAt K H3 a d r' t v ps tl' := ⟨⟨dx, e3⟩, s3 _ _ da (s2 _ _ l1.k), ⟨us, s3 _ _ ra e2, tr3⟩,
        MT.monoD (fun b o nd e => s3 b o (by rintro rfl; rw [ha2] at e; cases e; exact nd.2 _ _ _ _ _ rfl) e) (l1.m.mono s2), l.nd, l.sub⟩
      walk_at "w"
      refine ⟨dx, _, e3, rfl, ?_⟩
      refine ⟨d, r', t, v, ps, tl', l3, pl, fun D H4 f4 s4 e4 => ?_⟩
      have ha4 := s4 _ _ e3
      walk_at "w"
      refine ⟨_, dx, _, ha4, tp.i_Desk.cl, tp.n_Desk_worths, (show (3 : Nat) < 1000 by decide), fun H5 s5 e5 => ?_⟩
      have Da : D ≠ a := by rintro rfl; rw [e3] at f4; cases f4
      have Dr : D ≠ r' := by rintro rfl; rw [s3 _ _ ra e2] at f4; cases f4
      have s05 : ∀ b o, b ≠ a → H b = some o → H5 b = some o := fun b o n e => s5 b o n (s4 b o (s3 b o n (s2 b o (s1 b o e))))
      have fD : H D = none := by
        cases hq0 : H D with
        | none => rfl
        | some o => rw [s3 _ _ Da (s2 _ _ (s1 _ _ hq0))] at f4; cases f4
      have fr : H r' = none := free_back s1 f2
      have l4 := l3.mono s4
      have l5 : DeskAt K H5 a D r' t v (dropP ps z) tl' := ⟨⟨dx, e5⟩, s5 _ _ Da e4, ⟨us, s5 _ _ ra (s4 _ _ (s3 _ _ ra e2)), (tr3.mono fun b o e => s4 _ _ e).mono fun b o e => s5 _ _ (by rintro rfl; rw [ha4] at e; cases e) e⟩,
        MT.monoD (fun b o nd e => s5 b o (by rintro rfl; rw [ha4] at e; cases e; exact nd.2 _ _ _ _ _ rfl) e) l4.m, l.nd.sublist (List.filter_sublist.map _), fun x hx => l.sub x (List.mem_filter.mp hx).1⟩
      walk_at "w"
      cases w' with
      | none =>
        refine way_f ?_
        walk_at "w"
        exact k D r' H5 fD fr s05 l5
      | some c =>
        refine way_t ?_
        walk_at "w"
        refine ⟨_, dx, _, .ref D, e5, tp.i_Desk.cl, tp.n_Desk_worths, rfl, ?_⟩
        refine ⟨_, l5.k, by rw [kvI_len]; exact lt1000 (Nat.le_trans (List.length_filter_le _ _) pl), fun H6 s6 e6 => ?_⟩
        have pke : putK (kvI (dropP ps z)) (.inr z) (.int c) = kvI (dropP ps z ++ [(z, c)]) := by
          rw [putK_new]
          · unfold kvI; rw [List.map_append]; rfl
          · rw [valV_kvI]
            cases e : look (dropP ps z) z with
            | none => rfl
            | some v => have := (List.mem_filter.mp (look_mem e)).2; simp at this
        rw [show oW (some c) = V.int c from rfl, pke] at e6
        walk_at "w"
        refine k D r' H6 fD fr (fun b o n e => s6 b o (ne_of_none e fD) (s05 b o n e)) ⟨⟨dx, s6 _ _ Da.symm e5⟩, e6, l5.l.imp fun _ e => ⟨s6 _ _ Dr.symm e.1, e.2.mono fun b o e => s6 _ _ (by rintro rfl; rw [l5.k] at e; cases e) e⟩, l5.m.monoT fun b o n e => s6 b o (by rintro rfl; rw [l5.k] at e; cases e; exact n) e, ?_, fun x hx => ?_⟩
        · show ((dropP ps z ++ [(z, c)]).map (·.1)).Nodup
          rw [List.map_append, List.nodup_append]
          refine ⟨l5.nd, by simp, fun x hx y hy e => ?_⟩
          obtain ⟨p, hp, e2⟩ := List.mem_map.mp hx
          have e3 : y = z := by simpa using hy
          have := (List.mem_filter.mp hp).2
          simp [e2, e, e3] at this
        · rcases List.mem_append.mp hx with q0 | q0
          · exact l5.sub x q0
          · rw [List.mem_singleton.mp q0]; exact hz
  next => exact h.elim
def sp_Desk_lot (K : PySem.W.Frag) : Sp := fun vs H Q _ => match vs with
  | [.ref a] => ∃ d r t v ps tl, DeskAt K H a d r t v ps tl ∧ t.Gd ∧ ps.length ≤ 1000 ∧ ∀ la ld H', H la = none → H ld = none → Same H H' → LotAt K H' la ld (ps.mergeSort pLe) → Q (.ref la) H'
  | _ => False
theorem ok_Desk_lot (tp : Top K mg) : PrN P w K mg base 5 (CDk K) "lot" (sp_Desk_lot K) := by
  refine pr_by tp.m_Desk_lot sc_Desk_lot (fun vs H Q E h => by unfold sp_Desk_lot at h; split at h <;> first | rfl | exact h.elim) (fun f cdv A outer s H vs Q E hr h => ⟨_, (pss_one (ps_ret (g_make ((mk_Lot tp).1) hr rfl (by omega) (pa_cons (pe_callB (k_sortP K rfl hr.units) (by rfl) tp.b_sorted (by decide +kernel) (pa_cons (pe_lock (g_lcG rfl sc_Desk_lot.nd (w_items (k_fld K rfl (gv 0) rfl)) (blkOk_by (own := [("name", 1), ("worth", 2)]) (N := (["self", "name", "worth"] : List Str)) (sc := defScope s_Desk_lot) (by decide +kernel)) (fun _ _ _ _ _ => k_tg2 K rfl rfl (pg_name (i := 1) sc_Desk_lot.nd rfl (by first | exact Or.inl rfl | exact Or.inr rfl)) (pg_name (i := 2) sc_Desk_lot.nd rfl (by first | exact Or.inl rfl | exact Or.inr rfl))) (fun _ _ _ _ _ => pts_nil) (fun _ _ _ _ _ => (g_tup (pa_cons (gv 1) (pa_cons (gv 2) pa_nil)))))) pa_nil)) pa_nil)))), ?_⟩)
  unfold sp_Desk_lot at h
  split at h
  next a =>
    obtain ⟨d, r, t, v, ps, tl, l, g, pl, k⟩ := h
    obtain ⟨dx, ha⟩ := l.o
    have hd1 := l.k
    have pl0 := pl
    have nad : a ≠ d := by rintro rfl; rw [l.k] at ha; cases ha
    have okp : PsOk (ps.mergeSort pLe) := (show PsOk ps from ⟨l.nd, fun x hx => sh_nm g.sh _ (l.sub x hx), pl⟩).perm (List.mergeSort_perm _ _).symm
    walk_at "w"
    refine ⟨d, _, hd1, trivial, fun od => ?_⟩
    walk_at "w"
    refine ⟨_, dx, _, .ref d, by rw [upd_ne nad]; exact ha, tp.i_Desk.cl, tp.n_Desk_worths, rfl, ?_⟩
    refine ⟨od, _, upd_same, ?_⟩
    refine compG_byS tg2_up walkS_items (fun i acc G => Same (upd H d (.frz od (.dK (kvI ps)))) G ∧ PL G (ps.take i) acc) (fun i acc G G' s f => ⟨f.1.trans s, f.2.mono s⟩) (by rw [kvI_len]; exact lt1000 pl0) ⟨Same.refl _, rfl⟩ (fun i acc H G _ f s => s _ _ (f.1 _ _ upd_same)) (fun D i x acc H' hi hx hD hDl ha' f => ?_) (fun D H' acc hD hDl ha' f => ?_)
    · obtain ⟨s3, pl⟩ := f
      obtain ⟨T, kk, vv, hk, rfl, hT⟩ := hx
      obtain ⟨pr, hpr, rfl, rfl⟩ := kvI_getElem hk
      refine tg2_of hT ⟨rfl, way_t ?_⟩
      walk_at "w"
      refine ⟨(by show 2 ≤ sizeLine; decide), fun p2 H2 f2 s2 e2 => ?_⟩
      have nD : p2 ≠ D := by rintro rfl; rw [hDl] at f2; cases f2
      refine ⟨s2 _ _ hDl, s3.trans (off_mono s2), ?_⟩
      rw [List.take_add_one, hpr]
      exact (pl.mono (off_mono s2)).app (PL.one (by rw [off_at nD]; exact e2))
    · obtain ⟨s3, pl⟩ := f
      rw [kvI_len, List.take_length] at pl
      have s4 : Same (upd H d (.frz od (.dK (kvI ps)))) H' := s3.trans off_same
      refine ⟨s4 _ _ upd_same, ?_⟩
      have s5 : Same H (upd H' d (.dK (kvI ps))) := unlock_same hd1 s4
      have nDd : D ≠ d := by rintro rfl; rw [upd_same] at hD; cases hD
      refine ⟨acc, ps, SqL.of (by rw [upd_ne nDd]; exact hDl), PL.unlock (s4 _ _ upd_same) (pl.mono off_same), l.nd, fun ys p H6 f6 s6 e6 pl6 => ?_⟩
      refine ⟨_, _, e6, pl6, okp, fun la ld H7 f7 g7 s7 l7 => ?_⟩
      exact k la ld H7 (free_back (s5.trans s6) f7) (free_back (s5.trans s6) g7) ((s5.trans s6).trans s7) l7
  next => exact h.elim
end LW
namespace LW
open PySem PySem.Spec L2 GG
variable {P : Program} {w : World} {K : PySem.W.Frag} {mg : Str → Option Value} {base : Heap}
def sp_Desk_between (K : PySem.W.Frag) : Sp := fun vs H Q _ => match vs with
  | [.ref a, .int j] => ∃ d r t v ps tl B, DeskAt K H a d r t v ps tl ∧ t.Gd ∧ ps.length ≤ 1000 ∧ BdOk ps B ∧ 1 ≤ j ∧ j ≤ t.width ∧
    ∀ p H', H p = none → Same H H' → H' p = some (.tup [oV (sideV B ((t.ends (farW ps (-B))).getD (j.toNat - 1) 0)), oV (sideV B ((t.ends (farW ps B)).getD (j.toNat - 1) 0))]) → Q (.ref p) H'
  | _ => False
theorem BdOk.perm {ps qs : List (Str × Int)} {B : Int} (h : BdOk ps B) (p : ps.Perm qs) : BdOk qs B := ⟨h.B0, fun x hx => h.bd x (p.mem_iff.mpr hx)⟩
theorem farW_perm {ps qs : List (Str × Int)} (p : ps.Perm qs) (nd : (ps.map (·.1)).Nodup) (far : Int) : farW ps far = farW qs far := by
  funext z
  unfold farW
  rw [look_perm p nd z]
theorem ok_Desk_between (tp : Top K mg) : MtN P w K mg base 101 (CDk K) "between" [] (sp_Desk_between K) ∧ MtN P w K mg base 101 (CDk K) "between" [.int 1] (sp_Desk_between K) := by
  refine mt_byD tp.m_Desk_between sc_Desk_between (fun vs H Q E h => by unfold sp_Desk_between at h; split at h <;> first | rfl | exact h.elim) (fun f cdv A outer s H vs Q E hr h => ⟨_, (pss_one (ps_ret (g_call (((ok_between tp).1).ali tp.a_between_partial) hr rfl (by omega) (pa_cons (k_fld K rfl (gv 0) rfl) (pa_cons (g_prop (ok_Desk_lot tp) hr (by omega) (gv 0) rfl) (pa_cons (gv 1) pa_nil)))))), ?_⟩)
  unfold sp_Desk_between at h
  split at h
  next a j =>
    obtain ⟨d, r, t, v, ps, tl, B, l, g, pl, bd, j1, j2, k⟩ := h
    obtain ⟨dx, ha⟩ := l.o
    walk_at "w"
    refine ⟨_, dx, _, v, ha, tp.i_Desk.cl, tp.n_Desk_plan, rfl, ?_⟩
    refine ⟨dx, _, ha, d, r, t, v, ps, tl, l, g, pl, fun la ld H1 f1 f2 s1 l1 => ?_⟩
    have pm := List.mergeSort_perm ps pLe
    refine ⟨t, ld, _, B, l.m.mono s1, g, l1, bd.perm pm.symm, j1, j2, fun p H2 f3 s2 e2 => ?_⟩
    rw [farW_perm pm l1.ok.nd, farW_perm pm l1.ok.nd] at e2
    exact k p H2 (free_back s1 f3) (s1.trans s2) e2
  next => exact h.elim
def sp_Desk_matters (K : PySem.W.Frag) : Sp := fun vs H Q _ => match vs with
  | [.ref a, .int j] => ∃ d r t v ps tl, DeskAt K H a d r t v ps tl ∧ t.Gd ∧ ps.length ≤ 1000 ∧ t.names.length ≤ 60 ∧ 1 ≤ j ∧ j ≤ t.width ∧
    ∀ p H', H p = none → Same H H' → H' p = some (.lst ((mattersOf t ps j).map V.str)) → Q (.ref p) H'
  | _ => False
theorem mattersOf_congr {t : T} {ps qs : List (Str × Int)} (h : ∀ z, look ps z = look qs z) (j : Int) : mattersOf t ps j = mattersOf t qs j := by
  have e1 : wOf ps = wOf qs := by funext z; unfold wOf; rw [h z]
  have e2 : ∀ z, decide (z ∈ ps.map (·.1)) = decide (z ∈ qs.map (·.1)) := fun z => by rw [← look_isSome, ← look_isSome, h z]
  have e3 : knownOf t ps = knownOf t qs := by unfold knownOf; exact List.filter_congr fun y _ => e2 y
  unfold mattersOf
  rw [e1, e3]
  exact List.filter_congr fun n _ => by rw [e2 n]
theorem ok_Desk_matters (tp : Top K mg) : MtN P w K mg base 101 (CDk K) "matters" [] (sp_Desk_matters K) ∧ MtN P w K mg base 101 (CDk K) "matters" [.int 1] (sp_Desk_matters K) := by
  refine mt_byD tp.m_Desk_matters sc_Desk_matters (fun vs H Q E h => by unfold sp_Desk_matters at h; split at h <;> first | rfl | exact h.elim) (fun f cdv A outer s H vs Q E hr h => ⟨_, (pss_one (ps_ret (g_call (((ok_matters tp).1).ali tp.a_matters_partial) hr rfl (by omega) (pa_cons (k_fld K rfl (gv 0) rfl) (pa_cons (g_prop (ok_Desk_lot tp) hr (by omega) (gv 0) rfl) (pa_cons (gv 1) pa_nil)))))), ?_⟩)
  unfold sp_Desk_matters at h
  split at h
  next a j =>
    obtain ⟨d, r, t, v, ps, tl, l, g, pl, nl, j1, j2, k⟩ := h
    obtain ⟨dx, ha⟩ := l.o
    walk_at "w"
    refine ⟨_, dx, _, v, ha, tp.i_Desk.cl, tp.n_Desk_plan, rfl, ?_⟩
    refine ⟨dx, _, ha, d, r, t, v, ps, tl, l, g, pl, fun la ld H1 f1 f2 s1 l1 => ?_⟩
    have pm := List.mergeSort_perm ps pLe
    refine ⟨t, ld, _, l.m.mono s1, g, l1, nl, j1, j2, fun p H2 f3 s2 e2 => ?_⟩
    rw [mattersOf_congr (fun z => look_perm pm l1.ok.nd z)] at e2
    exact k p H2 (free_back s1 f3) (s1.trans s2) e2
  next => exact h.elim
def sp_Desk_end (K : PySem.W.Frag) : Sp := fun vs H Q _ => match vs with
  | [.ref a, .int j] => ∃ d r t v ps tl W, DeskAt K H a d r t v ps tl ∧ t.Gd ∧ ps.length ≤ 1000 ∧ (∀ z ∈ t.names, look ps z = some (W z)) ∧ 1 ≤ j ∧ j ≤ t.width ∧ ∀ H', Same H H' → Q (.int ((t.ends W).getD (j.toNat - 1) 0)) H'
  | _ => False
theorem ok_Desk_end (tp : Top K mg) : MtN P w K mg base 101 (CDk K) "end" [] (sp_Desk_end K) ∧ MtN P w K mg base 101 (CDk K) "end" [.int 1] (sp_Desk_end K) := by
  refine mt_byD tp.m_Desk_end sc_Desk_end (fun vs H Q E h => by unfold sp_Desk_end at h; split at h <;> first | rfl | exact h.elim) (fun f cdv A outer s H vs Q E hr h => ⟨_, (pss_one (ps_ret (g_call ((ok_end_of tp).1) hr rfl (by omega) (pa_cons (k_fld K rfl (gv 0) rfl) (pa_cons (g_prop (ok_Desk_lot tp) hr (by omega) (gv 0) rfl) (pa_cons (gv 1) pa_nil)))))), ?_⟩)
  unfold sp_Desk_end at h
  split at h
  next a j =>
    obtain ⟨d, r, t, v, ps, tl, W, l, g, pl, hw, j1, j2, k⟩ := h
    obtain ⟨dx, ha⟩ := l.o
    walk_at "w"
    refine ⟨_, dx, _, v, ha, tp.i_Desk.cl, tp.n_Desk_plan, rfl, ?_⟩
    refine ⟨dx, _, ha, d, r, t, v, ps, tl, l, g, pl, fun la ld H1 f1 f2 s1 l1 => ?_⟩
    have pm := List.mergeSort_perm ps pLe
    exact ⟨t, ld, _, W, l.m.mono s1, g, l1, fun z hz => (look_perm pm l1.ok.nd z).trans (hw z hz), j1, j2, fun H2 s2 => k H2 (s1.trans s2)⟩
  next => exact h.elim
def sp_Desk_what_if (K : PySem.W.Frag) : Sp := fun vs H Q _ => match vs with
  | [.ref a, .str z, .int c, .int j] => ∃ d r t v ps tl B, DeskAt K H a d r t v ps tl ∧ t.Gd ∧ z ∈ t.names ∧ ps.length < 1000 ∧ BdOk (putP (ps.mergeSort pLe) z c) B ∧ 1 ≤ j ∧ j ≤ t.width ∧
    ∀ p H', H p = none → Same H H' → H' p = some (.tup [oV (sideV B ((t.ends (farW (putP (ps.mergeSort pLe) z c) (-B))).getD (j.toNat - 1) 0)), oV (sideV B ((t.ends (farW (putP (ps.mergeSort pLe) z c) B)).getD (j.toNat - 1) 0))]) → Q (.ref p) H'
  | _ => False
theorem ok_Desk_what_if (tp : Top K mg) : MtN P w K mg base 101 (CDk K) "what_if" [] (sp_Desk_what_if K) ∧ MtN P w K mg base 101 (CDk K) "what_if" [.int 1] (sp_Desk_what_if K) := by
  refine mt_byD tp.m_Desk_what_if sc_Desk_what_if (fun vs H Q E h => by unfold sp_Desk_what_if at h; split at h <;> first | rfl | exact h.elim) (fun f cdv A outer s H vs Q E hr h => ⟨_, (pss_cons (ps_expr (g_meth (ok_Desk_check_leaf tp) hr (by omega) (gv 0) (pa_cons (gv 1) pa_nil))) (pss_cons (ps_expr (g_call (ok_check_whole tp) hr rfl (by omega) (pa_cons (gv 2) pa_nil))) (pss_cons (ps_expr (g_call (ok_check_end tp) hr rfl (by omega) (pa_cons (k_fld K rfl (gv 0) rfl) (pa_cons (gv 3) pa_nil)))) (pss_cons (ps_set (i := 4) sc_Desk_what_if.nd rfl (by first | exact Or.inl rfl | exact Or.inr rfl) (g_prop (ok_Desk_lot tp) hr (by omega) (gv 0) rfl)) (pss_cons (ps_asg (gv 2) (pg_sub (gv 4) (gv 1) (s_putO ((ok_Lot___setitem__ tp).sp') tp.q_Lot (hr.mono (by omega))))) (pss_one (ps_ret (g_call (((ok_between tp).1).ali tp.a_between_partial) hr rfl (by omega) (pa_cons (k_fld K rfl (gv 0) rfl) (pa_cons (gv 4) (pa_cons (gv 3) pa_nil))))))))))), ?_⟩)
  unfold sp_Desk_what_if at h
  split at h
  next a z c j =>
    obtain ⟨d, r, t, v, ps, tl, B, l, g, zt, pl, bd, j1, j2, k⟩ := h
    obtain ⟨dx, ha⟩ := l.o
    walk_at "w"
    refine ⟨dx, _, ha, rfl, ?_⟩
    refine ⟨d, r, t, v, ps, tl, l, g, zt, fun H1 s1 => ?_⟩
    have l1 := l.mono s1
    have ha1 := s1 _ _ ha
    walk_at "w"
    refine ⟨_, dx, _, v, ha1, tp.i_Desk.cl, tp.n_Desk_plan, rfl, ?_⟩
    refine ⟨t, l1.m, j1, j2, ?_⟩
    walk_at "w"
    refine ⟨dx, _, ha1, d, r, t, v, ps, tl, l1, g, by omega, fun la ld H2 f1 f2 s2 l2 => ?_⟩
    obtain ⟨dl, ol⟩ := l2.o
    walk_at "w"
    refine ⟨dl, _, ol, ld, _, l2, sh_nm g.sh z zt, by rw [(List.mergeSort_perm _ _).length_eq]; omega, fun H3 s3 l3 => ?_⟩
    have ld0 : H1 ld = none := f2
    have s13 : Same H1 H3 := SameX.un s2 f2 s3
    walk_at "w"
    refine ⟨_, dx, _, v, s13 _ _ ha1, tp.i_Desk.cl, tp.n_Desk_plan, rfl, ?_⟩
    refine ⟨t, ld, _, B, l1.m.mono s13, g, l3, bd, j1, j2, fun p H4 f4 s4 e4 => ?_⟩
    exact k p H4 (free_back (s1.trans s13) f4) (s1.trans (s13.trans s4)) e4
  next => exact h.elim
def sp_Desk_copy (K : PySem.W.Frag) : Sp := fun vs H Q _ => match vs with
  | [.ref a] => ∃ d r t v ps tl, DeskAt K H a d r t v ps tl ∧ t.Gd ∧ ps.length ≤ 1000 ∧
    ∀ a' d' r' H', H a' = none → H d' = none → H r' = none → Same H H' → DeskAt K H' a' d' r' t v (initP t (ps.mergeSort pLe)) tl → Q (.ref a') H'
  | _ => False
theorem ok_Desk_copy (tp : Top K mg) : MtN P w K mg base 62 (CDk K) "copy" [] (sp_Desk_copy K) := by
  refine mt_by tp.m_Desk_copy sc_Desk_copy (fun vs H Q E h => by unfold sp_Desk_copy at h; split at h <;> first | rfl | exact h.elim) (fun f cdv A outer s H vs Q E hr h => ⟨_, (pss_cons (ps_set (i := 1) sc_Desk_copy.nd rfl (by first | exact Or.inl rfl | exact Or.inr rfl) (g_make ((mk_Desk tp).1) hr rfl (by omega) (pa_cons (k_fld K rfl (gv 0) rfl) (pa_cons (g_prop (ok_Desk_lot tp) hr (by omega) (gv 0) rfl) pa_nil)))) (pss_cons (k_fldS K rfl (gv 1) (pe_callTy (k_list K rfl) (by rfl) tp.b_list (by decide +kernel) (pa_cons (k_fld K rfl (gv 0) rfl) pa_nil)) rfl) (pss_one (ps_ret (gv 1))))), ?_⟩)
  unfold sp_Desk_copy at h
  split at h
  next a =>
    obtain ⟨d, r, t, v, ps, tl, l, g, pl, k⟩ := h
    obtain ⟨dx, ha⟩ := l.o
    walk_at "w"
    refine ⟨_, dx, _, v, ha, tp.i_Desk.cl, tp.n_Desk_plan, rfl, ?_⟩
    refine ⟨dx, _, ha, d, r, t, v, ps, tl, l, g, pl, fun la ld H1 f1 f2 s1 l1 => ?_⟩
    refine ⟨t, ld, _, l.m.mono s1, g, l1, fun a' d' r0 H2 fa fd fr s2 l2 => ?_⟩
    obtain ⟨dx2, ha2⟩ := l2.o
    obtain ⟨vs, hr1, tr⟩ := l.l
    have s12 := s1.trans s2
    walk_at "w"
    refine ⟨_, dx, _, .ref r, s12 _ _ ha, tp.i_Desk.cl, tp.n_Desk_trail, rfl, ?_⟩
    refine ⟨_, Or.inl (SqL.of (s12 _ _ hr1)), fun r' H3 f3 s3 e3 => ?_⟩
    refine ⟨_, dx2, _, s3 _ _ ha2, tp.i_Desk.cl, tp.n_Desk_trail, (show (3 : Nat) < 1000 by decide), fun H4 s4 e4 => ?_⟩
    have fa0 := free_back s1 fa
    have fr0 := free_back s12 f3
    have da : d' ≠ a' := by rintro rfl; rw [l2.k] at ha2; cases ha2
    have ra : r' ≠ a' := by rintro rfl; rw [ha2] at f3; cases f3
    have s04 : Same H H4 := SameX.un (s12.trans s3) fa0 s4
    walk_at "w"
    refine k a' d' r' H4 fa0 (free_back s1 fd) fr0 s04 ⟨⟨dx2, e4⟩, s4 _ _ da (s3 _ _ l2.k), ⟨vs, s4 _ _ ra e3, tr.mono fun b o e => s04 _ _ e⟩, MT.mono s04 l.m, l2.nd, l2.sub⟩
  next => exact h.elim
end LW
namespace LW
open PySem PySem.Spec L2 GG
variable {P : Program} {w : World} {K : PySem.W.Frag} {mg : Str → Option Value} {base : Heap}
/-- worths by names in a dict -/
def Wd (H : Hp) (q : Addr) (W : Str → Int) (ns : List Str) : Prop := ∃ kvs, H q = some (.dK kvs) ∧ ∀ z ∈ ns, valV kvs (.inr z) = some (.int (W z))
theorem Wd.same {H H' : Hp} {q : Addr} {W : Str → Int} {ns : List Str} (h : Wd H q W ns) (s : Same H H') : Wd H' q W ns := let ⟨k, a, b⟩ := h; ⟨k, s _ _ a, b⟩
theorem Wd.sub {H : Hp} {q : Addr} {W : Str → Int} {ns ms : List Str} (h : Wd H q W ns) (s : ∀ z ∈ ms, z ∈ ns) : Wd H q W ms := let ⟨k, a, b⟩ := h; ⟨k, a, fun z hz => b z (s z hz)⟩
def wps (W : Str → Int) (ns : List Str) : List (Str × Int) := ns.map fun z => (z, W z)
theorem wps_fst (W : Str → Int) (ns : List Str) : (wps W ns).map (·.1) = ns := by unfold wps; rw [List.map_map]; exact List.map_id' ns
theorem wps_wOf {ps : List (Str × Int)} (nd : (ps.map (·.1)).Nodup) : wps (wOf ps) (ps.map (·.1)) = ps := by
  unfold wps
  rw [List.map_map]
  refine (List.map_congr_left fun p hp => ?_).trans (List.map_id' ps)
  show (p.1, wOf ps p.1) = p
  unfold wOf
  rw [look_of nd (show (p.1, p.2) ∈ ps from hp)]
  rfl
theorem look_wps {W : Str → Int} {ns : List Str} {z : Str} (nd : ns.Nodup) (h : z ∈ ns) : look (wps W ns) z = some (W z) :=
  look_of (by rw [wps_fst]; exact nd) (List.mem_map.mpr ⟨z, h, rfl⟩)
theorem many_atL {d : Int} (h0 : 0 ≤ d) (h1 : d < 4) : ∃ m : Int, ([.int 3, .int 9, .int 40, .int ((10 : Int) ^ (6 : Int).toNat)] : List V)[d.toNat]? = some (.int m) ∧ 0 < m ∧ m ≤ 1000000 := by
  have : d.toNat = 0 ∨ d.toNat = 1 ∨ d.toNat = 2 ∨ d.toNat = 3 := by omega
  rcases this with q | q | q | q <;> rw [q]
  · exact ⟨3, rfl, by decide, by decide⟩
  · exact ⟨9, rfl, by decide, by decide⟩
  · exact ⟨40, rfl, by decide, by decide⟩
  · exact ⟨(10 : Int) ^ (6 : Int).toNat, rfl, by decide, by decide⟩
def sp__law_worths (K : PySem.W.Frag) : Sp := fun vs H Q _ => match vs with
  | [.ref p, .ref q] => ∃ ns : List Str, Pu H p ∧ H q = some (.lst (ns.map V.str)) ∧ ns.length ≤ 100 ∧ ns.Nodup ∧ ∀ W r H', H r = none → SameX p H H' → Pu H' p → H' r = some (.dK (kvI (wps W ns))) → (∀ z ∈ ns, -500000 ≤ W z ∧ W z ≤ 500000) → Q (.ref r) H'
  | _ => False
theorem ok__law_worths (tp : Top K mg) : FnN P w K mg base 2 "_law_worths" [] (sp__law_worths K) := by
  refine fn_by tp.f__law_worths sc__law_worths (fun vs H Q E h => by unfold sp__law_worths at h; split at h <;> first | rfl | exact h.elim) (fun f cdv A outer s H vs Q E hr h => ⟨_, (pss_cons (ps_set (i := 2) sc__law_worths.nd rfl (by first | exact Or.inl rfl | exact Or.inr rfl) (pe_ix (k_ix K rfl) (g_lst (pa_cons pe_int (pa_cons pe_int (pa_cons pe_int (pa_cons (pe_op op_powW pe_int pe_int) pa_nil))))) (g_call (ok__law_draw tp) hr rfl (by omega) (pa_cons (gv 0) (pa_cons pe_int pa_nil))) (fun _ _ => rfl))) (pss_cons (ps_set (i := 3) sc__law_worths.nd rfl (by first | exact Or.inl rfl | exact Or.inr rfl) g_dnew) (pss_cons (g_for PassesOwn.never rfl (kw_list K rfl (gv 1)) (pg_name (i := 4) sc__law_worths.nd rfl (by first | exact Or.inl rfl | exact Or.inr rfl)) (pss_one (ps_asg (pe_op op_subG (g_call (ok__law_draw tp) hr rfl (by omega) (pa_cons (gv 0) (pa_cons (gv 2) pa_nil))) (pe_op op_fdivG (gv 2) pe_int)) (pg_sub (gv 3) (gv 4) (s_dict (Nat.lt_of_le_of_lt (Nat.add_le_add_left (by decide : 1 ≤ 64) _) hr.units)))))) (pss_one (ps_ret (gv 3)))))), ?_⟩)
  unfold sp__law_worths at h
  split at h
  next p q =>
    obtain ⟨ns, hp, hq, hl, nd, k⟩ := h
    have hpq : q ≠ p := by rintro rfl; obtain ⟨x, y, z, e⟩ := hp; rw [hq] at e; cases ns with
      | nil => simp at e
      | cons a l => simp at e
    walk_at "w"
    refine ⟨⟨by decide, by decide +kernel⟩, ?_⟩
    walk_at "w"
    refine ⟨(by show 4 ≤ sizeLine; decide), fun p1 H1 hp1 s1 e1 => ?_⟩
    refine ⟨hp.same s1, by decide, by decide, fun d H2 d0 d1 s2 hp2 => ?_⟩
    have e2 := s2 _ _ (hp.ne hp1) e1
    obtain ⟨m, hm, hm1, hm2⟩ := many_atL d0 d1
    walk_at "w"
    refine ⟨_, .int m, Or.inl (SqL.of e2), at_of (j := d.toNat) (by omega) hm, ?_⟩
    walk_at "w"
    refine fun pd H3 fd s3 ed => ?_
    have hp3 := hp2.same s3
    have s03 : SameX p H H3 := (SameX.of s1).trans (s2.trans (SameX.of s3))
    have f0 : H pd = none := ((SameX.of s1).trans s2).none_ hp2 fd
    have npd : pd ≠ p := hp.ne f0
    walk_at "w"
    refine forw_list (xs := ns.map V.str) (fun i σ G => ∃ v4, σ = [some (.ref p), some (.ref q), some (.int m), some (.ref pd), v4] ∧ SameX p H G ∧ Pu G p ∧ ∃ ps, G pd = some (.dK (kvI ps)) ∧ ps.map (·.1) = ns.take i ∧ ∀ x ∈ ps, -500000 ≤ x.2 ∧ x.2 ≤ 500000)
      ⟨none, rfl, s03, hp3, [], ed, rfl, fun x hx => by simp at hx⟩ (fun i σ G _ ⟨_, _, sG, _⟩ => SqL.of (sG _ _ hpq hq)) ?_ ?_
    · rintro i x σ G hx ⟨v4, rfl, sG, hpG, ps, eG, pn, pb⟩
      obtain ⟨z, hz, rfl⟩ := map_atG hx
      have hi : i < ns.length := (List.getElem?_eq_some_iff.mp hz).1
      have pl : ps.length ≤ 100 := by
        have := congrArg List.length pn
        rw [List.length_map, List.length_take] at this
        omega
      walk_at "w"
      refine ⟨hpG, hm1, by omega, fun d4 H4 a4 b4 s4 hp4 => ?_⟩
      walk_at "w"
      refine ⟨⟨by decide, by decide⟩, ?_⟩
      refine ⟨kvI ps, s4 _ _ npd eG, by rw [kvI_len]; exact lt1000 (by omega), fun H5 s5 e5 => ?_⟩
      have nin : z ∉ ps.map (·.1) := by
        rw [pn]
        intro q
        have e : ns = ns.take i ++ z :: ns.drop (i + 1) := by
          obtain ⟨hi, e⟩ := List.getElem?_eq_some_iff.mp hz
          rw [← e, List.getElem_cons_drop, List.take_append_drop]
        rw [e, List.nodup_append] at nd
        exact nd.2.2 _ q _ (List.mem_cons_self ..) rfl
      have pk : putK (kvI ps) (.inr z) (.int (d4 - m / 2)) = kvI (ps ++ [(z, d4 - m / 2)]) := by
        rw [putK_new]
        · unfold kvI; rw [List.map_append]; rfl
        · rw [valV_kvI]
          cases e : look ps z with
          | none => rfl
          | some c => exact absurd (look_some.mpr ⟨c, e⟩) nin
      rw [pk] at e5
      refine ⟨_, rfl, fun b o nb eb => s5 b o (ne_of_none eb f0) (s4 b o nb (sG b o nb eb)), let ⟨x, y, w', e⟩ := hp4; ⟨x, y, w', s5 _ _ npd.symm e⟩, _, e5, ?_, fun x hx => ?_⟩
      · rw [List.map_append, pn, List.take_add_one, hz]; rfl
      · rcases List.mem_append.mp hx with q | q
        · exact pb x q
        · rw [List.mem_singleton.mp q]
          show -500000 ≤ d4 - m / 2 ∧ d4 - m / 2 ≤ 500000
          omega
    · rintro σ G ⟨v4, rfl, sG, hpG, ps, eG, pn, pb⟩
      rw [List.length_map, List.take_length] at pn
      walk_at "w"
      have nd2 : (ps.map (·.1)).Nodup := by rw [pn]; exact nd
      refine k (wOf ps) pd G f0 sG hpG ?_ fun z hz => ?_
      · rw [← pn, wps_wOf nd2]; exact eG
      · rw [← pn] at hz
        obtain ⟨x, hx, rfl⟩ := List.mem_map.mp hz
        unfold wOf
        rw [look_of nd2 (show (x.1, x.2) ∈ ps from hx)]
        exact pb x hx
  next => exact h.elim
def somes (W : Str → Option Int) (ns : List Str) : List (Str × Int) := ns.filterMap fun z => (W z).map fun c => (z, c)
theorem somes_mem {W : Str → Option Int} {ns : List Str} {p : Str × Int} : p ∈ somes W ns ↔ p.1 ∈ ns ∧ W p.1 = some p.2 := by
  unfold somes
  rw [List.mem_filterMap]
  constructor
  · rintro ⟨z, hz, e⟩
    cases hW : W z with
    | none => rw [hW] at e; cases e
    | some c => rw [hW] at e; cases e; exact ⟨hz, hW⟩
  · rintro ⟨h1, h2⟩
    exact ⟨p.1, h1, by rw [h2]; rfl⟩
theorem somes_nd {W : Str → Option Int} : ∀ {ns : List Str}, ns.Nodup → ((somes W ns).map (·.1)).Nodup
  | [], _ => by simp [somes]
  | y :: ns, nd => by
    rw [List.nodup_cons] at nd
    have ih := somes_nd (W := W) nd.2
    unfold somes at ih ⊢
    rw [List.filterMap_cons]
    cases h : W y with
    | none => exact ih
    | some c =>
      show ((y, c) :: _).map (·.1) |>.Nodup
      rw [List.map_cons, List.nodup_cons]
      refine ⟨fun q => ?_, ih⟩
      obtain ⟨p, hp, e⟩ := List.mem_map.mp q
      have := (somes_mem (W := W) (ns := ns)).mp hp
      have e' : p.1 = y := e
      exact nd.1 (e' ▸ this.1)
theorem somes_len (W : Str → Option Int) (ns : List Str) : (somes W ns).length ≤ ns.length := List.length_filterMap_le _ _
/-- the desk's worths are the law's -/
theorem perm_somes {ps : List (Str × Int)} {W : Str → Option Int} {ns : List Str} (nd : (ps.map (·.1)).Nodup) (hn : ns.Nodup) (sub : ∀ x ∈ ps, x.1 ∈ ns) (h : ∀ z ∈ ns, look ps z = W z) : ps.Perm (somes W ns) := by
  refine (List.perm_ext_iff_of_nodup (List.Pairwise.of_map _ (fun a b q e => q (e ▸ rfl)) nd) (List.Pairwise.of_map _ (fun a b q e => q (e ▸ rfl)) (somes_nd (W := W) hn))).mpr fun p => ?_
  rw [somes_mem]
  constructor
  · intro q
    exact ⟨sub p q, by rw [← h _ (sub p q)]; exact look_of nd q⟩
  · rintro ⟨a, b⟩
    rw [← h _ a] at b
    exact look_mem b
def putO (W : Str → Option Int) (z : Str) (w : Option Int) : Str → Option Int := fun y => if y = z then w else W y
/-- all changes undone, the last one first -/
def undoW (W : Str → Option Int) (tl : List (Str × Option Int)) : Str → Option Int := tl.foldr (fun x W' => putO W' x.1 x.2) W
theorem undoW_snoc (W : Str → Option Int) (tl : List (Str × Option Int)) (z : Str) (w : Option Int) : undoW W (tl ++ [(z, w)]) = undoW (putO W z w) tl := by unfold undoW; rw [List.foldr_append]; rfl
theorem putO_back (W : Str → Option Int) (z : Str) (w : Option Int) : putO (putO W z w) z (W z) = W := by
  funext y
  unfold putO
  by_cases c : y = z
  · rw [if_pos c, c]
  · rw [if_neg c, if_neg c]
theorem look_dropP {ps : List (Str × Int)} (nd : (ps.map (·.1)).Nodup) (z y : Str) : look (dropP ps z) y = if y = z then none else look ps y := by
  have nd2 : ((dropP ps z).map (·.1)).Nodup := nd.sublist (List.filter_sublist.map _)
  by_cases c : y = z
  · rw [if_pos c]
    cases h : look (dropP ps z) y with
    | none => rfl
    | some v => have := (List.mem_filter.mp (look_mem h)).2; simp [c] at this
  · rw [if_neg c]
    cases h : look ps y with
    | none =>
      cases h2 : look (dropP ps z) y with
      | none => rfl
      | some v => rw [look_of nd (List.mem_filter.mp (look_mem h2)).1] at h; cases h
    | some v => exact look_of nd2 (List.mem_filter.mpr ⟨look_mem h, by simp [c]⟩)
theorem Pu.ne_tr {H : Hp} {p q : Addr} {vs : List V} {tl : List (Str × Option Int)} (hp : Pu H p) (h : H q = some (.lst vs)) (tr : TRL H tl vs) : q ≠ p := by
  rintro rfl
  obtain ⟨x, y, z, e⟩ := hp
  rw [h] at e
  cases tl with
  | nil =>
    have : vs = [] := tr
    rw [this] at e; simp at e
  | cons a l =>
    obtain ⟨q2, r2, e2, _, _⟩ := tr
    rw [e2] at e; simp at e
theorem Pu.ne_of {H : Hp} {p b : Addr} {o : HO} (hp : Pu H p) (e : H b = some o) (n : ∀ xs, o ≠ .lst xs) : b ≠ p := by
  rintro rfl
  obtain ⟨x, y, z, e2⟩ := hp
  rw [e2] at e; cases e; exact n _ rfl
theorem TRL.monoX {H H' : Hp} {p : Addr} (hp : Pu H p) (s : SameX p H H') {l : List (Str × Option Int)} {vs : List V} (h : TRL H l vs) : TRL H' l vs := h.mono fun b o e => s _ _ (hp.ne_of e fun xs q => by cases q) e
theorem DeskAt.monoX {K : PySem.W.Frag} {H H' : Hp} {p a d r : Addr} {t : T} {v : V} {ps : List (Str × Int)} {tl : List (Str × Option Int)} (hp : Pu H p) (s : SameX p H H') (h : DeskAt K H a d r t v ps tl) : DeskAt K H' a d r t v ps tl :=
  ⟨h.o.imp fun _ e => s _ _ (hp.ne_of e fun xs q => by cases q) e, s _ _ (hp.ne_of h.k fun xs q => by cases q) h.k, h.l.imp fun _ e => ⟨s _ _ (hp.ne_tr e.1 e.2) e.1, e.2.monoX hp s⟩,
    h.m.monoT fun b o n e => s b o (hp.ne_of e fun xs q => by subst q; exact n) e, h.nd, h.sub⟩
abbrev S3 := Int × Int × Int
/-- a purse with just these numbers -/
def PuD (H : Hp) (p : Addr) (s : S3) : Prop := H p = some (.lst [.int s.1, .int s.2.1, .int s.2.2])
theorem PuD.pu {H : Hp} {p : Addr} {s : S3} (h : PuD H p s) : Pu H p := ⟨_, _, _, h⟩
theorem Pu.det {H : Hp} {p : Addr} (h : Pu H p) : ∃ s, PuD H p s := let ⟨a, b, c, e⟩ := h; ⟨(a, b, c), e⟩
def drawN (s : S3) : Int := ((((((s.2.1 * 48271 + (s.2.2 + 1) * 1299709 + 907) % 2147483629) * ((s.2.1 * 48271 + (s.2.2 + 1) * 1299709 + 907) % 2147483629) + (s.2.2 + 1)) % 2147483587) * ((((s.2.1 * 48271 + (s.2.2 + 1) * 1299709 + 907) % 2147483629) * ((s.2.1 * 48271 + (s.2.2 + 1) * 1299709 + 907) % 2147483629) + (s.2.2 + 1)) % 2147483587) + 69621) % 2147483563) / 64
def drawV (s : S3) (m : Int) : Int := if 0 < s.1 then s.1 % m else drawN s % m
def drawS (s : S3) (m : Int) : S3 := if 0 < s.1 then (s.1 / m, s.2.1, s.2.2) else (s.1, s.2.1, s.2.2 + 1)
theorem drawV_bd (s : S3) {m : Int} (h : 0 < m) : 0 ≤ drawV s m ∧ drawV s m < m := by
  unfold drawV
  split
  · exact ⟨Int.emod_nonneg _ (by omega), Int.emod_lt_of_pos _ h⟩
  · exact ⟨Int.emod_nonneg _ (by omega), Int.emod_lt_of_pos _ h⟩
def sp_draw_det (K : PySem.W.Frag) : Sp := fun vs H Q _ => match vs with
  | [.ref p, .int m] => ∃ s, PuD H p s ∧ 0 < m ∧ m < 1073741824 ∧ ∀ H', SameX p H H' → PuD H' p (drawS s m) → Q (.int (drawV s m)) H'
  | _ => False
theorem ok_draw_det (tp : Top K mg) : FnN P w K mg base 1 "_law_draw" [] (sp_draw_det K) := by
  refine fn_by tp.f__law_draw sc__law_draw (fun vs H Q E h => by unfold sp_draw_det at h; split at h <;> first | rfl | exact h.elim) (fun f cdv A outer s H vs Q E hr h => ⟨_, (pss_cons (g_if (g_cmp op_gtG (pe_ix (k_ix K rfl) (gv 0) pe_int (fun _ _ => rfl)) pe_int (nomark _)) (pss_cons (ps_set (i := 2) sc__law_draw.nd rfl (by first | exact Or.inl rfl | exact Or.inr rfl) (pe_op op_modG (pe_ix (k_ix K rfl) (gv 0) pe_int (fun _ _ => rfl)) (gv 1))) (pss_cons (ps_asg (pe_op op_fdivG (pe_ix (k_ix K rfl) (gv 0) pe_int (fun _ _ => rfl)) (gv 1)) (pg_sub (gv 0) pe_int s_set)) (pss_one (ps_ret (gv 2))))) pss_nil) (pss_cons (ps_asg (pe_op op_addG (pe_ix (k_ix K rfl) (gv 0) pe_int (fun _ _ => rfl)) pe_int) (pg_sub (gv 0) pe_int s_set)) (pss_cons (ps_set (i := 3) sc__law_draw.nd rfl (by first | exact Or.inl rfl | exact Or.inr rfl) (pe_op op_modG (pe_op op_addG (pe_op op_addG (pe_op op_mulG (pe_ix (k_ix K rfl) (gv 0) pe_int (fun _ _ => rfl)) pe_int) (pe_op op_mulG (pe_ix (k_ix K rfl) (gv 0) pe_int (fun _ _ => rfl)) pe_int)) pe_int) pe_int)) (pss_cons (ps_set (i := 3) sc__law_draw.nd rfl (by first | exact Or.inl rfl | exact Or.inr rfl) (pe_op op_modG (pe_op op_addG (pe_op op_mulG (gv 3) (gv 3)) (pe_ix (k_ix K rfl) (gv 0) pe_int (fun _ _ => rfl))) pe_int)) (pss_cons (ps_set (i := 3) sc__law_draw.nd rfl (by first | exact Or.inl rfl | exact Or.inr rfl) (pe_op op_modG (pe_op op_addG (pe_op op_mulG (gv 3) (gv 3)) pe_int) pe_int)) (pss_one (ps_ret (pe_op op_modG (pe_op op_fdivG (gv 3) pe_int) (gv 1))))))))), ?_⟩)
  unfold sp_draw_det at h
  split at h
  next p m =>
    obtain ⟨⟨a, b, c⟩, hp, h0, h1, k⟩ := h
    have hp : H p = some (.lst [.int a, .int b, .int c]) := hp
    walk_at "w"
    refine ⟨_, .int a, Or.inl (SqL.of hp), at_of (j := 0) rfl rfl, ?_⟩
    walk_at "w"
    refine way_d (fun ha => ?_) fun ha => ?_
    · walk_at "w"
      refine ⟨_, .int a, Or.inl (SqL.of hp), at_of (j := 0) rfl rfl, ?_⟩
      refine ⟨h0, ?_⟩
      walk_at "w"
      refine ⟨_, .int a, Or.inl (SqL.of hp), at_of (j := 0) rfl rfl, ?_⟩
      refine ⟨⟨h0, h1⟩, ?_⟩
      refine ⟨_, 0, hp, rfl, fun H1 s1 e1 => ?_⟩
      have q := k H1 s1
      unfold drawS drawV at q
      rw [if_pos ha, if_pos ha] at q
      exact q e1
    · walk_at "w"
      refine ⟨_, .int c, Or.inl (SqL.of hp), at_of (j := 2) rfl rfl, ?_⟩
      refine ⟨_, 2, hp, rfl, fun H1 s1 e1 => ?_⟩
      have q := k H1 s1
      unfold drawS drawV at q
      rw [if_neg ha, if_neg ha] at q
      have q := q e1
      unfold drawN at q
      walk_at "w"
      refine ⟨_, .int b, Or.inl (SqL.of e1), at_of (j := 1) rfl rfl, ?_⟩
      walk_at "w"
      refine ⟨Or.inr (by decide), ?_⟩
      walk_at "w"
      refine ⟨_, .int (c + 1), Or.inl (SqL.of e1), at_of (j := 2) rfl rfl, ?_⟩
      walk_at "w"
      refine ⟨Or.inr (by decide), ?_⟩
      walk_at "w"
      refine ⟨(by show (0 : Int) < _; decide), ?_⟩
      have r1 := Int.emod_nonneg (b * 48271 + (c + 1) * 1299709 + 907) (b := 2147483629) (by decide)
      have r2 := Int.emod_lt_of_pos (b * 48271 + (c + 1) * 1299709 + 907) (b := 2147483629) (by decide)
      have r3 := Int.emod_nonneg (((b * 48271 + (c + 1) * 1299709 + 907) % 2147483629) * ((b * 48271 + (c + 1) * 1299709 + 907) % 2147483629) + (c + 1)) (b := 2147483587) (by decide)
      have r4 := Int.emod_lt_of_pos (((b * 48271 + (c + 1) * 1299709 + 907) % 2147483629) * ((b * 48271 + (c + 1) * 1299709 + 907) % 2147483629) + (c + 1)) (b := 2147483587) (by decide)
      walk_at "w"
      refine ⟨Or.inl ⟨by omega, by omega⟩, ?_⟩
      walk_at "w"
      refine ⟨_, .int (c + 1), Or.inl (SqL.of e1), at_of (j := 2) rfl rfl, ?_⟩
      walk_at "w"
      refine ⟨(by show (0 : Int) < _; decide), ?_⟩
      walk_at "w"
      refine ⟨Or.inl ⟨by omega, by omega⟩, ?_⟩
      walk_at "w"
      refine ⟨(by show (0 : Int) < _; decide), ?_⟩
      walk_at "w"
      refine ⟨⟨by decide, by decide⟩, ?_⟩
      refine ⟨h0, ?_⟩
      exact q
  next => exact h.elim
noncomputable def cellD (xs : List Int) (at_ : Int) : Int := (Classical.choose (cutV_int xs (some at_) (some (at_ + 1)))).sum
noncomputable def purseF (xs : List Int) (at_ : Int) : S3 := ((if decide ((10 : Int) ^ (18 : Int).toNat ≤ cellD xs at_) = true then 1 else 0) * (cellD xs at_ % ((10 : Int) ^ (60 : Int).toNat) ^ (10 : Int).toNat), cellD xs at_ % 2147483629, 1000 * at_)
def sp_purse_det (K : PySem.W.Frag) : Sp := fun vs H Q _ => match vs with
  | [.ref q, .int at_] => ∃ xs : List Int, SqL K H q (xs.map V.int) ∧ ∀ p H', H p = none → Same H H' → PuD H' p (purseF xs at_) → Q (.ref p) H'
  | _ => False
theorem ok_purse_det (tp : Top K mg) : FnN P w K mg base 1 "_law_purse" [] (sp_purse_det K) := by
  refine fn_by tp.f__law_purse sc__law_purse (fun vs H Q E h => by unfold sp_purse_det at h; split at h <;> first | rfl | exact h.elim) (fun f cdv A outer s H vs Q E hr h => ⟨_, (pss_cons (ps_set (i := 2) sc__law_purse.nd rfl (by first | exact Or.inl rfl | exact Or.inr rfl) (pe_callTy c_int (by rfl) tp.b_int (by decide +kernel) (pa_cons (pe_callB (k_sum K rfl rfl) (by rfl) tp.b_sum (by decide +kernel) (pa_cons (pe_slice (k_sl K rfl) (gv 0) (po_some (gv 1)) (po_some (pe_op op_addG (gv 1) pe_int))) pa_nil)) pa_nil))) (pss_one (ps_ret (g_lst (pa_cons (pe_op op_mulG (pe_callTy c_int (by rfl) tp.b_int (by decide +kernel) (pa_cons (g_cmpV op_geG (gv 2) (pe_op op_powW pe_int pe_int) (nomark _)) pa_nil)) (pe_op op_modG (gv 2) (pe_op op_powW (pe_op op_powW pe_int pe_int) pe_int))) (pa_cons (pe_op op_modG (gv 2) pe_int) (pa_cons (pe_op op_mulG pe_int (gv 1)) pa_nil))))))), ?_⟩)
  unfold sp_purse_det at h
  split at h
  next q at_ =>
    obtain ⟨xs, hq, k⟩ := h
    walk_at "w"
    refine ⟨_, rfl, ?_⟩
    walk_at "w"
    refine ⟨_, rfl, ?_⟩
    walk_at "w"
    refine ⟨_, hq, fun p1 H1 hp1 s1 e1 => ?_⟩
    have ey := Classical.choose_spec (cutV_int xs (some at_) (some (at_ + 1)))
    rw [ey] at e1
    walk_at "w"
    refine ⟨_, SqL.of e1, ?_⟩
    walk_at "w"
    refine ⟨⟨by decide, by decide +kernel⟩, ?_⟩
    walk_at "w"
    refine ⟨⟨by decide, by decide +kernel⟩, ?_⟩
    refine ⟨⟨by decide, by decide +kernel⟩, ?_⟩
    walk_at "w"
    refine ⟨(by show (0 : Int) < _; decide +kernel), ?_⟩
    walk_at "w"
    refine ⟨Or.inl (by split <;> decide), ?_⟩
    walk_at "w"
    refine ⟨(by show (0 : Int) < _; decide), ?_⟩
    walk_at "w"
    refine ⟨Or.inl (by decide), ?_⟩
    refine ⟨(by show 3 ≤ sizeLine; decide), fun p2 H2 hp2 s2 e2 => k p2 H2 (free_back s1 hp2) (s1.trans s2) ?_⟩
    exact e2
  next => exact h.elim
end LW
namespace LW
open PySem PySem.Spec L2 GG
variable {P : Program} {w : World} {K : PySem.W.Frag} {mg : Str → Option Value} {base : Heap}
inductive VI where
  | lot
  | num (i : Int)
  | tree
  | pair (a b : Option Int)
  | strs (l : List Str)
  | opts (l : List (Option Int))
  | bools (l : List Bool)
/-- an item of a view, made behind H0 -/
def ItemAt (K : PySem.W.Frag) (H0 H : Hp) (t : T) (v : V) (W : Str → Option Int) : VI → V → Prop
  | .lot, x => ∃ la ld ps, x = .ref la ∧ H0 la = none ∧ H0 ld = none ∧ LotAt K H la ld ps ∧ ps.Perm (somes W t.names)
  | .num i, x => x = .int i
  | .tree, x => x = v
  | .pair a b, x => ∃ p, x = .ref p ∧ H0 p = none ∧ H p = some (.tup [oV a, oV b])
  | .strs l, x => ∃ p, x = .ref p ∧ H0 p = none ∧ H p = some (.lst (l.map V.str))
  | .opts l, x => ∃ p, x = .ref p ∧ H0 p = none ∧ H p = some (.lst (l.map oW))
  | .bools l, x => ∃ p, x = .ref p ∧ H0 p = none ∧ H p = some (.lst (l.map V.bl))
def VW (K : PySem.W.Frag) (H0 H : Hp) (t : T) (v : V) (W : Str → Option Int) : List VI → List V → Prop
  | [], xs => xs = []
  | i :: l, xs => ∃ x r, xs = x :: r ∧ ItemAt K H0 H t v W i x ∧ VW K H0 H t v W l r
section
variable {K : PySem.W.Frag} {H0 H H' : Hp} {t : T} {v : V} {W : Str → Option Int}
theorem ItemAt.monoN (s : ∀ b o, H0 b = none → H b = some o → H' b = some o) : ∀ {i : VI} {x : V}, ItemAt K H0 H t v W i x → ItemAt K H0 H' t v W i x
  | .lot, x, ⟨la, ld, ps, e, f1, f2, l, p⟩ => ⟨la, ld, ps, e, f1, f2, ⟨l.o.imp fun _ u => s _ _ f1 u, s _ _ f2 l.k, l.ok⟩, p⟩
  | .num i, x, h => h
  | .tree, x, h => h
  | .pair a b, x, ⟨p, e, f, h⟩ => ⟨p, e, f, s _ _ f h⟩
  | .strs l, x, ⟨p, e, f, h⟩ => ⟨p, e, f, s _ _ f h⟩
  | .opts l, x, ⟨p, e, f, h⟩ => ⟨p, e, f, s _ _ f h⟩
  | .bools l, x, ⟨p, e, f, h⟩ => ⟨p, e, f, s _ _ f h⟩
theorem VW.monoN (s : ∀ b o, H0 b = none → H b = some o → H' b = some o) : ∀ {l : List VI} {xs : List V}, VW K H0 H t v W l xs → VW K H0 H' t v W l xs
  | [], xs, h => h
  | i :: l, xs, ⟨x, r, e, a, b⟩ => ⟨x, r, e, a.monoN s, VW.monoN s b⟩
theorem VW.mono (s : Same H H') {l : List VI} {xs : List V} (h : VW K H0 H t v W l xs) : VW K H0 H' t v W l xs := h.monoN fun b o _ e => s b o e
theorem VW.app : ∀ {l : List VI} {xs : List V} {m : List VI} {ys : List V}, VW K H0 H t v W l xs → VW K H0 H t v W m ys → VW K H0 H t v W (l ++ m) (xs ++ ys)
  | [], xs, m, ys, h, h' => by
    have h : xs = [] := h
    subst h; exact h'
  | i :: l, xs, m, ys, ⟨x, r, e, a, b⟩, h' => by subst e; exact ⟨x, r ++ ys, rfl, a, VW.app b h'⟩
theorem VW.one {i : VI} {x : V} (h : ItemAt K H0 H t v W i x) : VW K H0 H t v W [i] [x] := ⟨x, [], rfl, h, rfl⟩
theorem VW.cons {i : VI} {x : V} {l : List VI} {xs : List V} (h : ItemAt K H0 H t v W i x) (r : VW K H0 H t v W l xs) : VW K H0 H t v W (i :: l) (x :: xs) := ⟨x, xs, rfl, h, r⟩
theorem VW.length : ∀ {l : List VI} {xs : List V}, VW K H0 H t v W l xs → xs.length = l.length
  | [], xs, h => by
    have h : xs = [] := h
    subst h; rfl
  | i :: l, xs, ⟨x, r, e, a, b⟩ => by subst e; simp [VW.length b]
end
section
variable {K : PySem.W.Frag} {H0 H : Hp} {t : T} {v : V} {W : Str → Option Int} {p : Addr}
theorem it_lot {la ld : Addr} {ps : List (Str × Int)} (f1 : H0 la = none) (f2 : H0 ld = none) (l : LotAt K H la ld ps) (p : ps.Perm (somes W t.names)) : ItemAt K H0 H t v W .lot (.ref la) := ⟨la, ld, ps, rfl, f1, f2, l, p⟩
theorem it_num {i j : Int} (h : j = i) : ItemAt K H0 H t v W (.num i) (.int j) := by rw [h]; exact (rfl : V.int i = V.int i)
theorem it_tree : ItemAt K H0 H t v W .tree v := (rfl : v = v)
theorem it_pair {a b : Option Int} (f : H0 p = none) (h : H p = some (.tup [oV a, oV b])) : ItemAt K H0 H t v W (.pair a b) (.ref p) := ⟨p, rfl, f, h⟩
theorem it_strs {l : List Str} (f : H0 p = none) (h : H p = some (.lst (l.map V.str))) : ItemAt K H0 H t v W (.strs l) (.ref p) := ⟨p, rfl, f, h⟩
theorem it_opts {l : List (Option Int)} (f : H0 p = none) (h : H p = some (.lst (l.map oW))) : ItemAt K H0 H t v W (.opts l) (.ref p) := ⟨p, rfl, f, h⟩
theorem it_bools {l : List Bool} (f : H0 p = none) (h : H p = some (.lst (l.map V.bl))) : ItemAt K H0 H t v W (.bools l) (.ref p) := ⟨p, rfl, f, h⟩
theorem VW.nil : VW K H0 H t v W [] [] := (rfl : ([] : List V) = [])
end
def B6 : Int := 1000000
noncomputable def rowI (t : T) (W : Str → Option Int) (i : Nat) : List VI :=
  [.pair (sideV B6 ((t.ends (farW (somes W t.names) (-B6))).getD ((1 + (i : Int)).toNat - 1) 0)) (sideV B6 ((t.ends (farW (somes W t.names) B6)).getD ((1 + (i : Int)).toNat - 1) 0)), .strs (mattersOf t (somes W t.names) (1 + (i : Int))),
   .pair (sideV B6 ((t.ends (farW (putP (somes W t.names) (t.names.headD "") 4) (-B6))).getD ((1 + (i : Int)).toNat - 1) 0)) (sideV B6 ((t.ends (farW (putP (somes W t.names) (t.names.headD "") 4) B6)).getD ((1 + (i : Int)).toNat - 1) 0))] ++
  (if (somes W t.names).length = t.names.length then [.num ((t.ends (wOf (somes W t.names))).getD ((1 + (i : Int)).toNat - 1) 0)] else [])
noncomputable def viewI (t : T) (W : Str → Option Int) (n : Nat) : List VI :=
  [.lot, .num n, .num (somes W t.names).length, .tree] ++ (List.range t.width).flatMap (rowI t W) ++ [.opts (t.names.map W), .bools (t.names.map fun z => (W z).isSome)]
theorem rowI_len (t : T) (W : Str → Option Int) (i : Nat) : (rowI t W i).length ≤ 4 := by
  unfold rowI
  rw [List.length_append]
  split <;> simp
theorem rows_len (t : T) (W : Str → Option Int) : ∀ n, ((List.range n).flatMap (rowI t W)).length ≤ 4 * n
  | 0 => by simp
  | n + 1 => by
    have := rows_len t W n
    have := rowI_len t W n
    have e1 : (List.flatMap (rowI t W) [n]) = rowI t W n := by simp
    rw [List.range_succ, List.flatMap_append, List.length_append, e1]
    omega
theorem rows_snoc (t : T) (W : Str → Option Int) (n : Nat) : (List.range (n + 1)).flatMap (rowI t W) = (List.range n).flatMap (rowI t W) ++ rowI t W n := by
  rw [List.range_succ, List.flatMap_append]; simp
/-- the desk's own rows and the law's: the same to look at -/
theorem look_all {ps : List (Str × Int)} {W : Str → Option Int} {t : T} (g : t.Gd) (nd : (ps.map (·.1)).Nodup) (sub : ∀ x ∈ ps, x.1 ∈ t.names) (h : ∀ z ∈ t.names, look ps z = W z) (z : Str) : look ps z = look (somes W t.names) z :=
  look_perm (perm_somes nd g.nd sub h) nd z
theorem bd_of {ps : List (Str × Int)} {W : Str → Option Int} {t : T} (nd : (ps.map (·.1)).Nodup) (sub : ∀ x ∈ ps, x.1 ∈ t.names) (h : ∀ z ∈ t.names, look ps z = W z) (bw : ∀ z c, z ∈ t.names → W z = some c → -B6 < c ∧ c < B6) : BdOk ps B6 :=
  ⟨by decide, fun p hp => bw p.1 p.2 (sub p hp) (by rw [← h _ (sub p hp)]; exact look_of nd hp)⟩
theorem bd_put {ps : List (Str × Int)} {z : Str} {c : Int} (b : BdOk ps B6) (hc : -B6 < c ∧ c < B6) : BdOk (putP ps z c) B6 := ⟨by decide, fun p hp => by
  unfold putP at hp
  split at hp
  · obtain ⟨x, hx, rfl⟩ := List.mem_map.mp hp
    by_cases e : x.1 = z
    · rw [if_pos e]; exact hc
    · rw [if_neg e]; exact b.bd x hx
  · rcases List.mem_append.mp hp with q | q
    · exact b.bd p q
    · rw [List.mem_singleton.mp q]; exact hc⟩
theorem putP_permV {ps qs : List (Str × Int)} (p : ps.Perm qs) (z : Str) (c : Int) : (putP ps z c).Perm (putP qs z c) := by
  unfold putP
  have e : z ∈ ps.map (·.1) ↔ z ∈ qs.map (·.1) := (p.map _).mem_iff
  by_cases h : z ∈ ps.map (·.1)
  · rw [if_pos h, if_pos (e.mp h)]; exact p.map _
  · rw [if_neg h, if_neg (fun q => h (e.mpr q))]; exact p.append (List.Perm.refl _)
/-- all have worths -/
theorem full_of {W : Str → Option Int} {t : T} (g : t.Gd) (h : (somes W t.names).length = t.names.length) : ∀ z ∈ t.names, ∃ c, W z = some c := by
  have key : ∀ ns : List Str, (somes W ns).length = ns.length → ∀ z ∈ ns, ∃ c, W z = some c := by
    intro ns
    induction ns with
    | nil => intro _ z hz; simp at hz
    | cons y ns ih =>
      intro h z hz
      have l := somes_len W ns
      have e : somes W (y :: ns) = (match W y with | none => [] | some c => [(y, c)]) ++ somes W ns := by
        unfold somes
        rw [List.filterMap_cons]
        cases W y <;> rfl
      rw [e, List.length_append, List.length_cons] at h
      cases hy : W y with
      | none => rw [hy] at h; simp at h; omega
      | some c =>
        rw [hy] at h
        rcases List.mem_cons.mp hz with q | q
        · exact ⟨c, by rw [q]; exact hy⟩
        · exact ih (by simp at h; omega) z q
  exact key _ h
theorem rd_widthE {K : PySem.W.Frag} {te : TE} {σ : L2.St} {H H1 : Hp} {Q : VK} {t : T} {v : V} (m : MTk K H1 t v) (h : ∀ R : VK, R v H1 → te σ H R) (q : Q (.int t.width) H1) :
    gProp (CLf K) (sp_Leaf_width K) te σ H Q ∨ gProp (CGf K) (sp_Group_width K) te σ H Q := by
  cases t with
  | leaf z =>
    have m' := m
    obtain ⟨a, dx, rfl, h1⟩ := m
    left
    unfold gProp
    exact h _ ⟨dx, _, h1, z, m', q⟩
  | grp rk ps =>
    have m' := m
    obtain ⟨a, dx, p, r, us, rfl, h1, h2, h3, h4⟩ := m
    right
    unfold gProp
    exact h _ ⟨dx, _, h1, rk, ps, m', q⟩
theorem width_pos {t : T} (g : t.Gd) : 1 ≤ t.width := by
  cases t with
  | leaf z => exact Nat.le_refl _
  | grp rk ps => exact pos_len g.pts.2.1.ne
def sp__law_view (K : PySem.W.Frag) : Sp := fun vs H Q _ => match vs with
  | [.ref a, .ref nq] => ∃ d r t v ps tl W, DeskAt K H a d r t v ps tl ∧ t.Gd ∧ t.names.length ≤ 60 ∧ t.names ≠ [] ∧ H nq = some (.lst (t.names.map V.str)) ∧ (∀ z ∈ t.names, look ps z = W z) ∧ (∀ z c, z ∈ t.names → W z = some c → -B6 < c ∧ c < B6) ∧
    ∀ p xs H', H p = none → Same H H' → H' p = some (.lst xs) → VW K H H' t v W (viewI t W tl.length) xs → Q (.ref p) H'
  | _ => False
theorem ok__law_view (tp : Top K mg) : FnN P w K mg base 110 "_law_view" [] (sp__law_view K) := by
  refine fn_by tp.f__law_view sc__law_view (fun vs H Q E h => by unfold sp__law_view at h; split at h <;> first | rfl | exact h.elim) (fun f cdv A outer s H vs Q E hr h => ⟨_, (pss_cons (ps_set (i := 2) sc__law_view.nd rfl (by first | exact Or.inl rfl | exact Or.inr rfl) (g_lst (pa_cons (g_prop (ok_Desk_lot tp) hr (by omega) (gv 0) rfl) (pa_cons (g_prop (ok_Desk_made tp) hr (by omega) (gv 0) rfl) (pa_cons (pe_callB (c_lenO ((ok_Desk___len__ tp).sp') (hr.mono (by omega))) (by rfl) tp.b_len (by decide +kernel) (pa_cons (gv 0) pa_nil)) (pa_cons (g_prop (ok_Desk_tree tp) hr (by omega) (gv 0) rfl) pa_nil)))))) (pss_cons (g_for PassesOwn.never rfl (w_range2 rfl tp.b_range (pa_cons pe_int (pa_cons (pe_op op_addG (PEor (g_prop (ok_Leaf_width tp) hr (by omega) (g_prop (ok_Desk_tree tp) hr (by omega) (gv 0) rfl) rfl) (g_prop (ok_Group_width tp) hr (by omega) (g_prop (ok_Desk_tree tp) hr (by omega) (gv 0) rfl) rfl)) pe_int) pa_nil))) (pg_name (i := 3) sc__law_view.nd rfl (by first | exact Or.inl rfl | exact Or.inr rfl)) (pss_cons (ps_set (i := 4) sc__law_view.nd rfl (by first | exact Or.inl rfl | exact Or.inr rfl) (g_meth ((ok_Desk_matters tp).1) hr (by omega) (gv 0) (pa_cons (gv 3) pa_nil))) (pss_cons (ps_set (i := 2) sc__law_view.nd rfl (by first | exact Or.inl rfl | exact Or.inr rfl) (pe_op op_addG (gv 2) (g_lst (pa_cons (g_meth ((ok_Desk_between tp).1) hr (by omega) (gv 0) (pa_cons (gv 3) pa_nil)) (pa_cons (pe_callTy (k_list K rfl) (by rfl) tp.b_list (by decide +kernel) (pa_cons (gv 4) pa_nil)) (pa_cons (g_meth ((ok_Desk_what_if tp).1) hr (by omega) (gv 0) (pa_cons (pe_ix (k_ix K rfl) (gv 1) pe_int (fun _ _ => rfl)) (pa_cons pe_int (pa_cons (gv 3) pa_nil)))) pa_nil)))))) (pss_cons (ps_expr (pe_bm PySem.F.plainAttrs_list PySem.F.slot_list_append PySem.F.type_list_append m_append (gv 4) (pa_cons pe_str pa_nil))) (pss_one (g_if (g_cmp (k_eqG K rfl hr.units) (pe_callB (c_lenO ((ok_Desk___len__ tp).sp') (hr.mono (by omega))) (by rfl) tp.b_len (by decide +kernel) (pa_cons (gv 0) pa_nil)) (pe_callB (k_len K rfl) (by rfl) tp.b_len (by decide +kernel) (pa_cons (gv 1) pa_nil)) (nomark _)) (pss_one (ps_expr (pe_bm PySem.F.plainAttrs_list PySem.F.slot_list_append PySem.F.type_list_append m_append (gv 2) (pa_cons (g_meth ((ok_Desk_end tp).1) hr (by omega) (gv 0) (pa_cons (gv 3) pa_nil)) pa_nil)))) pss_nil)))))) (pss_one (ps_ret (pe_op op_addG (gv 2) (g_lst (pa_cons (g_lc rfl sc__law_view.nd (kw_list K rfl (gv 1)) (blkOk_by (own := [("name", 5)]) (N := (["desk", "names", "found", "j", "told", "name"] : List Str)) (sc := defScope s__law_view) (by decide +kernel)) (fun _ _ _ _ _ => pg_name (i := 5) sc__law_view.nd rfl (by first | exact Or.inl rfl | exact Or.inr rfl)) (fun _ _ _ _ _ => pts_nil) (fun _ _ _ _ _ => (g_getO ((ok_Desk___getitem__ tp).sp') tp.t_Desk (hr.mono (by omega)) (gv 0) (gv 5)))) (pa_cons (g_lc rfl sc__law_view.nd (kw_list K rfl (gv 1)) (blkOk_by (own := [("name", 5)]) (N := (["desk", "names", "found", "j", "told", "name"] : List Str)) (sc := defScope s__law_view) (by decide +kernel)) (fun _ _ _ _ _ => pg_name (i := 5) sc__law_view.nd rfl (by first | exact Or.inl rfl | exact Or.inr rfl)) (fun _ _ _ _ _ => pts_nil) (fun _ _ _ _ _ => (g_cmpV (op_inO ((ok_Desk___contains__ tp).sp') (hr.mono (by omega))) (gv 5) (gv 0) (by with_unfolding_all rfl)))) pa_nil)))))))), ?_⟩)
  unfold sp__law_view at h
  split at h
  next a nq =>
    obtain ⟨d, r, t, v, ps, tl, W, l, g, nl, nne, hn, hw, bw, k⟩ := h
    obtain ⟨dx, ha⟩ := l.o
    have pm := perm_somes l.nd g.nd l.sub hw
    have bd := bd_of l.nd l.sub hw bw
    have psl : ps.length ≤ 60 := by rw [pm.length_eq]; exact Nat.le_trans (somes_len W t.names) nl
    have lk := look_all g l.nd l.sub hw
    walk_at "w"
    refine ⟨dx, _, ha, d, r, t, v, ps, tl, l, g, by omega, fun la ld H1 f1 f2 s1 l1 => ?_⟩
    have ha1 := s1 _ _ ha
    refine ⟨dx, _, ha1, d, r, t, v, ps, tl, l.mono s1, ?_⟩
    refine ⟨dx, _, ha1, d, r, t, v, ps, tl, l.mono s1, ps.length, rfl, by omega, ?_⟩
    refine ⟨dx, _, ha1, d, r, t, v, ps, tl, l.mono s1, ?_⟩
    refine ⟨(by show 4 ≤ sizeLine; decide), fun pf H2 f3 s2 e2 => ?_⟩
    have s12 := s1.trans s2
    walk_at "w"
    have wle := (T.width_le g.sh).1
    refine rd_widthE (v := v) (l.mono s12).m (fun R q => ⟨dx, _, s12 _ _ ha, d, r, t, v, ps, tl, l.mono s12, q⟩) ?_
    have mref : ∃ b, v = V.ref b := let ⟨b, _, _, _, e, _⟩ := l.m.ref; ⟨b, e⟩
    obtain ⟨n0, nr, hnn⟩ : ∃ n0 nr, t.names = n0 :: nr := by
      cases hc : t.names with
      | nil => exact absurd hc nne
      | cons a b => exact ⟨a, b, rfl⟩
    have at0 : atI (t.names.map V.str) 0 = some (.str n0) := by rw [hnn]; exact at_of (j := 0) rfl rfl
    have hd0 : t.names.headD "" = n0 := by rw [hnn]; rfl
    have n0t : n0 ∈ t.names := by rw [hnn]; exact List.mem_cons_self ..
    have wp : 1 ≤ t.width := width_pos g
    refine ⟨by omega, ?_⟩
    have fpf : H pf = none := free_back s1 f3
    refine forw_range (fun i σ G => ∃ p3 v3 v4 xs, σ = [some (.ref a), some (.ref nq), some (.ref p3), v3, v4, none] ∧ H p3 = none ∧ Same H G ∧ G p3 = some (.lst xs) ∧ VW K H (off p3 G) t v W ([.lot, .num tl.length, .num (somes W t.names).length, .tree] ++ (List.range i).flatMap (rowI t W)) xs)
      ⟨pf, none, none, _, rfl, fpf, s12, e2, ?_⟩ ?_ ?_
    · have so : Same H1 (off pf H2) := off_from s2 f3
      exact VW.app (VW.cons (it_lot f1 f2 (l1.mono so) ((List.mergeSort_perm _ _).trans pm)) (VW.cons (it_num rfl) (VW.cons (it_num (by rw [pm.length_eq])) (VW.cons it_tree VW.nil)))) VW.nil
    · rintro i σ G hi ⟨p3, v3, v4, xs, rfl, fp3, sG, e3, vw⟩
      have haG := sG _ _ ha
      have lG := l.mono sG
      have j1 : (1 : Int) ≤ 1 + i := by omega
      have j2 : (1 : Int) + i ≤ t.width := by omega
      have xl := vw.length
      rw [List.length_append, show ([VI.lot, .num tl.length, .num (somes W t.names).length, .tree] : List VI).length = 4 from rfl] at xl
      have rl := rows_len t W i
      walk_at "w"
      refine ⟨dx, _, haG, rfl, ?_⟩
      refine ⟨d, r, t, v, ps, tl, lG, g, by omega, nl, j1, j2, fun pt G1 ft s1 e1 => ?_⟩
      rw [mattersOf_congr lk] at e1
      walk_at "w"
      refine ⟨dx, _, s1 _ _ haG, rfl, ?_⟩
      refine ⟨d, r, t, v, ps, tl, B6, lG.mono s1, g, by omega, bd, j1, j2, fun pb G2 fb s2 e2 => ?_⟩
      have fw : ∀ far, farW ps far = farW (somes W t.names) far := fun far => by funext z; unfold farW; rw [lk z]
      rw [fw, fw] at e2
      refine ⟨_, Or.inl (SqL.of (s2 _ _ e1)), fun pc G3 fc s3 e3' => ?_⟩
      have t13 := s1.trans (s2.trans s3)
      refine ⟨dx, _, t13 _ _ haG, rfl, ?_⟩
      refine ⟨_, .str n0, Or.inl (SqL.of (t13 _ _ (sG _ _ hn))), at0, ?_⟩
      have pmp := putP_permV ((List.mergeSort_perm ps pLe).trans pm) n0 4
      have okp : PsOk (ps.mergeSort pLe) := (show PsOk ps from ⟨l.nd, fun x hx => sh_nm g.sh _ (l.sub x hx), by omega⟩).perm (List.mergeSort_perm _ _).symm
      have oks := putP_ok (c := 4) okp (sh_nm g.sh n0 n0t) (by rw [(List.mergeSort_perm _ _).length_eq]; omega)
      refine ⟨d, r, t, v, ps, tl, B6, lG.mono t13, g, n0t, by omega, bd_put (bd.perm (List.mergeSort_perm _ _).symm) (by decide), j1, j2, fun pw G4 fw4 s4 e4 => ?_⟩
      rw [farW_perm pmp oks.nd, farW_perm pmp oks.nd] at e4
      refine ⟨(by show 3 ≤ sizeLine; decide), fun pl G5 f5 s5 e5 => ?_⟩
      have t15 := t13.trans (s4.trans s5)
      refine ⟨_, _, t15 _ _ e3, e5, Nat.le_trans (by show xs.length + 3 ≤ 1000; omega : _ ≤ 1000) (by decide), fun p6 G6 f6 s6 e6 => ?_⟩
      have t16 := t15.trans s6
      have t26 : Same G1 G6 := s2.trans (s3.trans (s4.trans (s5.trans s6)))
      walk_at "w"
      refine ⟨Or.inl ⟨rfl, _, SqL.of (t26 _ _ e1)⟩, ?_⟩
      refine ⟨_, t26 _ _ e1, Nat.lt_of_le_of_lt (by rw [List.length_map]; exact Nat.le_trans (List.length_filter_le _ _) (by omega) : _ ≤ 1000) (by decide), fun G7 s7 e7 => ?_⟩
      have ftH := free_back sG ft
      have sH6 := sG.trans t16
      have sH7 : Same H G7 := SameX.un sH6 ftH s7
      have p6t : p6 ≠ pt := (ne_of_none ((s2.trans (s3.trans (s4.trans s5))) _ _ e1) f6).symm
      have fp6 : H p6 = none := free_back (sG.trans t15) f6
      have e67 := s7 _ _ p6t e6
      have off7 : ∀ b o, G b = some o → (off p6 G7) b = some o := fun b o e => by
        rw [off_at (ne_of_none (t15 _ _ e) f6)]
        exact s7 _ _ (ne_of_none e ft) (t16 _ _ e)
      have late7 : ∀ b o, b ≠ pt → b ≠ p6 → G6 b = some o → (off p6 G7) b = some o := fun b o n1 n2 e => by rw [off_at n2]; exact s7 _ _ n1 e
      have vw7 : VW K H (off p6 G7) t v W ([.lot, .num tl.length, .num (somes W t.names).length, .tree] ++ (List.range i).flatMap (rowI t W)) xs := vw.monoN fun b o _ e => off7 b o (off_some e).2
      have pbt : pb ≠ pt := (ne_of_none e1 fb).symm
      have pct : pc ≠ pt := (ne_of_none (s2 _ _ e1) fc).symm
      have pwt : pw ≠ pt := (ne_of_none ((s2.trans s3) _ _ e1) fw4).symm
      have pb6 : pb ≠ p6 := ne_of_none ((s3.trans (s4.trans s5)) _ _ e2) f6
      have pc6 : pc ≠ p6 := ne_of_none ((s4.trans s5) _ _ e3') f6
      have pw6 : pw ≠ p6 := ne_of_none (s5 _ _ e4) f6
      have it3 : VW K H (off p6 G7) t v W [.pair (sideV B6 ((t.ends (farW (somes W t.names) (-B6))).getD ((1 + (i : Int)).toNat - 1) 0)) (sideV B6 ((t.ends (farW (somes W t.names) B6)).getD ((1 + (i : Int)).toNat - 1) 0)), .strs (mattersOf t (somes W t.names) (1 + (i : Int))),
          .pair (sideV B6 ((t.ends (farW (putP (somes W t.names) (t.names.headD "") 4) (-B6))).getD ((1 + (i : Int)).toNat - 1) 0)) (sideV B6 ((t.ends (farW (putP (somes W t.names) (t.names.headD "") 4) B6)).getD ((1 + (i : Int)).toNat - 1) 0))] [.ref pb, .ref pc, .ref pw] := by
        rw [hd0]
        exact VW.cons (it_pair (free_back (sG.trans s1) fb) (late7 _ _ pbt pb6 ((s3.trans (s4.trans (s5.trans s6))) _ _ e2))) (VW.cons (it_strs (free_back (sG.trans (s1.trans s2)) fc) (late7 _ _ pct pc6 ((s4.trans (s5.trans s6)) _ _ e3')))
          (VW.cons (it_pair (free_back (sG.trans t13) fw4) (late7 _ _ pwt pw6 ((s5.trans s6) _ _ e4))) VW.nil))
      have vw8 := vw7.app it3
      have l7 := l.mono sH7
      have ha7 := sH7 _ _ ha
      have mx8 : (xs ++ [V.ref pb, .ref pc, .ref pw]).length < 1000 := by rw [List.length_append]; show xs.length + 3 < 1000; omega
      walk_at "w"
      refine ⟨dx, _, ha7, d, r, t, v, ps, tl, l7, ps.length, rfl, by omega, ?_⟩
      refine ⟨_, Or.inl (SqL.of (sH7 _ _ hn)), ?_⟩
      rw [List.length_map]
      refine way_d (fun c => ?_) fun c => ?_
      · have c' : (somes W t.names).length = t.names.length := by rw [← pm.length_eq]; omega
        walk_at "w"
        refine ⟨Or.inl ⟨rfl, _, SqL.of e67⟩, ?_⟩
        refine ⟨dx, _, ha7, rfl, ?_⟩
        refine ⟨d, r, t, v, ps, tl, wOf (somes W t.names), l7, g, by omega, fun z hz => ?_, j1, j2, fun G8 s8 => ?_⟩
        · obtain ⟨cc, hcc⟩ := full_of g c' z hz
          have e : look (somes W t.names) z = some cc := by rw [← lk z, hw z hz, hcc]
          rw [lk z, e]
          unfold wOf
          rw [e]; rfl
        refine ⟨_, s8 _ _ e67, Nat.lt_trans mx8 (by decide), fun G9 s9 e9 => ?_⟩
        refine ⟨p6, _, _, _, rfl, fp6, SameX.un (sH7.trans s8) fp6 s9, e9, ?_⟩
        have q := vw8.app (VW.one (it_num (K := K) (H0 := H) (H := off p6 G7) (t := t) (v := v) (W := W) (i := ((t.ends (wOf (somes W t.names))).getD ((1 + (i : Int)).toNat - 1) 0)) rfl))
        rw [rows_snoc]
        unfold rowI
        rw [if_pos c', ← List.append_assoc, ← List.append_assoc]
        exact q.monoN fun b o _ e => by
          obtain ⟨n, e⟩ := off_some e
          rw [off_at n]
          exact s9 _ _ n (s8 _ _ e)
      · have c' : ¬ (somes W t.names).length = t.names.length := by rw [← pm.length_eq]; omega
        refine ⟨p6, _, _, _, rfl, fp6, sH7, e67, ?_⟩
        rw [rows_snoc]
        unfold rowI
        rw [if_neg c', List.append_nil, ← List.append_assoc]
        exact vw8
    · rintro σ G ⟨p3, v3, v4, xs, rfl, fp3, sG, e3, vw⟩
      have ew : ((t.width : Int) + 1 - 1).toNat = t.width := by omega
      rw [ew] at vw
      have haG := sG _ _ ha
      have lG := l.mono sG
      have nG := sG _ _ hn
      have xl := vw.length
      rw [List.length_append, show ([VI.lot, .num tl.length, .num (somes W t.names).length, .tree] : List VI).length = 4 from rfl] at xl
      have rl := rows_len t W t.width
      walk_at "w"
      refine comp_list (xs := t.names.map V.str) (fun i acc G' => Same G G' ∧ acc = (t.names.take i).map fun z => oW (W z)) (by rw [List.length_map]; exact lt1000 (by omega)) ⟨Same.refl _, rfl⟩ (fun i acc G' f => SqL.of (f.1 _ _ nG)) (fun D i x acc H' hx hD hDl hq' f => ⟨rfl, ?_⟩) (fun D J1 acc hD hDl hq' f => ?_)
      · obtain ⟨s1, rfl⟩ := f
        obtain ⟨z, hz, rfl⟩ := map_atG hx
        have zt := List.mem_of_getElem? hz
        have sH := s1.trans off_same
        walk_at "w"
        refine way_t ?_
        walk_at "w"
        refine ⟨dx, _, sH _ _ haG, d, r, t, v, ps, tl, lG.mono sH, g, zt, fun G1 s1' => ?_⟩
        refine ⟨s1' _ _ hDl, s1.trans (off_mono s1'), ?_⟩
        rw [hw z zt, List.take_add_one, hz, List.map_append]
        rfl
      obtain ⟨s1, rfl⟩ := f
      rw [List.length_map, List.take_length] at hDl
      have sJ1 : Same G J1 := s1.trans off_same
      refine comp_list (xs := t.names.map V.str) (fun i acc G' => Same J1 G' ∧ acc = (t.names.take i).map fun z => V.bl (W z).isSome) (by rw [List.length_map]; exact lt1000 (by omega)) ⟨Same.refl _, rfl⟩ (fun i acc G' f => SqL.of (f.1 _ _ (sJ1 _ _ nG))) (fun D2 i x acc H' hx hD2 hDl2 hq' f => ⟨rfl, ?_⟩) (fun D2 J2 acc hD2 hDl2 hq' f => ?_)
      · obtain ⟨s2, rfl⟩ := f
        obtain ⟨z, hz, rfl⟩ := map_atG hx
        have zt := List.mem_of_getElem? hz
        have sH := s2.trans off_same
        walk_at "w"
        refine way_t ?_
        walk_at "w"
        have mem : decide (z ∈ ps.map (·.1)) = (W z).isSome := by rw [← look_isSome, hw z zt]
        refine ⟨dx, _, (sJ1.trans sH) _ _ haG, d, r, t, v, ps, tl, lG.mono (sJ1.trans sH), ?_⟩
        rw [mem]
        refine ⟨_, rfl, ?_⟩
        refine ⟨hDl2, s2, ?_⟩
        rw [List.take_add_one, hz, List.map_append]
        rfl
      obtain ⟨s2, rfl⟩ := f
      rw [List.length_map, List.take_length] at hDl2
      have sJ2 : Same J1 J2 := s2.trans off_same
      refine ⟨(by show 2 ≤ sizeLine; decide), fun p5 G5 f5 s5 e5 => ?_⟩
      have sG5 := sJ1.trans (sJ2.trans s5)
      refine ⟨_, _, sG5 _ _ e3, e5, Nat.le_trans (by show xs.length + 2 ≤ 1000; omega : _ ≤ 1000) (by decide), fun p6 G6 f6 s6 e6 => ?_⟩
      refine k p6 _ G6 (free_back (sG.trans sG5) f6) (sG.trans (sG5.trans s6)) e6 ?_
      have DH : H D = none := free_back sG hD
      have DH2 : H D2 = none := free_back (sG.trans sJ1) hD2
      unfold viewI
      refine ((vw.monoN fun b o _ e => (sG5.trans s6) _ _ (off_some e).2).app (VW.cons (it_opts DH ?_) (VW.cons (it_bools DH2 ?_) VW.nil)))
      · rw [List.map_map]
        exact (sJ2.trans (s5.trans s6)) _ _ hDl
      · rw [List.map_map]
        exact (s5.trans s6) _ _ hDl2
  next => exact h.elim
end LW
namespace LW
open PySem PySem.Spec L2 GG
variable {P : Program} {w : World} {K : PySem.W.Frag} {mg : Str → Option Value} {base : Heap}
noncomputable def actF (ns : List Str) (s : S3) (W : Str → Option Int) (tl : List (Str × Option Int)) : (Str → Option Int) × List (Str × Option Int) :=
  if drawV (drawS s ns.length) 5 < 3 then (putO W (ns.getD (drawV s ns.length).toNat "") (some (drawV (drawS (drawS s ns.length) 5) 20 - 9)), tl ++ [(ns.getD (drawV s ns.length).toNat "", W (ns.getD (drawV s ns.length).toNat ""))])
  else if drawV (drawS s ns.length) 5 = 3 then (putO W (ns.getD (drawV s ns.length).toNat "") none, tl ++ [(ns.getD (drawV s ns.length).toNat "", W (ns.getD (drawV s ns.length).toNat ""))])
  else match tl.getLast? with
    | none => (W, tl)
    | some x => (putO W x.1 x.2, tl.dropLast)
/-- what an act leaves -/
structure ActTo (K : PySem.W.Frag) (H H' : Hp) (p a d r d' r' : Addr) (t : T) (v : V) (W' : Str → Option Int) (ps' : List (Str × Int)) (tl' : List (Str × Option Int)) : Prop where
  s : ∀ b o, b ≠ p → b ≠ a → b ≠ d → b ≠ r → H b = some o → H' b = some o
  pu : Pu H' p
  dk : DeskAt K H' a d' r' t v ps' tl'
  d' : d' = d ∨ H d' = none
  r' : r' = r ∨ H r' = none
  w : ∀ z ∈ t.names, look ps' z = W' z
theorem look_backP {ps : List (Str × Int)} {W : Str → Option Int} {ns : List Str} {z : Str} {w : Option Int} (nd : (ps.map (·.1)).Nodup) (nd2 : ((backP ps z w).map (·.1)).Nodup) (hw : ∀ y ∈ ns, look ps y = W y) : ∀ y ∈ ns, look (backP ps z w) y = putO W z w y := fun y hy => by
  have ld := look_dropP nd z y
  cases w with
  | none =>
    show look (dropP ps z) y = _
    rw [ld]
    unfold putO
    by_cases q : y = z
    · rw [if_pos q, if_pos q]
    · rw [if_neg q, if_neg q, hw y hy]
  | some c =>
    unfold putO
    by_cases q : y = z
    · rw [if_pos q, q]
      exact look_of nd2 (List.mem_append_right _ (List.mem_singleton.mpr rfl))
    · rw [if_neg q, ← hw y hy]
      rw [if_neg q] at ld
      rw [← ld]
      cases h : look (dropP ps z) y with
      | some v => exact look_of nd2 (List.mem_append_left _ (look_mem h))
      | none =>
        cases h2 : look (backP ps z (some c)) y with
        | none => rfl
        | some v =>
          rcases List.mem_append.mp (look_mem h2) with m | m
          · have q2 : look (dropP ps z) y = some v := look_of (nd.sublist (List.filter_sublist.map _)) m
            rw [q2] at h; cases h
          · exact absurd (congrArg Prod.fst (List.mem_singleton.mp m)) q
/-- what deeds keep of the plain state -/
structure StOk (t : T) (W0 W : Str → Option Int) (tl : List (Str × Option Int)) (n : Nat) : Prop where
  tm : ∀ x ∈ tl, x.1 ∈ t.names ∧ ∀ c, x.2 = some c → -B6 < c ∧ c < B6
  ln : tl.length ≤ n
  un : undoW W tl = W0
  bw : ∀ z c, z ∈ t.names → W z = some c → -B6 < c ∧ c < B6
theorem putO_bd {t : T} {W : Str → Option Int} {z : Str} {w : Option Int} (bw : ∀ z c, z ∈ t.names → W z = some c → -B6 < c ∧ c < B6) (hw : ∀ c, w = some c → -B6 < c ∧ c < B6) : ∀ y c, y ∈ t.names → putO W z w y = some c → -B6 < c ∧ c < B6 := fun y c hy e => by
  unfold putO at e
  by_cases q : y = z
  · rw [if_pos q] at e; exact hw c e
  · rw [if_neg q] at e; exact bw y c hy e
theorem StOk.act {t : T} {W0 W : Str → Option Int} {tl : List (Str × Option Int)} {n : Nat} (h : StOk t W0 W tl n) (ne : t.names ≠ []) (s : S3) : StOk t W0 (actF t.names s W tl).1 (actF t.names s W tl).2 (n + 1) := by
  have nl : 0 < t.names.length := pos_len ne
  have b1 := drawV_bd s (m := t.names.length) (by omega)
  have b2 := drawV_bd (drawS (drawS s t.names.length) 5) (m := 20) (by decide)
  have zt : t.names.getD (drawV s t.names.length).toNat "" ∈ t.names := by
    rw [List.getD_eq_getElem?_getD, List.getElem?_eq_getElem (show (drawV s t.names.length).toNat < t.names.length by omega)]
    exact List.getElem_mem _
  unfold actF
  split
  · refine ⟨fun x hx => ?_, by show (tl ++ _).length ≤ _; rw [List.length_append]; exact Nat.add_le_add_right h.ln 1, by show undoW _ (tl ++ _) = _; rw [undoW_snoc, putO_back]; exact h.un, putO_bd h.bw fun c e => ?_⟩
    · rcases List.mem_append.mp hx with q | q
      · exact h.tm x q
      · rw [List.mem_singleton.mp q]; exact ⟨zt, fun c e => h.bw _ c zt e⟩
    · cases e
      unfold B6
      omega
  · split
    · refine ⟨fun x hx => ?_, by show (tl ++ _).length ≤ _; rw [List.length_append]; exact Nat.add_le_add_right h.ln 1, by show undoW _ (tl ++ _) = _; rw [undoW_snoc, putO_back]; exact h.un, putO_bd h.bw fun c e => by cases e⟩
      rcases List.mem_append.mp hx with q | q
      · exact h.tm x q
      · rw [List.mem_singleton.mp q]; exact ⟨zt, fun c e => h.bw _ c zt e⟩
    · cases e : tl.getLast? with
      | none => exact ⟨h.tm, Nat.le_succ_of_le h.ln, h.un, h.bw⟩
      | some x =>
        obtain ⟨l', e2⟩ : ∃ l', tl = l' ++ [x] := List.getLast?_eq_some_iff.mp e
        have hx := h.tm x (by rw [e2]; exact List.mem_append_right _ (List.mem_singleton.mpr rfl))
        show StOk t W0 (putO W x.1 x.2) tl.dropLast (n + 1)
        have ln := h.ln
        have un := h.un
        have tm := h.tm
        rw [e2] at ln un tm ⊢
        rw [List.dropLast_concat]
        rw [undoW_snoc] at un
        exact ⟨fun y hy => tm y (List.mem_append_left _ hy), by rw [List.length_append] at ln; omega, un, putO_bd h.bw hx.2⟩
def sp__law_act (K : PySem.W.Frag) : Sp := fun vs H Q _ => match vs with
  | [.ref p, .ref a, .ref nq] => ∃ s d r t v ps tl W, PuD H p s ∧ DeskAt K H a d r t v ps tl ∧ t.Gd ∧ t.names.length ≤ 100 ∧ t.names ≠ [] ∧ H nq = some (.lst (t.names.map V.str)) ∧
    (∀ x ∈ tl, x.1 ∈ t.names) ∧ tl.length < 800 ∧ (∀ z ∈ t.names, look ps z = W z) ∧ ∀ d' r' ps' i H', ActTo K H H' p a d r d' r' t v (actF t.names s W tl).1 ps' (actF t.names s W tl).2 → Q (.int i) H'
  | _ => False
theorem ok__law_act (tp : Top K mg) : FnN P w K mg base 70 "_law_act" [] (sp__law_act K) := by
  refine fn_by tp.f__law_act sc__law_act (fun vs H Q E h => by unfold sp__law_act at h; split at h <;> first | rfl | exact h.elim) (fun f cdv A outer s H vs Q E hr h => ⟨_, (pss_cons (ps_par rfl sc__law_act.nd (i := 3) (j := 4) rfl rfl (by decide) rfl rfl (pa_cons (pe_ix (k_ix K rfl) (gv 2) (g_call (ok_draw_det tp) hr rfl (by omega) (pa_cons (gv 0) (pa_cons (pe_callB (k_len K rfl) (by rfl) tp.b_len (by decide +kernel) (pa_cons (gv 2) pa_nil)) pa_nil))) (fun _ _ => rfl)) (pa_cons (g_call (ok_draw_det tp) hr rfl (by omega) (pa_cons (gv 0) (pa_cons pe_int pa_nil))) pa_nil)) rfl) (pss_cons (g_if (g_cmp op_ltG (gv 4) pe_int (nomark _)) (pss_one (ps_asg (pe_op op_subG (g_call (ok_draw_det tp) hr rfl (by omega) (pa_cons (gv 0) (pa_cons pe_int pa_nil))) pe_int) (pg_sub (gv 1) (gv 3) (s_putO ((ok_Desk___setitem__ tp).sp') tp.q_Desk (hr.mono (by omega)))))) (pss_one (g_if (g_cmp (k_eqG K rfl hr.units) (gv 4) pe_int (nomark _)) (pss_one (ps_expr (g_meth (ok_Desk_forget tp) hr (by omega) (gv 1) (pa_cons (gv 3) pa_nil)))) (pss_one (ps_expr (g_meth0 (ok_Desk_back tp) hr (by omega) (gv 1))))))) (pss_one (ps_ret (gv 4))))), ?_⟩)
  unfold sp__law_act at h
  split at h
  next p a nq =>
    obtain ⟨s0, d, r, t, v, ps, tl, W, hp, l, g, nl, nne, hn, tm, tll, hw, k⟩ := h
    have nlp : 0 < t.names.length := pos_len nne
    have nqp : nq ≠ p := by
      rintro rfl
      have hp : H nq = some (.lst [.int s0.1, .int s0.2.1, .int s0.2.2]) := hp
      rw [hn] at hp
      cases hc : t.names with
      | nil => exact nne hc
      | cons b c => rw [hc] at hp; simp at hp
    have psl : ps.length ≤ 1000 := by rw [(perm_somes l.nd g.nd l.sub hw).length_eq]; exact Nat.le_trans (somes_len W t.names) (by omega)
    have hpu := hp.pu
    walk_at "w"
    refine ⟨_, Or.inl (SqL.of hn), ?_⟩
    rw [List.length_map]
    refine ⟨s0, hp, by omega, by omega, fun H1 s1 hp1 => ?_⟩
    obtain ⟨z0, z1⟩ := drawV_bd s0 (m := t.names.length) (by omega)
    have hn1 := s1 _ _ nqp hn
    have ez : t.names[(drawV s0 t.names.length).toNat]? = some (t.names.getD (drawV s0 t.names.length).toNat "") := by
      rw [List.getD_eq_getElem?_getD, List.getElem?_eq_getElem (show (drawV s0 t.names.length).toNat < t.names.length by omega)]; rfl
    unfold actF at k
    generalize hz : t.names.getD (drawV s0 t.names.length).toNat "" = z at ez k
    generalize hdz : drawV s0 t.names.length = dz at z0 z1 ez
    have zt : z ∈ t.names := List.mem_of_getElem? ez
    refine ⟨_, .str z, Or.inl (SqL.of hn1), at_of (j := dz.toNat) (by omega) (by rw [List.getElem?_map, ez]; rfl), ?_⟩
    generalize drawS s0 t.names.length = s1' at hp1 k
    refine ⟨s1', hp1, by decide, by decide, fun H2 s2 hp2 => ?_⟩
    refine ⟨.str z, .int (drawV s1' 5), rfl, ?_⟩
    have s12 := s1.trans s2
    have l2 := l.monoX hpu s12
    generalize drawS s1' 5 = s2' at hp2 k
    have hp2u := hp2.pu
    walk_at "w"
    refine way_d (fun c => ?_) fun c => ?_
    · walk_at "w"
      rw [if_pos c] at k
      refine ⟨s2', hp2, by decide, by decide, fun H3 s3 hp3 => ?_⟩
      have l3 := l.monoX hpu (s12.trans s3)
      obtain ⟨dx3, ha3⟩ := l3.o
      have hp3u := hp3.pu
      walk_at "w"
      refine ⟨dx3, _, ha3, d, r, t, v, ps, tl, l3, g, zt, psl, by omega, fun H4 s4 l4 => ?_⟩
      rw [hw z zt] at l4
      walk_at "w"
      have pok : PsOk ps := ⟨l.nd, fun x hx => sh_nm g.sh _ (l.sub x hx), psl⟩
      have psl2 : ps.length < 1000 := by rw [(perm_somes l.nd g.nd l.sub hw).length_eq]; exact Nat.lt_of_le_of_lt (somes_len W t.names) (by omega)
      obtain ⟨rv3, or3, tr3⟩ := l3.l
      have pd3 : p ≠ d := (hp3u.ne_of l3.k fun xs q => by cases q).symm
      have pr3 : p ≠ r := (hp3u.ne_tr or3 tr3).symm
      refine k d r _ _ H4 ⟨fun b o n1 n2 n3 n4 e => s4 b o n3 n4 (s3 b o n1 (s12 b o n1 e)), let ⟨x, y, z, e⟩ := hp3u; ⟨x, y, z, s4 _ _ pd3 pr3 e⟩, l4, .inl rfl, .inl rfl, fun y hy => ?_⟩
      rw [look_putP pok (sh_nm g.sh z zt) psl2]
      show _ = putO W z _ y
      unfold putO
      by_cases q : y = z
      · rw [if_pos q, if_pos q]
      · rw [if_neg q, if_neg q, hw y hy]
    · rw [if_neg c] at k
      walk_at "w"
      refine way_d (fun c2 => ?_) fun c2 => ?_
      · rw [if_pos c2] at k
        obtain ⟨dx2, ha2⟩ := l2.o
        walk_at "w"
        refine ⟨dx2, _, ha2, rfl, ?_⟩
        refine ⟨d, r, t, v, ps, tl, l2, g, zt, psl, by omega, fun D H4 fD s4 l4 => ?_⟩
        rw [hw z zt] at l4
        walk_at "w"
        obtain ⟨rv3, or3, tr3⟩ := l2.l
        have pa3 : p ≠ a := (hp2u.ne_of ha2 fun xs q => by cases q).symm
        have pr3 : p ≠ r := (hp2u.ne_tr or3 tr3).symm
        refine k D r _ _ H4 ⟨fun b o n1 n2 n3 n4 e => s4 b o n2 n4 (s12 b o n1 e), let ⟨x, y, z, e⟩ := hp2u; ⟨x, y, z, s4 _ _ pa3 pr3 e⟩, l4, .inr (s12.none_ hp2u fD), .inl rfl, fun y hy => ?_⟩
        rw [look_dropP l.nd]
        show _ = putO W z _ y
        unfold putO
        by_cases q : y = z
        · rw [if_pos q, if_pos q]
        · rw [if_neg q, if_neg q, hw y hy]
      · rw [if_neg c2] at k
        obtain ⟨dx2, ha2⟩ := l2.o
        walk_at "w"
        refine ⟨dx2, _, ha2, rfl, ?_⟩
        rcases List.eq_nil_or_concat tl with htl | ⟨tl', ⟨z', w'⟩, htl⟩
        · subst htl
          refine ⟨d, r, t, v, ps, [], l2, psl, fun _ H4 s4 => ?_, fun tl' z w e => absurd e (by simp)⟩
          walk_at "w"
          exact k d r ps _ H4 ⟨fun b o n1 _ _ _ e => s4 _ _ (s12 b o n1 e), hp2u.same s4, l2.mono s4, .inl rfl, .inl rfl, hw⟩
        · rw [List.concat_eq_append] at htl
          subst htl
          rw [show (tl' ++ [(z', w')]).getLast? = some (z', w') by simp] at k
          refine ⟨d, r, t, v, ps, _, l2, psl, fun e => absurd e (by simp), fun tl2 z2 w2 e => ?_⟩
          obtain ⟨rfl, e2⟩ := List.append_inj' e rfl
          cases e2
          refine ⟨tm (z', w') (List.mem_append_right _ (List.mem_singleton.mpr rfl)), fun D r' H6 fD fr s6 l6 => ?_⟩
          walk_at "w"
          have pa3 : p ≠ a := (hp2u.ne_of ha2 fun xs q => by cases q).symm
          refine k D r' (backP ps z' w') _ H6 ⟨fun b o n1 n2 n3 n4 e => s6 b o n2 (s12 b o n1 e), let ⟨x, y, z, e⟩ := hp2u; ⟨x, y, z, s6 _ _ pa3 e⟩, ?_, .inr (s12.none_ hp2u fD), .inr (s12.none_ hp2u fr), look_backP l.nd l6.nd hw⟩
          show DeskAt K H6 a D r' t v (backP ps z' w') (tl' ++ [(z', w')]).dropLast
          rw [List.dropLast_concat]
          exact l6
  next => exact h.elim
end LW
namespace LW
open PySem PySem.Spec L2 GG
variable {P : Program} {w : World} {K : PySem.W.Frag} {mg : Str → Option Value} {base : Heap}
def RLot (K : PySem.W.Frag) (a b : Addr) (H : Hp) : Prop := ∃ d ps e qs, LotAt K H a d ps ∧ LotAt K H b e qs ∧ ps.Perm qs
/-- two items of views of the same things -/
def DV (K : PySem.W.Frag) : Eqv := fun x y H => ∃ H0 H0' t v W i, (∃ b, v = V.ref b) ∧ ItemAt K H0 H t v W i x ∧ ItemAt K H0' H t v W i y
theorem mon_DV (K : PySem.W.Frag) : Mon (DV K) := fun x y H H' e ⟨H0, H0', t, v, W, i, r, a, b⟩ => ⟨H0, H0', t, v, W, i, r, a.monoN fun c o _ h => e c o h, b.monoN fun c o _ h => e c o h⟩
theorem oW_flat : ∀ w : Option Int, flatV (oW w) = true
  | none => rfl
  | some _ => rfl
theorem oV_flat : ∀ w : Option Int, flatV (oV w) = true
  | none => rfl
  | some _ => rfl
theorem prs_flat {α : Type} {f : α → V} (hf : ∀ x, flatV (f x) = true) {H : Hp} : ∀ l : List α, Prs DFlat (l.map f) (l.map f) H
  | [] => Prs.nil
  | x :: l => Prs.cons ⟨hf x, hf x, eqV_refl _ (hf x)⟩ (prs_flat hf l)
theorem DV.split {K : PySem.W.Frag} {x y : V} {H : Hp} (h : DV K x y H) : DIns (CLo K) (RLot K) x y H ∨ DSame x y H ∨ DTup K DFlat x y H ∨ DList DFlat x y H := by
  obtain ⟨H0, H0', t, v, W, i, ⟨b, rfl⟩, a1, a2⟩ := h
  cases i with
  | lot =>
    obtain ⟨la, ld, ps, rfl, _, _, l, p⟩ := a1
    obtain ⟨lb, le, qs, rfl, _, _, m, q⟩ := a2
    obtain ⟨dx, o1⟩ := l.o
    obtain ⟨dy, o2⟩ := m.o
    exact .inl ⟨la, lb, dx, dy, _, _, rfl, rfl, o1, o2, ld, ps, le, qs, l, m, p.trans q.symm⟩
  | num i =>
    obtain rfl : x = .int i := a1
    obtain rfl : y = .int i := a2
    exact .inr (.inl ⟨rfl, .inl rfl⟩)
  | tree =>
    obtain rfl : x = .ref b := a1
    obtain rfl : y = .ref b := a2
    exact .inr (.inl ⟨rfl, .inr ⟨_, rfl⟩⟩)
  | pair c d =>
    obtain ⟨p, rfl, _, h1⟩ := a1
    obtain ⟨q, rfl, _, h2⟩ := a2
    exact .inr (.inr (.inl ⟨p, q, _, _, rfl, rfl, SqT.of h1, SqT.of h2, Prs.cons ⟨oV_flat c, oV_flat c, eqV_refl _ (oV_flat c)⟩ (Prs.cons ⟨oV_flat d, oV_flat d, eqV_refl _ (oV_flat d)⟩ Prs.nil)⟩))
  | «strs» l =>
    obtain ⟨p, rfl, _, h1⟩ := a1
    obtain ⟨q, rfl, _, h2⟩ := a2
    exact .inr (.inr (.inr ⟨p, q, _, _, rfl, rfl, h1, h2, prs_flat (fun _ => rfl) l⟩))
  | opts l =>
    obtain ⟨p, rfl, _, h1⟩ := a1
    obtain ⟨q, rfl, _, h2⟩ := a2
    exact .inr (.inr (.inr ⟨p, q, _, _, rfl, rfl, h1, h2, prs_flat oW_flat l⟩))
  | bools l =>
    obtain ⟨p, rfl, _, h1⟩ := a1
    obtain ⟨q, rfl, _, h2⟩ := a2
    exact .inr (.inr (.inr ⟨p, q, _, _, rfl, rfl, h1, h2, prs_flat (fun _ => rfl) l⟩))
theorem eqG_DV {X : Cx} (cL : MtN X.prog X.w X.K X.mg X.base 1 (CLo X.K) "__eq__" [] (sp_Lot___eq__ X.K)) : EqG X 1 (DV X.K) := by
  obtain ⟨f, fd, ps, a1, a2, F, b⟩ := (cL.sp').ex
  have F2 : FnOk X.prog X.w X.K X.mg X.base CX0 1 f fd ps (spEq (RLot X.K)) := F.imp fun vs H Q E h => by
    obtain ⟨a, b, rfl, ⟨d, ps, e, qs, l, m, p⟩, k⟩ := h
    exact ⟨d, ps, e, qs, l, m, p, k H Ext.rfl'⟩
  have e1 : EqG X 1 (DIns (CLo X.K) (RLot X.K)) := eqG_ins F2 a1 a2 b pass0
  have e2 : EqG X 1 DSame := eqG_same.mono (by omega)
  have e3 : EqG X 1 (DTup X.K DFlat) := eqG_tup mon_flat eqG_flat
  have e4 : EqG X 1 (DList DFlat) := eqG_list mon_flat eqG_flat
  exact (e1.or (e2.or (e3.or e4))).imp fun x y H h => h.split
theorem k_neView {X : Cx} {j : Nat} (K : PySem.W.Frag) (h : X.K = K) (tp : Top X.K X.mg) (hr : Room j X.A) (hk : 2 ≤ j) : OpR X (compareOp .NotEq) (rNeL (DV K)) := by
  subst h
  exact op_neL (n := 1) (mon_DV _) (eqG_DV (ok_Lot___eq__ tp)) (hr.mono hk)
end LW
namespace LW
open PySem PySem.Spec L2 GG
variable {P : Program} {w : World} {K : PySem.W.Frag} {mg : Str → Option Value} {base : Heap}
theorem SqL_un {K : PySem.W.Frag} {H H' : Hp} {p a : Addr} {xs : List V} (h : SqL K H a xs) (n : H p = none) (s : SameX p H H') : SqL K H' a xs :=
  h.elim (fun h => .inl (h.elim (fun h => .inl (s _ _ (ne_of_none h n) h)) fun ⟨o, h⟩ => .inr ⟨o, s _ _ (ne_of_none h n) h⟩)) fun h => .inr h
theorem init_look {t : T} {ps : List (Str × Int)} (nd : t.names.Nodup) {z : Str} (hz : z ∈ t.names) : look (initP t ps) z = look ps z := by
  have nd2 : ((initP t ps).map (·.1)).Nodup := by rw [initP_fst]; exact nd.sublist List.filter_sublist
  cases h : look ps z with
  | none =>
    cases h2 : look (initP t ps) z with
    | none => rfl
    | some c =>
      have m : z ∈ (initP t ps).map (·.1) := look_some.mpr ⟨c, h2⟩
      rw [initP_fst] at m
      obtain ⟨c', e⟩ := look_some.mp (of_decide_eq_true (List.mem_filter.mp m).2)
      rw [h] at e; cases e
  | some c =>
    refine look_of nd2 ?_
    unfold initP
    refine List.mem_map.mpr ⟨z, List.mem_filter.mpr ⟨hz, decide_eq_true (look_some.mpr ⟨c, h⟩)⟩, ?_⟩
    unfold wOf
    rw [h]; rfl
/-- what trees and changes lean on -/
def Tq (o : HO) : Prop := (∃ C dx z, o = .ins C dx (lfs z)) ∨ (∃ C dx p r m, o = .ins C dx (gfs p r m)) ∨ ∃ xs, o = .tup xs
mutual
theorem MT.monoQ {CL CG : Addr} {H H' : Hp} (s : ∀ b o, Tq o → H b = some o → H' b = some o) : ∀ {t : T} {v : V}, MT CL CG H t v → MT CL CG H' t v
  | .leaf n, v, ⟨a, dx, e, h⟩ => ⟨a, dx, e, s _ _ (.inl ⟨_, _, _, rfl⟩) h⟩
  | .grp rk ps, v, ⟨a, dx, p, r, vs, e, h1, h2, h3, h4⟩ => ⟨a, dx, p, r, vs, e, s _ _ (.inr (.inl ⟨_, _, _, _, _, rfl⟩)) h1, s _ _ (.inr (.inr ⟨_, rfl⟩)) h2, s _ _ (.inr (.inr ⟨_, rfl⟩)) h3, MTs.monoQ s h4⟩
theorem MTs.monoQ {CL CG : Addr} {H H' : Hp} (s : ∀ b o, Tq o → H b = some o → H' b = some o) : ∀ {ts : List T} {vs : List V}, MTs CL CG H ts vs → MTs CL CG H' ts vs
  | [], vs, h => h
  | t :: ts, vs, ⟨v, r, e, h1, h2⟩ => ⟨v, r, e, MT.monoQ s h1, MTs.monoQ s h2⟩
end
theorem no_lst {xs : List V} : ¬ Tq (.lst xs) := by rintro (⟨_, _, _, e⟩ | ⟨_, _, _, _, _, e⟩ | ⟨_, e⟩) <;> cases e
theorem no_dk {kv : List (Key × V)} : ¬ Tq (.dK kv) := by rintro (⟨_, _, _, e⟩ | ⟨_, _, _, _, _, e⟩ | ⟨_, e⟩) <;> cases e
theorem no_desk {C dx d r : Addr} {v : V} : ¬ Tq (.ins C dx (dkf v d r)) := by
  rintro (⟨_, _, _, e⟩ | ⟨_, _, _, _, _, e⟩ | ⟨_, e⟩)
  · injection e with _ _ e; have := congrArg List.length e; unfold dkf lfs at this; simp at this
  · injection e with _ _ e
    unfold dkf gfs at e
    injection e with e _
    injection e with e _
    exact absurd e (by decide +kernel)
  · cases e
/-- all but X -/
def Kept (X : List Addr) (H H' : Hp) : Prop := ∀ b o, b ∉ X → H b = some o → H' b = some o
theorem Kept.same {X : List Addr} {H H' : Hp} (s : Same H H') : Kept X H H' := fun b o _ e => s b o e
theorem Kept.trans {X : List Addr} {H H1 H2 : Hp} (a : Kept X H H1) (b : Kept X H1 H2) : Kept X H H2 := fun c o n e => b c o n (a c o n e)
/-- X holds nothing of trees -/
def Cl (X : List Addr) (H : Hp) : Prop := ∀ x ∈ X, ∀ o, H x = some o → ¬ Tq o
theorem DeskAt.kept {K : PySem.W.Frag} {H H' : Hp} {a d r : Addr} {t : T} {v : V} {ps : List (Str × Int)} {tl : List (Str × Option Int)} {X : List Addr} (h : DeskAt K H a d r t v ps tl) (s : Kept X H H') (hx : Cl X H) (na : a ∉ X) (nd : d ∉ X) (nr : r ∉ X) : DeskAt K H' a d r t v ps tl := by
  have nn : ∀ b o, Tq o → H b = some o → b ∉ X := fun b o n e q => hx b q o e n
  exact ⟨h.o.imp fun _ e => s _ _ na e, s _ _ nd h.k, h.l.imp fun _ e => ⟨s _ _ nr e.1, e.2.mono fun b o e => s _ _ (nn b (.tup o) (.inr (.inr ⟨_, rfl⟩)) e) e⟩, MT.monoQ (fun b o n e => s b o (nn b o n e) e) h.m, h.nd, h.sub⟩
theorem LotAt.kept {K : PySem.W.Frag} {H H' : Hp} {a d : Addr} {ps : List (Str × Int)} {X : List Addr} (h : LotAt K H a d ps) (s : Kept X H H') (na : a ∉ X) (nd : d ∉ X) : LotAt K H' a d ps := ⟨h.o.imp fun _ e => s _ _ na e, s _ _ nd h.k, h.ok⟩
theorem MT.kept {CL CG : Addr} {H H' : Hp} {t : T} {v : V} {X : List Addr} (h : MT CL CG H t v) (s : Kept X H H') (hx : Cl X H) : MT CL CG H' t v := MT.monoQ (fun b o n e => s b o (fun q => hx b q o e n) e) h
theorem PL.kept {H H' : Hp} {X : List Addr} (s : Kept X H H') (hx : Cl X H) : ∀ {ps : List (Str × Int)} {vs : List V}, PL H ps vs → PL H' ps vs
  | [], vs, h => h
  | x :: l, vs, ⟨q, r, e, h1, h2⟩ => ⟨q, r, e, s _ _ (fun m => hx q m _ h1 (.inr (.inr ⟨_, rfl⟩))) h1, PL.kept s hx h2⟩
theorem TRL.kept {H H' : Hp} {X : List Addr} (s : Kept X H H') (hx : Cl X H) {l : List (Str × Option Int)} {vs : List V} (h : TRL H l vs) : TRL H' l vs := h.mono fun b o e => s _ _ (fun m => hx b m _ e (.inr (.inr ⟨_, rfl⟩))) e
theorem nin1 {a x : Addr} (h : a ≠ x) : a ∉ [x] := by simp [h]
theorem nin3 {a x y z : Addr} (h : a ≠ x) (h2 : a ≠ y) (h3 : a ≠ z) : a ∉ [x, y, z] := by simp [h, h2, h3]
theorem names_ne {t : T} (g : t.Gd) : t.names ≠ [] := by
  have wle := T.width_le g.sh
  have wpos : 1 ≤ t.width := by
    cases t with
    | leaf z => exact Nat.le_refl _
    | grp rk ps => exact pos_len g.pts.2.1.ne
  intro e
  rw [e] at wle
  have : ([] : List Str).length = 0 := rfl
  omega
/-- a desk among others, from the heap J on; X: all that may change -/
structure M78 (K : PySem.W.Frag) (J G : Hp) (X : List Addr) (a : Addr) (t : T) (mv : V) (d1 r1 : Addr) (ps : List (Str × Int)) (tl : List (Str × Option Int)) (W : Str → Option Int) : Prop where
  dk : DeskAt K G a d1 r1 t mv ps tl
  hd : d1 ∈ X ∨ J d1 = none
  hr : r1 ∈ X ∨ J r1 = none
  w : ∀ z ∈ t.names, look ps z = W z
section
variable {J G G2 H' : Hp} {X : List Addr} {a b p : Addr} {t : T} {mv : V} {d1 r1 d2 r2 db rb : Addr} {ps ps2 psb : List (Str × Int)} {tl tl2 tlb : List (Str × Option Int)} {W W2 Wb : Str → Option Int} {s0 : S3}
theorem M78.mono (h : M78 K J G X a t mv d1 r1 ps tl W) (s : Same G G2) : M78 K J G2 X a t mv d1 r1 ps tl W := ⟨h.dk.mono s, h.hd, h.hr, h.w⟩
theorem late78 {x : Addr} (kp : Kept X J G) (f : G x = none) : x ∈ X ∨ J x = none := by
  by_cases c : x ∈ X
  · exact .inl c
  · right
    cases q : J x with
    | none => rfl
    | some o => rw [kp _ _ c q] at f; cases f
theorem M78.act (h : M78 K J G X a t mv d1 r1 ps tl W) (kp : Kept X J G) (aX : a ∈ X) (pX : p ∈ X ∨ J p = none) (A : ActTo K G H' p a d1 r1 d2 r2 t mv W2 ps2 tl2) : M78 K J H' X a t mv d2 r2 ps2 tl2 W2 ∧ Kept X J H' := by
  refine ⟨⟨A.dk, ?_, ?_, A.w⟩, fun c o nc e => ?_⟩
  · rcases A.d' with q | q
    · rw [q]; exact h.hd
    · exact late78 kp q
  · rcases A.r' with q | q
    · rw [q]; exact h.hr
    · exact late78 kp q
  · have ne : ∀ {x : Addr}, x ∈ X ∨ J x = none → c ≠ x := fun {x} hx => by
      rintro rfl
      exact hx.elim nc fun q => by rw [e] at q; cases q
    exact A.s c o (ne pX) (fun q => nc (q ▸ aX)) (ne h.hd) (ne h.hr) (kp c o nc e)
/-- the other desk stays -/
theorem rest78 (hA : DeskAt K G a d1 r1 t mv ps tl) (hB : DeskAt K G b db rb t mv psb tlb) (na : b ≠ a) (nd : db ≠ d1) (nr : rb ≠ r1) (hp : PuD G p s0) (A : ActTo K G H' p a d1 r1 d2 r2 t mv W2 ps2 tl2) :
    DeskAt K H' b db rb t mv psb tlb ∧ db ≠ d2 ∧ rb ≠ r2 := by
  obtain ⟨dxa, oa⟩ := hA.o
  obtain ⟨ra, or_, tra⟩ := hA.l
  obtain ⟨dxb, ob⟩ := hB.o
  obtain ⟨rb', orb, trb⟩ := hB.l
  have ha := hA.k
  have hb := hB.k
  have hp' : G p = some (.lst [.int s0.1, .int s0.2.1, .int s0.2.2]) := hp
  have kp : Kept [p, a, d1, r1] G H' := fun c o n e => A.s c o (fun q => n (by simp [q])) (fun q => n (by simp [q])) (fun q => n (by simp [q])) (fun q => n (by simp [q])) e
  have cl : Cl [p, a, d1, r1] G := fun x hx o e => by
    simp only [List.mem_cons, List.not_mem_nil, or_false] at hx
    rcases hx with q | q | q | q
    · subst q; rw [hp'] at e; cases e; exact no_lst
    · subst q; rw [oa] at e; cases e; exact no_desk
    · subst q; rw [ha] at e; cases e; exact no_dk
    · subst q; rw [or_] at e; cases e; exact no_lst
  have rp : rb ≠ p := hp.pu.ne_tr orb trb
  have n4 : ∀ {c x y z u : Addr}, c ≠ x → c ≠ y → c ≠ z → c ≠ u → c ∉ [x, y, z, u] := fun h1 h2 h3 h4 => by simp [h1, h2, h3, h4]
  refine ⟨hB.kept kp cl (n4 (by rintro rfl; rw [ob] at hp'; cases hp') na (by rintro rfl; rw [ob] at ha; cases ha) (by rintro rfl; rw [ob] at or_; cases or_))
    (n4 (by rintro rfl; rw [hb] at hp'; cases hp') (by rintro rfl; rw [hb] at oa; cases oa) nd (by rintro rfl; rw [hb] at or_; cases or_)) (n4 rp (by rintro rfl; rw [orb] at oa; cases oa) (by rintro rfl; rw [orb] at ha; cases ha) nr), ?_, ?_⟩
  · rcases A.d' with q | q
    · rw [q]; exact nd
    · exact ne_of_none hb q
  · rcases A.r' with q | q
    · rw [q]; exact nr
    · exact ne_of_none orb q
end
theorem prs_VW {K : PySem.W.Frag} {H0 H0' H : Hp} {t : T} {v : V} {W : Str → Option Int} (hv : ∃ b, v = V.ref b) : ∀ {l : List VI} {xs ys : List V}, VW K H0 H t v W l xs → VW K H0' H t v W l ys → Prs (DV K) xs ys H
  | [], xs, ys, h, h' => by
    have h : xs = [] := h
    have h' : ys = [] := h'
    subst h; subst h'; exact Prs.nil
  | i :: l, xs, ys, ⟨x, r, e, a, b⟩, ⟨y, q, e', a', b'⟩ => by
    subst e; subst e'
    exact Prs.cons ⟨H0, H0', t, v, W, i, hv, a, a'⟩ (prs_VW hv b b')
theorem PL.monoX {H H' : Hp} {p : Addr} (hp : Pu H p) (s : SameX p H H') : ∀ {ps : List (Str × Int)} {vs : List V}, PL H ps vs → PL H' ps vs
  | [], vs, h => h
  | x :: ps, vs, ⟨q, r, e, h1, h2⟩ => ⟨q, r, e, s _ _ (by rintro rfl; obtain ⟨a, b, c, e⟩ := hp; rw [e] at h1; cases h1) h1, PL.monoX hp s h2⟩
theorem initP_len (t : T) (ps : List (Str × Int)) : (initP t ps).length = (t.names.filter fun z => decide (z ∈ ps.map (·.1))).length := by unfold initP; rw [List.length_map]
theorem initP_le (t : T) (ps : List (Str × Int)) : (initP t ps).length ≤ t.names.length := by rw [initP_len]; exact List.length_filter_le _ _
def Inv78 (K : PySem.W.Frag) (J : Hp) (X : List Addr) (q : Addr) (tv : V) (pn r lo a kt ea : Addr) (v9 : Option V) (oa : Addr) (t : T) (mv : V) (W0 : Str → Option Int) (i : Nat) (σ : L2.St) (G : Hp) : Prop :=
  ∃ v1 v11 v12 v13 v14 v15 dA rA psA tlA WA dB rB psB tlB WB, σ = [some (.ref q), v1, some tv, some (.ref pn), some (.ref r), some (.ref lo), some (.ref a), some (.ref kt), some (.ref ea), v9, some (.ref oa), v11, v12, v13, v14, v15, none, none, none] ∧
    M78 K J G X a t mv dA rA psA tlA WA ∧ M78 K J G X oa t mv dB rB psB tlB WB ∧ Kept X J G ∧ dA ≠ dB ∧ rA ≠ rB ∧ StOk t W0 WA tlA (9 + i) ∧ StOk t W0 WB tlB (9 + i)
def sp_law (K : PySem.W.Frag) : Sp := fun vs H Q _ => match vs with
  | [.ref q] => ∃ xs : List Int, SqL K H q (xs.map V.int) ∧ ∀ H', Q (.bl true) H'
  | _ => False
theorem ok_law (tp : Top K mg) {lf : Addr} {lfd : FuncData} (LF : FunD K "law" "law" (defArgs s_law) (defBody s_law) (defScope s_law) [] [] lf lfd) : FnOk P w K mg base CX0 160 lf lfd ["script"] (sp_law K) := by
  refine fo_by LF sc_law (fun vs H Q E h => by unfold sp_law at h; split at h <;> first | rfl | exact h.elim) (fun f cdv A outer s H vs Q E hr h => ⟨_, (pss_cons (ps_set (i := 1) sc_law.nd rfl (by first | exact Or.inl rfl | exact Or.inr rfl) (g_call (ok_purse_det tp) hr rfl (by omega) (pa_cons (gv 0) (pa_cons pe_int pa_nil)))) (pss_cons (ps_set (i := 2) sc_law.nd rfl (by first | exact Or.inl rfl | exact Or.inr rfl) (g_call (ok__law_tree tp) hr rfl (by omega) (pa_cons (gv 1) (pa_cons pe_int (pa_cons pe_int pa_nil))))) (pss_cons (ps_asg (g_tup (pa_cons (g_call (ok__law_names tp 46) hr rfl (by omega) (pa_cons (gv 2) pa_nil)) (pa_cons (g_call (ok__law_worths tp) hr rfl (by omega) (pa_cons (gv 1) (pa_cons (g_call (ok__law_names tp 46) hr rfl (by omega) (pa_cons (gv 2) pa_nil)) pa_nil))) pa_nil))) (pg_tup rfl (pgs_cons (pg_name (i := 3) sc_law.nd rfl (by first | exact Or.inl rfl | exact Or.inr rfl)) (pgs_cons (pg_name (i := 4) sc_law.nd rfl (by first | exact Or.inl rfl | exact Or.inr rfl)) pgs_nil)))) (pss_cons (ps_set (i := 5) sc_law.nd rfl (by first | exact Or.inl rfl | exact Or.inr rfl) (g_make ((mk_Lot tp).1) hr rfl (by omega) (pa_cons (g_lc rfl sc_law.nd (kw_list K rfl (gv 3)) (blkOk_by (own := [("name", 18)]) (N := (["script", "purse", "tree", "names", "worths", "start", "desk", "first_lot", "early", "turn", "other", "k", "first", "acting", "resting", "kept", "twin", "one", "name"] : List Str)) (sc := defScope s_law) (by decide +kernel)) (fun _ _ _ _ _ => pg_name (i := 18) sc_law.nd rfl (by first | exact Or.inl rfl | exact Or.inr rfl)) (fun _ _ _ _ _ => (pts_one (g_cmp (k_eqG K rfl hr.units) (g_call (ok__law_draw tp) hr rfl (by omega) (pa_cons (gv 1) (pa_cons pe_int pa_nil))) pe_int (nomark _)))) (fun _ _ _ _ _ => (g_tup (pa_cons (gv 18) (pa_cons (g_dget (Nat.lt_of_le_of_lt (Nat.add_le_add_left (by decide : 1 ≤ 64) _) hr.units) (gv 4) (gv 18)) pa_nil))))) pa_nil))) (pss_cons (ps_par rfl sc_law.nd (i := 6) (j := 7) rfl rfl (by decide) rfl rfl (pa_cons (g_make ((mk_Desk tp).1) hr rfl (by omega) (pa_cons (g_call (ok__law_made tp 46) hr rfl (by omega) (pa_cons (gv 2) pa_nil)) (pa_cons (gv 5) pa_nil))) (pa_cons (g_meth0 (ok_Lot_copy tp) hr (by omega) (gv 5)) pa_nil)) rfl) (pss_cons (ps_set (i := 8) sc_law.nd rfl (by first | exact Or.inl rfl | exact Or.inr rfl) (g_meth0 (ok_Desk_copy tp) hr (by omega) (gv 6))) (pss_cons (g_for PassesOwn.never rfl (w_range1 rfl tp.b_range (pa_cons (g_call (ok__law_draw tp) hr rfl (by omega) (pa_cons (gv 1) (pa_cons pe_int pa_nil))) pa_nil)) (pg_name (i := 9) sc_law.nd rfl (by first | exact Or.inl rfl | exact Or.inr rfl)) (pss_one (ps_expr (g_call (ok__law_act tp) hr rfl (by omega) (pa_cons (gv 1) (pa_cons (gv 6) (pa_cons (gv 3) pa_nil))))))) (pss_cons (ps_set (i := 10) sc_law.nd rfl (by first | exact Or.inl rfl | exact Or.inr rfl) (g_meth0 (ok_Desk_copy tp) hr (by omega) (gv 6))) (pss_cons (g_if (PW.pt (g_or (pt_not (g_val (pe_callB (k_isi K rfl) (by rfl) tp.b_isinstance (by decide +kernel) (pa_cons (gv 10) (pa_cons (pe_glob (v := .ref _) rfl tp.c_Desk rfl) pa_nil))))) (pw_or1 (g_cmp (k_neView K rfl tp hr (by omega)) (g_call (ok__law_view tp) hr rfl (by omega) (pa_cons (gv 10) (pa_cons (gv 3) pa_nil))) (g_call (ok__law_view tp) hr rfl (by omega) (pa_cons (gv 6) (pa_cons (gv 3) pa_nil))) (nomark _))))) (pss_one (ps_ret pe_bl)) pss_nil) (pss_cons (g_for PassesOwn.never rfl (w_range2 rfl tp.b_range (pa_cons pe_int (pa_cons (pe_op op_addG (pe_callB (call_min2 rfl) (by rfl) tp.b_min (by decide +kernel) (pa_cons (pe_callB (k_len K rfl) (by rfl) tp.b_len (by decide +kernel) (pa_cons (gv 0) pa_nil)) (pa_cons pe_int pa_nil))) pe_int) pa_nil))) (pg_name (i := 11) sc_law.nd rfl (by first | exact Or.inl rfl | exact Or.inr rfl)) (pss_cons (ps_set (i := 1) sc_law.nd rfl (by first | exact Or.inl rfl | exact Or.inr rfl) (g_call (ok_purse_det tp) hr rfl (by omega) (pa_cons (gv 0) (pa_cons (gv 11) pa_nil)))) (pss_cons (ps_set (i := 12) sc_law.nd rfl (by first | exact Or.inl rfl | exact Or.inr rfl) (g_cmpV (k_eqG K rfl hr.units) (g_call (ok__law_draw tp) hr rfl (by omega) (pa_cons (gv 1) (pa_cons pe_int pa_nil))) pe_int (nomark _))) (pss_cons (ps_asg (g_ifE (g_val (gv 12)) (g_lst (pa_cons (gv 6) (pa_cons (gv 10) pa_nil))) (g_lst (pa_cons (gv 10) (pa_cons (gv 6) pa_nil)))) (pg_lst rfl (pgs_cons (pg_name (i := 13) sc_law.nd rfl (by first | exact Or.inl rfl | exact Or.inr rfl)) (pgs_cons (pg_name (i := 14) sc_law.nd rfl (by first | exact Or.inl rfl | exact Or.inr rfl)) pgs_nil)))) (pss_cons (ps_set (i := 15) sc_law.nd rfl (by first | exact Or.inl rfl | exact Or.inr rfl) (g_call (ok__law_view tp) hr rfl (by omega) (pa_cons (gv 14) (pa_cons (gv 3) pa_nil)))) (pss_cons (ps_expr (g_call (ok__law_act tp) hr rfl (by omega) (pa_cons (gv 1) (pa_cons (gv 13) (pa_cons (gv 3) pa_nil))))) (pss_one (g_if (g_cmp (k_neView K rfl tp hr (by omega)) (g_call (ok__law_view tp) hr rfl (by omega) (pa_cons (gv 14) (pa_cons (gv 3) pa_nil))) (gv 15) (nomark _)) (pss_one (ps_ret pe_bl)) pss_nil)))))))) (pss_cons (ps_par rfl sc_law.nd (i := 16) (j := 15) rfl rfl (by decide) rfl rfl (pa_cons (g_meth0 (ok_Desk_copy tp) hr (by omega) (g_meth0 (ok_Desk_copy tp) hr (by omega) (gv 6))) (pa_cons (g_meth0 (ok_Lot_copy tp) hr (by omega) (gv 5)) pa_nil)) rfl) (pss_cons (g_for PassesOwn.never rfl (w_range1 rfl tp.b_range (pa_cons pe_int pa_nil)) (pg_name (i := 11) sc_law.nd rfl (by first | exact Or.inl rfl | exact Or.inr rfl)) (pss_cons (ps_expr (g_call (ok__law_act tp) hr rfl (by omega) (pa_cons (g_call (ok_purse_det tp) hr rfl (by omega) (pa_cons (gv 0) (pa_cons (pe_op op_addG pe_int (gv 11)) pa_nil))) (pa_cons (gv 6) (pa_cons (gv 3) pa_nil))))) (pss_cons (ps_expr (g_call (ok__law_act tp) hr rfl (by omega) (pa_cons (g_call (ok_purse_det tp) hr rfl (by omega) (pa_cons (gv 0) (pa_cons (pe_op op_addG pe_int (gv 11)) pa_nil))) (pa_cons (gv 16) (pa_cons (gv 3) pa_nil))))) (pss_one (g_if (g_cmp (k_neView K rfl tp hr (by omega)) (g_call (ok__law_view tp) hr rfl (by omega) (pa_cons (gv 16) (pa_cons (gv 3) pa_nil))) (g_call (ok__law_view tp) hr rfl (by omega) (pa_cons (gv 6) (pa_cons (gv 3) pa_nil))) (nomark _)) (pss_one (ps_ret pe_bl)) pss_nil))))) (pss_cons (g_for PassesOwn.never rfl (kw_list K rfl (g_lst (pa_cons (gv 6) (pa_cons (gv 10) (pa_cons (gv 16) pa_nil))))) (pg_name (i := 17) sc_law.nd rfl (by first | exact Or.inl rfl | exact Or.inr rfl)) (pss_cons (g_for PassesOwn.never rfl (w_range1 rfl tp.b_range (pa_cons (g_prop (ok_Desk_made tp) hr (by omega) (gv 17) rfl) pa_nil)) (pg_name (i := 9) sc_law.nd rfl (by first | exact Or.inl rfl | exact Or.inr rfl)) (pss_one (g_if (g_cmp (k_ninG K rfl) (g_meth0 (ok_Desk_back tp) hr (by omega) (gv 17)) (gv 3) (by with_unfolding_all rfl)) (pss_one (ps_ret pe_bl)) pss_nil))) (pss_one (g_if (PW.pt (g_or (g_cmp op_isnG (g_meth0 (ok_Desk_back tp) hr (by omega) (gv 17)) pe_non (nomark _)) (g_or (g_cmp (op_neO ((ok_Lot___eq__ tp).sp') tp.e_Lot (hr.mono (by omega))) (g_prop (ok_Desk_lot tp) hr (by omega) (gv 17) rfl) (gv 5) (nomark _)) (pw_or1 (g_cmp (k_neG K rfl hr.units) (g_prop (ok_Desk_made tp) hr (by omega) (gv 17) rfl) pe_int (nomark _)))))) (pss_one (ps_ret pe_bl)) pss_nil)))) (pss_one (ps_ret (g_andV (g_cmpV (op_eqO ((ok_Lot___eq__ tp).sp') (hr.mono (by omega))) (g_prop (ok_Desk_lot tp) hr (by omega) (gv 8) rfl) (gv 5) (nomark _)) (g_andV (g_cmpV (k_eqG K rfl hr.units) (g_prop (ok_Desk_made tp) hr (by omega) (gv 8) rfl) pe_int (nomark _)) (g_andV (g_cmpV (op_eqO ((ok_Lot___eq__ tp).sp') (hr.mono (by omega))) (gv 5) (gv 7) (nomark _)) (pe_one (g_cmpV (op_eqO ((ok_Lot___eq__ tp).sp') (hr.mono (by omega))) (gv 5) (gv 15) (nomark _))))))))))))))))))))), ?_⟩)
  unfold sp_law at h
  split at h
  next q =>
    obtain ⟨xs, hq, k⟩ := h
    walk_at "w"
    refine ⟨xs, hq, fun p H1 fp s1 hp1d => ?_⟩
    have hp1 := hp1d.pu
    walk_at "w"
    refine ⟨hp1, by decide, by decide, fun t tv H2 s2 hp2 lt g hz lw => ?_⟩
    have hz : t.names.length ≤ 8 := hz
    walk_at "w"
    refine ⟨t, lt.mono fresh_same, Nat.lt_succ_of_le g.dp, g.sz, fun pn H3 f3 s3 e3 => ?_⟩
    have hp3 := hp2.same s3
    have lt3 : LT H3 t tv := (lt.mono (fresh_later hp1 (SameX.of s3))).mono fresh_same
    refine ⟨t, lt3, Nat.lt_succ_of_le g.dp, g.sz, fun pn2 H4 f4 s4 e4 => ?_⟩
    have hp4 := hp3.same s4
    refine ⟨t.names, hp4, e4, by omega, g.nd, fun Wi r H5 f5 s5 hp5 e5 wb => ?_⟩
    refine ⟨(by show 2 ≤ sizeLine; decide), fun pt H6 f6 s6 e6 => ?_⟩
    refine ⟨pt, _, rfl, SqT.of e6, rfl, .ref pn, _, rfl, .ref r, [], rfl, rfl, ?_⟩
    have pnp : pn ≠ p := hp2.ne f3
    have rp : r ≠ p := hp4.ne f5
    have hp6 := hp5.same s6
    have n6 := s6 _ _ (s5 _ _ pnp (s4 _ _ e3))
    have r6 := s6 _ _ e5
    walk_at "w"
    refine comp_list (xs := t.names.map V.str) (fun i acc G => SameX p H6 G ∧ Pu G p ∧ ∃ sub : List Str, sub.Sublist (t.names.take i) ∧ PL G (sub.map fun z => (z, Wi z)) acc) (by rw [List.length_map]; exact lt1000 (by omega)) ⟨SameX.refl, hp6, [], List.nil_sublist _, rfl⟩ (fun i acc G f => SqL.of (f.1 _ _ pnp n6)) (fun D i x acc H' hx hD hDl hq' f => ⟨rfl, ?_⟩) (fun D H7 acc hD hDl hq' f => ?_)
    · obtain ⟨s7, hp7, sub, sb, pl⟩ := f
      obtain ⟨z, hz', rfl⟩ := map_atG hx
      have zt := List.mem_of_getElem? hz'
      have hp7' : Pu H' p := hp7.same off_same
      have tk : t.names.take (i + 1) = t.names.take i ++ [z] := by rw [List.take_add_one, hz']; rfl
      have nD : D ≠ p := hp6.ne hD
      walk_at "w"
      refine ⟨hp7', by decide, by decide, fun d G1 d0 d1 sg hpG1 => ?_⟩
      have oD := sg _ _ nD hDl
      have sX : SameX p H6 (off D G1) := fun b o n e => by
        have e2 := s7 b o n e
        obtain ⟨n2, e2⟩ := off_some e2
        rw [off_at n2]; exact sg b o n e2
      have hpO : Pu (off D G1) p := let ⟨x, y, z, e⟩ := hpG1; ⟨x, y, z, by rw [off_at nD.symm]; exact e⟩
      have plO : PL (off D G1) (sub.map fun z => (z, Wi z)) acc := PL.mono (fun b o e => e) (PL.monoX hp7 (fun b o n e => by obtain ⟨n2, e⟩ := off_some e; rw [off_at n2]; exact sg b o n e) pl)
      walk_at "w"
      refine way_d (fun c => ?_) fun c => ?_
      · have eWz : valV (kvI (wps Wi t.names)) (.inr z) = some (.int (Wi z)) := by rw [valV_kvI, look_wps g.nd zt]; rfl
        have rG : G1 r = some (.dK (kvI (wps Wi t.names))) := (off_some (sX _ _ rp r6)).2
        walk_at "w"
        refine ⟨_, .int (Wi z), rG, eWz, ?_⟩
        refine ⟨(by show 2 ≤ sizeLine; decide), fun p2 H3 f2 s3 e3 => ?_⟩
        have nD2 : p2 ≠ D := by rintro rfl; rw [oD] at f2; cases f2
        refine ⟨s3 _ _ oD, sX.trans (SameX.of (off_mono s3)), hpO.same (off_mono s3), sub ++ [z], ?_, ?_⟩
        · rw [tk]; exact sb.append (List.Sublist.refl _)
        · rw [List.map_append]
          exact (plO.mono (off_mono s3)).app (PL.one (by rw [off_at nD2]; exact e3))
      · refine ⟨oD, sX, hpO, sub, ?_, plO⟩
        rw [tk]; exact sb.trans (List.sublist_append_left _ _)
    obtain ⟨s7', hp7', sub, sb, pl7⟩ := f
    rw [List.length_map, List.take_length] at sb
    have nD : D ≠ p := hp6.ne hD
    have s67 : SameX p H6 H7 := s7'.trans (SameX.of off_same)
    have hp7 : Pu H7 p := hp7'.same off_same
    have plr := pl7.mono off_same
    generalize hrows : (sub.map fun z => (z, Wi z)) = rows at plr
    have rok : PsOk rows := by
      rw [← hrows]
      refine ⟨?_, fun x hx => ?_, by rw [List.length_map]; exact Nat.le_trans sb.length_le (by omega)⟩
      · rw [List.map_map, show ((fun p : Str × Int => p.1) ∘ fun z => (z, Wi z)) = id from rfl, List.map_id]; exact g.nd.sublist sb
      · obtain ⟨z, hz, rfl⟩ := List.mem_map.mp hx
        exact sh_nm g.sh z (sb.subset hz)
    have rsub : ∀ x ∈ rows, x.1 ∈ t.names := fun x hx => by
      rw [← hrows] at hx
      obtain ⟨z, hz, rfl⟩ := List.mem_map.mp hx
      exact sb.subset hz
    have rbd : ∀ z c, z ∈ t.names → look rows z = some c → -B6 < c ∧ c < B6 := fun z c hz e => by
      have m := look_mem e
      rw [← hrows] at m
      obtain ⟨y, hy, e2⟩ := List.mem_map.mp m
      cases e2
      have := wb z hz
      unfold B6
      omega
    refine ⟨rows, _, hDl, plr, rok, fun lo ld H8 f8 g8 s8 l8 => ?_⟩
    have hp8 := hp7.same s8
    have s38 : SameX p H3 H8 := (SameX.of s4).trans (s5.trans ((SameX.of s6).trans (s67.trans (SameX.of s8))))
    have lt8 : LT H8 t tv := (lt.mono (fresh_later hp1 ((SameX.of s3).trans s38))).mono fresh_same
    have n8 := s38 _ _ pnp e3
    walk_at "w"
    refine ⟨t, lt8, g, Nat.lt_succ_of_le g.dp, fun mv H9 s9 mt => ?_⟩
    have l9 := l8.mono s9
    refine ⟨t, ld, rows, mt, g, l9, fun a d r0 Ha fa fd fr sa la => ?_⟩
    have l9a := l9.mono sa
    obtain ⟨dxl, ol⟩ := l9a.o
    refine ⟨dxl, _, ol, rfl, ?_⟩
    refine ⟨ld, rows, l9a, fun kt kd Hb fk fkd sb' lk => ?_⟩
    refine ⟨.ref a, .ref kt, rfl, ?_⟩
    have lab := la.mono sb'
    obtain ⟨dxa, oa9⟩ := lab.o
    walk_at "w"
    refine ⟨dxa, _, oa9, rfl, ?_⟩
    have psl : (initP t rows).length ≤ 1000 := Nat.le_trans (initP_le t rows) (by omega)
    refine ⟨d, r0, t, mv, _, [], lab, g, psl, fun ea ed er Hc fe1 fe2 fe3 sc lec => ?_⟩
    have hp9 : Pu H9 p := hp8.same s9
    have hpc : Pu Hc p := ((hp9.same sa).same sb').same sc
    refine ⟨hpc, by decide, by decide, fun d9 Hd d90 d91 sd hpd => ?_⟩
    walk_at "w"
    refine ⟨by omega, ?_⟩
    have nne := names_ne g
    have mref : ∃ b, mv = V.ref b := let ⟨b, _, _, _, e, _⟩ := la.m.ref; ⟨b, e⟩
    have kpd : Kept [p] Hc Hd := fun b o n e => sd b o (by simpa using n) e
    have clp : Cl [p] Hc := fun x hx o e => by
      rw [List.mem_singleton] at hx; subst hx
      obtain ⟨_, _, _, e2⟩ := hpc
      rw [e2] at e; cases e; exact no_lst
    have npx : ∀ {G : Hp} {b : Addr} {o : HO}, Pu G p → G b = some o → (∀ xs, o ≠ .lst xs) → b ∉ [p] := fun {G b o} hp e n => nin1 (hp.ne_of e n)
    have lad := (lab.mono sc).kept kpd clp (npx hpc (sc _ _ oa9) fun xs q => by cases q) (npx hpc (sc _ _ lab.k) fun xs q => by cases q) (nin1 (hpc.ne_tr (sc _ _ lab.l.choose_spec.1) (lab.l.choose_spec.2.mono fun b o e => sc _ _ e)))
    have led := lec.kept kpd clp (npx hpc lec.o.choose_spec fun xs q => by cases q) (npx hpc lec.k fun xs q => by cases q) (nin1 (hpc.ne_tr lec.l.choose_spec.1 lec.l.choose_spec.2))
    have lod := (l9a.mono (sb'.trans sc)).kept kpd (npx hpc ((sb'.trans sc) _ _ ol) fun xs q => by cases q) (npx hpc ((sb'.trans sc) _ _ l9a.k) fun xs q => by cases q)
    have lkd := (lk.mono sc).kept kpd (npx hpc (sc _ _ lk.o.choose_spec) fun xs q => by cases q) (npx hpc (sc _ _ lk.k) fun xs q => by cases q)
    have s9c : Same H9 Hc := sa.trans (sb'.trans sc)
    have nd' : Hd pn = some (.lst (t.names.map V.str)) := sd _ _ pnp (s9c _ _ (s9 _ _ n8))
    have s0d : SameX p H1 Hd := s2.trans ((SameX.of s3).trans (s38.trans ((SameX.of (s9.trans s9c)).trans sd)))
    have gqd : SqL K Hd q (xs.map V.int) := SqL_un hq fp ((SameX.of s1).trans s0d)
    have li := fun z hz => init_look (t := t) (ps := rows) g.nd (z := z) hz
    have ad : a ≠ d := by rintro rfl; obtain ⟨_, e⟩ := lad.o; rw [lad.k] at e; cases e
    have n4 : ∀ {c x y z u : Addr}, c ≠ x → c ≠ y → c ≠ z → c ≠ u → c ∉ [x, y, z, u] := fun h1 h2 h3 h4 => by simp [h1, h2, h3, h4]
    have n9 := s9 _ _ n8
    have pnX : pn ∉ [p, a, d, r0] := n4 pnp (ne_of_none n9 fa) (ne_of_none n9 fd) (ne_of_none n9 fr)
    have f09 : ∀ {x}, H9 x = none → H x = none := fun {x} f => free_back (show Same H H9 from fun b o e => (SameX.of (s8.trans s9)) b o (ne_of_none e fp) (s67 b o (ne_of_none e fp) (s6 _ _ (s5 b o (ne_of_none e fp) (s4 _ _ (s3 _ _ (s2 b o (ne_of_none e fp) (s1 _ _ e)))))))) f
    have fX1 : ∀ x ∈ [p, a, d, r0], H x = none := fun x hx => by
      simp only [List.mem_cons, List.not_mem_nil, or_false] at hx
      rcases hx with q | q | q | q <;> subst q
      · exact fp
      · exact f09 fa
      · exact f09 fd
      · exact f09 fr
    have sHd : Same H Hd := fun b o e => s0d b o (ne_of_none e fp) (s1 _ _ e)
    have sHk : ∀ {X : List Addr} {J G : Hp}, Same H J → (∀ x ∈ X, H x = none) → Kept X J G → Same H G := fun {X J G} s f kp b o e => kp b o (fun m => ne_of_none e (f b m) rfl) (s _ _ e)
    have clX1 : Cl [p, a, d, r0] Hd := fun x hx o e => by
      simp only [List.mem_cons, List.not_mem_nil, or_false] at hx
      rcases hx with q | q | q | q
      · subst q; obtain ⟨_, _, _, e2⟩ := hpd; rw [e2] at e; cases e; exact no_lst
      · subst q; obtain ⟨_, e2⟩ := lad.o; rw [e2] at e; cases e; exact no_desk
      · subst q; rw [lad.k] at e; cases e; exact no_dk
      · subst q; obtain ⟨_, e2, _⟩ := lad.l; rw [e2] at e; cases e; exact no_lst
    have eX1 : ∀ {x}, Hb x = none → x ≠ p → x ∉ [p, a, d, r0] := fun {x} f np => n4 np (ne_of_none oa9 f).symm (ne_of_none lab.k f).symm (ne_of_none lab.l.choose_spec.1 f).symm
    have kX1 : ∀ {x}, Ha x = none → x ≠ p → x ∉ [p, a, d, r0] := fun {x} f np => n4 np (ne_of_none la.o.choose_spec f).symm (ne_of_none la.k f).symm (ne_of_none la.l.choose_spec.1 f).symm
    have lX1 : ∀ {x o}, H9 x = some o → x ≠ p → x ∉ [p, a, d, r0] := fun {x o} e np => n4 np (ne_of_none e fa) (ne_of_none e fd) (ne_of_none e fr)
    have pnx : ∀ {b : Addr} {o : HO}, Hd b = some o → (∀ xs, o ≠ .lst xs) → b ≠ p := fun {b o} e n => hpd.ne_of e n
    refine forw_range (fun i σ G => ∃ v9 d1 r1 ps tl W, σ = [some (.ref q), some (.ref p), some tv, some (.ref pn), some (.ref r), some (.ref lo), some (.ref a), some (.ref kt), some (.ref ea), v9, none, none, none, none, none, none, none, none, none] ∧
      M78 K Hd G [p, a, d, r0] a t mv d1 r1 ps tl W ∧ Kept [p, a, d, r0] Hd G ∧ Pu G p ∧ StOk t (look rows) W tl i) ⟨none, d, r0, _, _, _, rfl, ⟨lad, .inl (by simp), .inl (by simp), li⟩, Kept.same (Same.refl _), hpd, ⟨fun x hx => by simp at hx, Nat.le_refl _, rfl, rbd⟩⟩ ?_ ?_
    · rintro i σ G hi ⟨v9, d1, r1, ps, tl, W, rfl, M, kp, hpG, st⟩
      obtain ⟨sG, hpGd⟩ := hpG.det
      have sln := st.ln
      walk_at "w"
      refine ⟨sG, d1, r1, t, mv, ps, tl, W, hpGd, M.dk, g, by omega, nne, kp _ _ pnX nd', fun x hx => (st.tm x hx).1, by omega, M.w, fun d2 r2 ps2 iv G2 A => ?_⟩
      obtain ⟨M2, kp2⟩ := M.act kp (by simp) (.inl (by simp)) A
      exact ⟨_, d2, r2, ps2, _, _, rfl, M2, kp2, A.pu, st.act nne sG⟩
    rintro σ G ⟨v9, d1, r1, ps, tl, W, rfl, M, kp, hpG, st⟩
    have leG := led.kept kp clX1 (eX1 fe1 (pnx led.o.choose_spec fun xs q => by cases q)) (eX1 fe2 (pnx led.k fun xs q => by cases q)) (eX1 fe3 (hpd.ne_tr led.l.choose_spec.1 led.l.choose_spec.2))
    have loG := lod.kept kp (lX1 l9.o.choose_spec (pnx lod.o.choose_spec fun xs q => by cases q)) (lX1 l9.k (pnx lod.k fun xs q => by cases q))
    have lkG := lkd.kept kp (kX1 fk (pnx lkd.o.choose_spec fun xs q => by cases q)) (kX1 fkd (pnx lkd.k fun xs q => by cases q))
    have pnG := kp _ _ pnX nd'
    have sHG := sHk sHd fX1 kp
    have mtG := M.dk.m
    have dkG := M.dk
    have hwG := M.w
    have stb : StOk t (look rows) W tl 9 := ⟨st.tm, Nat.le_trans st.ln (by omega), st.un, st.bw⟩
    have frG : ∀ x, G x = none → H x = none := fun x f => free_back sHG f
    have faH := f09 fa
    have fdH : H d1 = none ∧ H r1 = none := ⟨M.hd.elim (fX1 _) (free_back sHd), M.hr.elim (fX1 _) (free_back sHd)⟩
    have neM : ∀ {x o}, x ∉ [p, a, d, r0] → Hd x = some o → x ∉ [a, d1, r1] := fun {x o} n e => nin3 (fun q => n (by simp [q])) (M.hd.elim (fun m q => n (q ▸ m)) fun f => ne_of_none e f) (M.hr.elim (fun m q => n (q ▸ m)) fun f => ne_of_none e f)
    have pn3 := neM pnX nd'
    have ea3 := neM (eX1 fe1 (pnx led.o.choose_spec fun xs q => by cases q)) led.o.choose_spec
    have ed3 := neM (eX1 fe2 (pnx led.k fun xs q => by cases q)) led.k
    have er3 := neM (eX1 fe3 (hpd.ne_tr led.l.choose_spec.1 led.l.choose_spec.2)) led.l.choose_spec.1
    have lo3 := neM (lX1 l9.o.choose_spec (pnx lod.o.choose_spec fun xs q => by cases q)) lod.o.choose_spec
    have ld3 := neM (lX1 l9.k (pnx lod.k fun xs q => by cases q)) lod.k
    have kt3 := neM (kX1 fk (pnx lkd.o.choose_spec fun xs q => by cases q)) lkd.o.choose_spec
    have kd3 := neM (kX1 fkd (pnx lkd.k fun xs q => by cases q)) lkd.k
    clear M kp hpG
    obtain ⟨dx1, o1⟩ := dkG.o
    have psl1 : ps.length ≤ 8 := by rw [(perm_somes dkG.nd g.nd dkG.sub hwG).length_eq]; exact Nat.le_trans (somes_len W t.names) hz
    walk_at "w"
    refine ⟨dx1, _, o1, rfl, ?_⟩
    refine ⟨d1, r1, t, mv, ps, tl, dkG, g, by omega, fun oa od or_ G1 fo1 fo2 fo3 so lo1 => ?_⟩
    obtain ⟨dxo, oo⟩ := lo1.o
    have hwo : ∀ z ∈ t.names, look (initP t (ps.mergeSort pLe)) z = W z := fun z hz => by
      rw [init_look g.nd hz, look_perm (List.mergeSort_perm ps pLe) (((List.mergeSort_perm ps pLe).map _).nodup_iff.mpr dkG.nd) z]
      exact hwG z hz
    walk_at "w"
    refine ⟨_, is_own oo tp.i_Desk tp.kit_Desk_Desk, way_f ?_⟩
    walk_at "w"
    refine ⟨od, or_, t, mv, _, tl, W, lo1, g, by omega, nne, so _ _ pnG, hwo, stb.bw, fun pv1 xs1 G2 fv1 sv1 ev1 vw1 => ?_⟩
    refine ⟨d1, r1, t, mv, ps, tl, W, dkG.mono (so.trans sv1), g, by omega, nne, (so.trans sv1) _ _ pnG, hwG, stb.bw, fun pv2 xs2 G3 fv2 sv2 ev2 vw2 => ?_⟩
    refine ⟨⟨pv1, pv2, _, _, rfl, rfl, sv2 _ _ ev1, ev2, prs_VW mref (vw1.mono sv2) vw2⟩, fun G4 s4' => ?_⟩
    refine way_f ?_
    have s34 : Same G1 G4 := sv1.trans (sv2.trans s4')
    have sG4 : Same G G4 := so.trans s34
    have n6 : ∀ {x o}, x ∉ [a, d1, r1] → G x = some o → x ∉ [a, d1, r1, oa, od, or_] := fun {x o} n e => by
      simp only [List.mem_cons, List.not_mem_nil, or_false, not_or] at n ⊢
      exact ⟨n.1, n.2.1, n.2.2, ne_of_none e fo1, ne_of_none e fo2, ne_of_none e fo3⟩
    have pn6 := n6 pn3 pnG
    have fX2 : ∀ x ∈ [a, d1, r1, oa, od, or_], H x = none := fun x hx => by
      simp only [List.mem_cons, List.not_mem_nil, or_false] at hx
      rcases hx with q | q | q | q | q | q <;> subst q
      · exact faH
      · exact fdH.1
      · exact fdH.2
      · exact frG _ fo1
      · exact frG _ fo2
      · exact frG _ fo3
    have sH4 := sHG.trans sG4
    have pn4 := sG4 _ _ pnG
    have M1 : M78 K G4 G4 [a, d1, r1, oa, od, or_] a t mv d1 r1 ps tl W := ⟨dkG.mono sG4, .inl (by simp), .inl (by simp), hwG⟩
    have M2 : M78 K G4 G4 [a, d1, r1, oa, od, or_] oa t mv od or_ _ tl W := ⟨lo1.mono s34, .inl (by simp), .inl (by simp), hwo⟩
    have aoa : a ≠ oa := ne_of_none o1 fo1
    have dod : d1 ≠ od := ne_of_none dkG.k fo2
    have ror : r1 ≠ or_ := ne_of_none dkG.l.choose_spec.1 fo3
    have gq4 := sH4.seq hq
    clear vw1 vw2 ev1 ev2 o1 oo
    walk_at "w"
    refine ⟨_, Or.inl gq4, ?_⟩
    refine ⟨_, _, rfl, ?_⟩
    walk_at "w"
    obtain ⟨m14, hm⟩ : ∃ m14 : Int, m14 = (if (8 : Int) < ((xs.map V.int).length : Int) then 8 else ((xs.map V.int).length : Int)) := ⟨_, rfl⟩
    have hm2 : 0 ≤ m14 ∧ m14 ≤ 8 := by rw [hm]; split <;> omega
    rw [← hm]
    refine ⟨by omega, ?_⟩
    refine forw_range (fun i σ G => Inv78 K G4 [a, d1, r1, oa, od, or_] q tv pn r lo a kt ea v9 oa t mv (look rows) i σ G) ⟨_, none, none, none, none, none, d1, r1, ps, tl, W, od, or_, _, tl, W, rfl, M1, M2, Kept.same (Same.refl _), dod, ror, stb, stb⟩ ?_ ?_
    · rintro i σ J hi ⟨v1, v11, v12, v13, v14, v15, dA, rA, psA, tlA, WA, dB, rB, psB, tlB, WB, rfl, MA, MB, kp, nd, nr, stA, stB⟩
      have gqJ := (sHk sH4 fX2 kp).seq hq
      have pnJ := kp _ _ pn6 pn4
      walk_at "w"
      refine ⟨xs, gqJ, fun p2 J1 fp2 t1 hp2 => ?_⟩
      have hp2u := hp2.pu
      walk_at "w"
      refine ⟨hp2u, by decide, by decide, fun dd J2 dd0 dd1 t2 hp2' => ?_⟩
      have tJ2 : Same J J2 := SameX.un t1 fp2 t2
      walk_at "w"
      have fin0 : ∀ v1 v11 v12 v15 G' dA2 rA2 psA2 tlA2 WA2 dB2 rB2 psB2 tlB2 WB2 (v13 v14 : Option V), M78 K G4 G' [a, d1, r1, oa, od, or_] a t mv dA2 rA2 psA2 tlA2 WA2 → M78 K G4 G' [a, d1, r1, oa, od, or_] oa t mv dB2 rB2 psB2 tlB2 WB2 → Kept [a, d1, r1, oa, od, or_] G4 G' → dA2 ≠ dB2 → rA2 ≠ rB2 →
          StOk t (look rows) WA2 tlA2 (9 + (i + 1)) → StOk t (look rows) WB2 tlB2 (9 + (i + 1)) → Inv78 K G4 [a, d1, r1, oa, od, or_] q tv pn r lo a kt ea v9 oa t mv (look rows) (i + 1)
            [some (.ref q), v1, some tv, some (.ref pn), some (.ref r), some (.ref lo), some (.ref a), some (.ref kt), some (.ref ea), v9, some (.ref oa), v11, v12, v13, v14, v15, none, none, none] G' :=
        fun v1 v11 v12 v15 G' dA2 rA2 psA2 tlA2 WA2 dB2 rB2 psB2 tlB2 WB2 v13 v14 m1 m2 k n1 n2 s1 s2 => ⟨v1, v11, v12, v13, v14, v15, dA2, rA2, psA2, tlA2, WA2, dB2, rB2, psB2, tlB2, WB2, rfl, m1, m2, k, n1, n2, s1, s2⟩
      have up : ∀ {W tl}, StOk t (look rows) W tl (9 + i) → StOk t (look rows) W tl (9 + (i + 1)) := fun {W tl} s => ⟨s.tm, Nat.le_trans s.ln (by omega), s.un, s.bw⟩
      refine way_d (fun c => ?_) fun c => ?_
      case' _ =>
        refine ⟨(by show 2 ≤ sizeLine; decide), fun pl J3 f3 t3 e3 => ?_⟩
        have tJ3 := tJ2.trans t3
        obtain ⟨aA, aR, dP, rP, psP, tlP, WP, dR, rR, psR, tlR, WR, eA, eR, MP, MR, nPR, ndd, nrr, stP, stR, aX, fin⟩ : ∃ aA aR dP rP psP tlP WP dR rR psR tlR WR, aA = a ∧ aR = oa ∧ M78 K G4 J3 [a, d1, r1, oa, od, or_] aA t mv dP rP psP tlP WP ∧ M78 K G4 J3 [a, d1, r1, oa, od, or_] aR t mv dR rR psR tlR WR ∧ aR ≠ aA ∧ dR ≠ dP ∧ rR ≠ rP ∧ StOk t (look rows) WP tlP (9 + i) ∧ StOk t (look rows) WR tlR (9 + i) ∧ aA ∈ [a, d1, r1, oa, od, or_] ∧
            ∀ v1 v11 v12 v15 G' d2 r2 ps2 tl2 W2, M78 K G4 G' [a, d1, r1, oa, od, or_] aA t mv d2 r2 ps2 tl2 W2 → M78 K G4 G' [a, d1, r1, oa, od, or_] aR t mv dR rR psR tlR WR → Kept [a, d1, r1, oa, od, or_] G4 G' → dR ≠ d2 → rR ≠ r2 → StOk t (look rows) W2 tl2 (9 + (i + 1)) →
              Inv78 K G4 [a, d1, r1, oa, od, or_] q tv pn r lo a kt ea v9 oa t mv (look rows) (i + 1) [some (.ref q), v1, some tv, some (.ref pn), some (.ref r), some (.ref lo), some (.ref a), some (.ref kt), some (.ref ea), v9, some (.ref oa), v11, v12, some (.ref aA), some (.ref aR), v15, none, none, none] G' :=
          ⟨a, oa, dA, rA, psA, tlA, WA, dB, rB, psB, tlB, WB, rfl, rfl, MA.mono tJ3, MB.mono tJ3, aoa.symm, nd.symm, nr.symm, stA, stB, by simp, fun v1 v11 v12 v15 G' d2 r2 ps2 tl2 W2 m1 m2 k n1 n2 s => fin0 v1 v11 v12 v15 G' d2 r2 ps2 tl2 W2 dB rB psB tlB WB _ _ m1 m2 k n1.symm n2.symm s (up stB)⟩
        refine ⟨pl, _, rfl, SqL.of e3, rfl, .ref aA, [.ref aR], by rw [eA, eR], .ref aR, [], rfl, rfl, ?_⟩
        clear eA eR
      rotate_left
      case' _ =>
        refine ⟨(by show 2 ≤ sizeLine; decide), fun pl J3 f3 t3 e3 => ?_⟩
        have tJ3 := tJ2.trans t3
        obtain ⟨aA, aR, dP, rP, psP, tlP, WP, dR, rR, psR, tlR, WR, eA, eR, MP, MR, nPR, ndd, nrr, stP, stR, aX, fin⟩ : ∃ aA aR dP rP psP tlP WP dR rR psR tlR WR, aA = oa ∧ aR = a ∧ M78 K G4 J3 [a, d1, r1, oa, od, or_] aA t mv dP rP psP tlP WP ∧ M78 K G4 J3 [a, d1, r1, oa, od, or_] aR t mv dR rR psR tlR WR ∧ aR ≠ aA ∧ dR ≠ dP ∧ rR ≠ rP ∧ StOk t (look rows) WP tlP (9 + i) ∧ StOk t (look rows) WR tlR (9 + i) ∧ aA ∈ [a, d1, r1, oa, od, or_] ∧
            ∀ v1 v11 v12 v15 G' d2 r2 ps2 tl2 W2, M78 K G4 G' [a, d1, r1, oa, od, or_] aA t mv d2 r2 ps2 tl2 W2 → M78 K G4 G' [a, d1, r1, oa, od, or_] aR t mv dR rR psR tlR WR → Kept [a, d1, r1, oa, od, or_] G4 G' → dR ≠ d2 → rR ≠ r2 → StOk t (look rows) W2 tl2 (9 + (i + 1)) →
              Inv78 K G4 [a, d1, r1, oa, od, or_] q tv pn r lo a kt ea v9 oa t mv (look rows) (i + 1) [some (.ref q), v1, some tv, some (.ref pn), some (.ref r), some (.ref lo), some (.ref a), some (.ref kt), some (.ref ea), v9, some (.ref oa), v11, v12, some (.ref aA), some (.ref aR), v15, none, none, none] G' :=
          ⟨oa, a, dB, rB, psB, tlB, WB, dA, rA, psA, tlA, WA, rfl, rfl, MB.mono tJ3, MA.mono tJ3, aoa, nd, nr, stB, stA, by simp, fun v1 v11 v12 v15 G' d2 r2 ps2 tl2 W2 m1 m2 k n1 n2 s => fin0 v1 v11 v12 v15 G' dA rA psA tlA WA d2 r2 ps2 tl2 W2 _ _ m2 m1 k n1 n2 (up stA) s⟩
        refine ⟨pl, _, rfl, SqL.of e3, rfl, .ref aA, [.ref aR], by rw [eA, eR], .ref aR, [], rfl, rfl, ?_⟩
        clear eA eR
      all_goals
        have kp3 : Kept [a, d1, r1, oa, od, or_] G4 J3 := kp.trans (Kept.same tJ3)
        have pn3' := tJ3 _ _ pnJ
        have hp3 : Pu J3 p2 := hp2'.same t3
        have slP := stP.ln
        have slR := stR.ln
        walk_at "w"
        refine ⟨dR, rR, t, mv, psR, tlR, WR, MR.dk, g, by omega, nne, pn3', MR.w, stR.bw, fun pv1 xs1 J4 fv1 sv1 ev1 vw1 => ?_⟩
        have hp4 := hp3.same sv1
        obtain ⟨sP, hpd4⟩ := hp4.det
        have MP4 := MP.mono sv1
        have MR4 := MR.mono sv1
        walk_at "w"
        refine ⟨sP, dP, rP, t, mv, psP, tlP, WP, hpd4, MP4.dk, g, by omega, nne, sv1 _ _ pn3', fun x hx => (stP.tm x hx).1, by omega, MP4.w, fun d2 r2 ps2 iv J5 A => ?_⟩
        have kp4 : Kept [a, d1, r1, oa, od, or_] G4 J4 := kp3.trans (Kept.same sv1)
        have pX : p2 ∈ [a, d1, r1, oa, od, or_] ∨ G4 p2 = none := late78 kp fp2
        obtain ⟨MP5, kp5⟩ := MP4.act kp4 aX pX A
        obtain ⟨dkR5, nd5, nr5⟩ := rest78 MP4.dk MR4.dk nPR ndd nrr hpd4 A
        have MR5 : M78 K G4 J5 [a, d1, r1, oa, od, or_] aR t mv dR rR psR tlR WR := ⟨dkR5, MR.hd, MR.hr, MR.w⟩
        have pn5 := kp5 _ _ pn6 pn4
        have old : ∀ b o, J3 b = none → J4 b = some o → J5 b = some o := fun b o f e => A.s b o (by rintro rfl; obtain ⟨_, _, _, e2⟩ := hp3; rw [f] at e2; cases e2) (by rintro rfl; obtain ⟨_, e2⟩ := MP.dk.o; rw [f] at e2; cases e2) (by rintro rfl; have e2 := MP.dk.k; rw [f] at e2; cases e2) (by rintro rfl; obtain ⟨_, e2, _⟩ := MP.dk.l; rw [f] at e2; cases e2) e
        have vw5 := vw1.monoN old
        have ev5 := old _ _ fv1 ev1
        walk_at "w"
        refine ⟨dR, rR, t, mv, psR, tlR, WR, MR5.dk, g, by omega, nne, pn5, MR5.w, stR.bw, fun pv2 xs2 J6 fv2 sv2 ev2 vw2 => ?_⟩
        refine ⟨⟨pv2, pv1, _, _, rfl, rfl, ev2, sv2 _ _ ev5, prs_VW mref vw2 (vw5.mono sv2)⟩, fun J7 s7 => ?_⟩
        refine way_f ?_
        have s57 := sv2.trans s7
        exact fin _ _ _ _ J7 d2 r2 ps2 _ _ (MP5.mono s57) (MR5.mono s57) (kp5.trans (Kept.same s57)) nd5 nr5 (stP.act nne sP)
    rintro σ J ⟨v1, v11, v12, v13, v14, v15, dA, rA, psA, tlA, WA, dB, rB, psB, tlB, WB, rfl, MA, MB, kp, nd, nr, stA, stB⟩
    have gq5 := (sHk sH4 fX2 kp)
    have clX2 : Cl [a, d1, r1, oa, od, or_] G4 := fun x hx o e => by
      simp only [List.mem_cons, List.not_mem_nil, or_false] at hx
      rcases hx with q | q | q | q | q | q
      · subst q; obtain ⟨_, e2⟩ := M1.dk.o; rw [e2] at e; cases e; exact no_desk
      · subst q; rw [M1.dk.k] at e; cases e; exact no_dk
      · subst q; obtain ⟨_, e2, _⟩ := M1.dk.l; rw [e2] at e; cases e; exact no_lst
      · subst q; obtain ⟨_, e2⟩ := M2.dk.o; rw [e2] at e; cases e; exact no_desk
      · subst q; rw [M2.dk.k] at e; cases e; exact no_dk
      · subst q; obtain ⟨_, e2, _⟩ := M2.dk.l; rw [e2] at e; cases e; exact no_lst
    have leJ := (leG.mono sG4).kept kp clX2 (n6 ea3 leG.o.choose_spec) (n6 ed3 leG.k) (n6 er3 leG.l.choose_spec.1)
    have loJ := (loG.mono sG4).kept kp (n6 lo3 loG.o.choose_spec) (n6 ld3 loG.k)
    have lkJ := (lkG.mono sG4).kept kp (n6 kt3 lkG.o.choose_spec) (n6 kd3 lkG.k)
    have pnJ := kp _ _ pn6 pn4
    have n6J : ∀ {x o}, x ∉ [a, d1, r1] → G x = some o → x ∉ [a, dA, rA] := fun {x o} n e => by
      have m := n6 n e
      have e4 := sG4 _ _ e
      exact nin3 (fun q => n (by simp [q])) (MA.hd.elim (fun h q => m (q ▸ h)) fun f => ne_of_none e4 f) (MA.hr.elim (fun h q => m (q ▸ h)) fun f => ne_of_none e4 f)
    have pnj := n6J pn3 pnG
    have eaj := n6J ea3 leG.o.choose_spec
    have edj := n6J ed3 leG.k
    have erj := n6J er3 leG.l.choose_spec.1
    have loj := n6J lo3 loG.o.choose_spec
    have ldj := n6J ld3 loG.k
    have ktj := n6J kt3 lkG.o.choose_spec
    have kdj := n6J kd3 lkG.k
    have oaj : oa ∉ [a, dA, rA] := nin3 aoa.symm (by rintro rfl; obtain ⟨_, e⟩ := MB.dk.o; rw [MA.dk.k] at e; cases e) (by rintro rfl; obtain ⟨_, e⟩ := MB.dk.o; obtain ⟨_, e2, _⟩ := MA.dk.l; rw [e2] at e; cases e)
    have dBj : dB ∉ [a, dA, rA] := nin3 (by rintro rfl; obtain ⟨_, e⟩ := MA.dk.o; rw [MB.dk.k] at e; cases e) nd.symm (by rintro rfl; obtain ⟨_, e2, _⟩ := MA.dk.l; rw [MB.dk.k] at e2; cases e2)
    have rBj : rB ∉ [a, dA, rA] := nin3 (by rintro rfl; obtain ⟨_, e⟩ := MA.dk.o; obtain ⟨_, e2, _⟩ := MB.dk.l; rw [e2] at e; cases e) (by rintro rfl; obtain ⟨_, e2, _⟩ := MB.dk.l; rw [MA.dk.k] at e2; cases e2) nr.symm
    have fAr : H dA = none ∧ H rA = none := ⟨MA.hd.elim (fX2 _) (free_back sH4), MA.hr.elim (fX2 _) (free_back sH4)⟩
    have dkA := MA.dk
    have hwA := MA.w
    have dkB := MB.dk
    have hwB := MB.w
    have stA' : StOk t (look rows) WA tlA 20 := ⟨stA.tm, Nat.le_trans stA.ln (by omega), stA.un, stA.bw⟩
    have lnB : tlB.length ≤ 20 := Nat.le_trans stB.ln (by omega)
    have unB := stB.un
    have bwB := stB.bw
    have tmB := stB.tm
    clear MA MB kp stA stB M1 M2
    obtain ⟨dxA, oA⟩ := dkA.o
    obtain ⟨dxL, oL⟩ := loJ.o
    have plA : psA.length ≤ 8 := by rw [(perm_somes dkA.nd g.nd dkA.sub hwA).length_eq]; exact Nat.le_trans (somes_len WA t.names) hz
    walk_at "w"
    refine ⟨dxA, _, oA, rfl, ?_⟩
    refine ⟨dA, rA, t, mv, psA, tlA, dkA, g, by omega, fun ca cd cr J1 fc1 fc2 fc3 t1 lc => ?_⟩
    obtain ⟨dxC, oC⟩ := lc.o
    refine ⟨dxC, _, oC, rfl, ?_⟩
    refine ⟨cd, cr, t, mv, _, tlA, lc, g, Nat.le_trans (initP_le t _) (by omega), fun ta td tr J2 ft1 ft2 ft3 t2 ltw => ?_⟩
    have t12 := t1.trans t2
    refine ⟨dxL, _, t12 _ _ oL, rfl, ?_⟩
    refine ⟨ld, rows, loJ.mono t12, fun kk kkd J3 fkk fkkd t3 lkk => ?_⟩
    refine ⟨.ref ta, .ref kk, rfl, ?_⟩
    have t13 := t12.trans t3
    have hwT : ∀ z ∈ t.names, look (initP t ((initP t (psA.mergeSort pLe)).mergeSort pLe)) z = WA z := fun z hz => by
      have nd1 : ((initP t (psA.mergeSort pLe)).map (·.1)).Nodup := lc.nd
      rw [init_look g.nd hz, look_perm (List.mergeSort_perm _ pLe) (((List.mergeSort_perm _ pLe).map _).nodup_iff.mpr nd1) z, init_look g.nd hz, look_perm (List.mergeSort_perm psA pLe) (((List.mergeSort_perm psA pLe).map _).nodup_iff.mpr dkA.nd) z]
      exact hwA z hz
    have dkA3 := dkA.mono t13
    have ltw3 := ltw.mono t3
    have M1 : M78 K J3 J3 [a, dA, rA, ta, td, tr] a t mv dA rA psA tlA WA := ⟨dkA3, .inl (by simp), .inl (by simp), hwA⟩
    have M2 : M78 K J3 J3 [a, dA, rA, ta, td, tr] ta t mv td tr _ tlA WA := ⟨ltw3, .inl (by simp), .inl (by simp), hwT⟩
    have n7 : ∀ {x o}, x ∉ [a, dA, rA] → J x = some o → x ∉ [a, dA, rA, ta, td, tr] := fun {x o} n e => by
      have e1 := t1 _ _ e
      simp only [List.mem_cons, List.not_mem_nil, or_false, not_or] at n ⊢
      exact ⟨n.1, n.2.1, n.2.2, ne_of_none e1 ft1, ne_of_none e1 ft2, ne_of_none e1 ft3⟩
    have kk7 : kk ∉ [a, dA, rA, ta, td, tr] ∧ kkd ∉ [a, dA, rA, ta, td, tr] := by
      have q : ∀ {x}, J2 x = none → x ∉ [a, dA, rA, ta, td, tr] := fun {x} f => by
        simp only [List.mem_cons, List.not_mem_nil, or_false, not_or]
        exact ⟨(ne_of_none (t12 _ _ oA) f).symm, (ne_of_none (t12 _ _ dkA.k) f).symm, (ne_of_none (t12 _ _ dkA.l.choose_spec.1) f).symm, (ne_of_none ltw.o.choose_spec f).symm, (ne_of_none ltw.k f).symm, (ne_of_none ltw.l.choose_spec.1 f).symm⟩
      exact ⟨q fkk, q fkkd⟩
    have sH3 := gq5.trans t13
    have fX3 : ∀ x ∈ [a, dA, rA, ta, td, tr], H x = none := fun x hx => by
      simp only [List.mem_cons, List.not_mem_nil, or_false] at hx
      rcases hx with q | q | q | q | q | q <;> subst q
      · exact faH
      · exact fAr.1
      · exact fAr.2
      · exact free_back (gq5.trans t1) ft1
      · exact free_back (gq5.trans t1) ft2
      · exact free_back (gq5.trans t1) ft3
    have pn7 := n7 pnj pnJ
    have pn3' := t13 _ _ pnJ
    have ata : a ≠ ta := ne_of_none (t1 _ _ oA) ft1
    have dtd : dA ≠ td := ne_of_none (t1 _ _ dkA.k) ft2
    have rtr : rA ≠ tr := ne_of_none (t1 _ _ dkA.l.choose_spec.1) ft3
    walk_at "w"
    refine ⟨by decide, ?_⟩
    refine forw_range (fun i σ G => ∃ v11 dP rP psP dR rR psR tl W, σ = [some (.ref q), v1, some tv, some (.ref pn), some (.ref r), some (.ref lo), some (.ref a), some (.ref kt), some (.ref ea), v9, some (.ref oa), v11, v12, v13, v14, some (.ref kk), some (.ref ta), none, none] ∧
      M78 K J3 G [a, dA, rA, ta, td, tr] a t mv dP rP psP tl W ∧ M78 K J3 G [a, dA, rA, ta, td, tr] ta t mv dR rR psR tl W ∧ Kept [a, dA, rA, ta, td, tr] J3 G ∧ dP ≠ dR ∧ rP ≠ rR ∧ StOk t (look rows) W tl (20 + i))
      ⟨_, dA, rA, psA, td, tr, _, tlA, WA, rfl, M1, M2, Kept.same (Same.refl _), dtd, rtr, stA'⟩ ?_ ?_
    · rintro i σ L hi ⟨v11, dP, rP, psP, dR, rR, psR, tl, W, rfl, MP, MR, kp, ndd, nrr, st⟩
      have sHL := sHk sH3 fX3 kp
      have pnL := kp _ _ pn7 pn3'
      have sln := st.ln
      walk_at "w"
      refine ⟨xs, sHL.seq hq, fun p1 L1 fp1 u1 hp1 => ?_⟩
      have MP1 := MP.mono u1
      have MR1 := MR.mono u1
      have kp1 := kp.trans (Kept.same (X := [a, dA, rA, ta, td, tr]) u1)
      refine ⟨_, dP, rP, t, mv, psP, tl, W, hp1, MP1.dk, g, by omega, nne, u1 _ _ pnL, fun x hx => (st.tm x hx).1, by omega, MP1.w, fun d2 r2 ps2 iv L2 A => ?_⟩
      obtain ⟨MP2, kp2⟩ := MP1.act kp1 (by simp) (late78 kp fp1) A
      obtain ⟨dkR2, nd2, nr2⟩ := rest78 MP1.dk MR1.dk ata.symm ndd.symm nrr.symm hp1 A
      have MR2 : M78 K J3 L2 [a, dA, rA, ta, td, tr] ta t mv dR rR psR tl W := ⟨dkR2, MR.hd, MR.hr, MR.w⟩
      have sHL2 := sHk sH3 fX3 kp2
      have pnL2 := kp2 _ _ pn7 pn3'
      walk_at "w"
      refine ⟨xs, sHL2.seq hq, fun p2 L3 fp2 u3 hp2 => ?_⟩
      have MP3 := MP2.mono u3
      have MR3 := MR2.mono u3
      have kp3 := kp2.trans (Kept.same (X := [a, dA, rA, ta, td, tr]) u3)
      refine ⟨_, dR, rR, t, mv, psR, tl, W, hp2, MR3.dk, g, by omega, nne, u3 _ _ pnL2, fun x hx => (st.tm x hx).1, by omega, MR3.w, fun d3 r3 ps3 iv3 L4 A3 => ?_⟩
      obtain ⟨MR4, kp4⟩ := MR3.act kp3 (by simp) (late78 kp2 fp2) A3
      obtain ⟨dkP4, nd4, nr4⟩ := rest78 MR3.dk MP3.dk ata nd2.symm nr2.symm hp2 A3
      have MP4 : M78 K J3 L4 [a, dA, rA, ta, td, tr] a t mv d2 r2 ps2 _ _ := ⟨dkP4, MP2.hd, MP2.hr, MP2.w⟩
      have st4 := st.act nne (purseF xs (20 + (0 + (i : Int))))
      have pnL4 := kp4 _ _ pn7 pn3'
      walk_at "w"
      refine ⟨d3, r3, t, mv, ps3, _, _, MR4.dk, g, by omega, nne, pnL4, MR4.w, st4.bw, fun pv1 xs1 L5 fv1 sv1 ev1 vw1 => ?_⟩
      refine ⟨d2, r2, t, mv, ps2, _, _, MP4.dk.mono sv1, g, by omega, nne, sv1 _ _ pnL4, MP4.w, st4.bw, fun pv2 xs2 L6 fv2 sv2 ev2 vw2 => ?_⟩
      refine ⟨⟨pv1, pv2, _, _, rfl, rfl, sv2 _ _ ev1, ev2, prs_VW mref (vw1.mono sv2) vw2⟩, fun L7 s7 => ?_⟩
      refine way_f ?_
      have s47 := sv1.trans (sv2.trans s7)
      exact ⟨_, d2, r2, ps2, d3, r3, ps3, _, _, rfl, MP4.mono s47, MR4.mono s47, kp4.trans (Kept.same s47), nd4, nr4, st4⟩
    rintro σ L ⟨v11, dP, rP, psP, dR, rR, psR, tl, W, rfl, MP, MR, kp, ndd, nrr, st⟩
    have sHL := sHk sH3 fX3 kp
    have pnL := kp _ _ pn7 pn3'
    have clX3 : Cl [a, dA, rA, ta, td, tr] J3 := fun x hx o e => by
      simp only [List.mem_cons, List.not_mem_nil, or_false] at hx
      rcases hx with q | q | q | q | q | q
      · subst q; obtain ⟨_, e2⟩ := M1.dk.o; rw [e2] at e; cases e; exact no_desk
      · subst q; rw [M1.dk.k] at e; cases e; exact no_dk
      · subst q; obtain ⟨_, e2, _⟩ := M1.dk.l; rw [e2] at e; cases e; exact no_lst
      · subst q; obtain ⟨_, e2⟩ := M2.dk.o; rw [e2] at e; cases e; exact no_desk
      · subst q; rw [M2.dk.k] at e; cases e; exact no_dk
      · subst q; obtain ⟨_, e2, _⟩ := M2.dk.l; rw [e2] at e; cases e; exact no_lst
    have leL := (leJ.mono t13).kept kp clX3 (n7 eaj leJ.o.choose_spec) (n7 edj leJ.k) (n7 erj leJ.l.choose_spec.1)
    have loL := (loJ.mono t13).kept kp (n7 loj loJ.o.choose_spec) (n7 ldj loJ.k)
    have lkL := (lkJ.mono t13).kept kp (n7 ktj lkJ.o.choose_spec) (n7 kdj lkJ.k)
    have lkkL := lkk.kept kp kk7.1 kk7.2
    have dkBL := (dkB.mono t13).kept kp clX3 (n7 oaj dkB.o.choose_spec) (n7 dBj dkB.k) (n7 rBj dkB.l.choose_spec.1)
    have oata : oa ≠ ta := ne_of_none (t1 _ _ dkB.o.choose_spec) ft1
    have dkP := MP.dk
    have dkR := MR.dk
    have hwP := MP.w
    have hwR := MR.w
    have lnP : tl.length ≤ 40 := Nat.le_trans st.ln (by omega)
    have unP := st.un
    have tmP := st.tm
    clear MP MR kp M1 M2 st
    walk_at "w"
    refine ⟨(by show 3 ≤ sizeLine; decide), fun pl L1 fpl u1 e1 => ?_⟩
    have dat : ∀ b ∈ [a, oa, ta], ∃ db rb psb tlb Wb, DeskAt K L1 b db rb t mv psb tlb ∧ (∀ z ∈ t.names, look psb z = Wb z) ∧ undoW Wb tlb = look rows ∧ (∀ x ∈ tlb, x.1 ∈ t.names) ∧ tlb.length ≤ 40 := fun b hb => by
      simp only [List.mem_cons, List.not_mem_nil, or_false] at hb
      rcases hb with q | q | q <;> subst q
      · exact ⟨_, _, _, _, _, dkP.mono u1, hwP, unP, fun x hx => (tmP x hx).1, lnP⟩
      · exact ⟨_, _, _, _, _, dkBL.mono u1, hwB, unB, fun x hx => (tmB x hx).1, by omega⟩
      · exact ⟨_, _, _, _, _, dkR.mono u1, hwR, unP, fun x hx => (tmP x hx).1, lnP⟩
    have ndl : [a, oa, ta].Nodup := by simp [aoa, ata, oata]
    have clA : ∀ X : List Addr, (∀ x ∈ X, x ∈ [a, oa, ta]) → Cl X L1 := fun X h x hx o e => by
      obtain ⟨_, _, _, _, _, l, _⟩ := dat x (h x hx)
      obtain ⟨_, e2⟩ := l.o
      rw [e2] at e; cases e; exact no_desk
    have ntA : ∀ {x o}, L1 x = some o → (∀ C dx v d r, o ≠ .ins C dx (dkf v d r)) → x ∉ [a, oa, ta] := fun {x o} e n m => by
      obtain ⟨_, _, _, _, _, l, _⟩ := dat x m
      obtain ⟨_, e2⟩ := l.o
      rw [e2] at e; cases e; exact n _ _ _ _ _ rfl
    have lofn : ∀ {C dx d : Addr}, ∀ C' dx' v d' r, HO.ins C dx (lof d) ≠ .ins C' dx' (dkf v d' r) := fun C' dx' v d' r e => by
      injection e with _ _ e
      have := congrArg List.length e
      unfold lof dkf at this; simp at this
    have loL1 := loL.mono u1
    have lkL1 := lkL.mono u1
    have lkkL1 := lkkL.mono u1
    have leL1 := leL.mono u1
    have pnL1 := u1 _ _ pnL
    have eaA : ea ∉ [a, oa, ta] := nin3 (fun q => eaj (by simp [q])) (ne_of_none leG.o.choose_spec fo1) (ne_of_none (t1 _ _ leJ.o.choose_spec) ft1)
    have rpm : rows.Perm (somes (look rows) t.names) := perm_somes rok.nd g.nd rsub fun z _ => rfl
    walk_at "w"
    refine forw_list (xs := [.ref a, .ref oa, .ref ta]) (fun i σ G => ∃ v9 v17, σ = [some (.ref q), v1, some tv, some (.ref pn), some (.ref r), some (.ref lo), some (.ref a), some (.ref kt), some (.ref ea), v9, some (.ref oa), v11, v12, v13, v14, some (.ref kk), some (.ref ta), v17, none] ∧ Kept ([a, oa, ta].take i) L1 G)
      ⟨_, none, rfl, Kept.same (Same.refl _)⟩ (fun i σ G _ ⟨_, _, _, kp⟩ => SqL.of (kp _ _ (fun m => ntA e1 (fun C dx v d r e => by cases e) (List.mem_of_mem_take m)) e1)) ?_ ?_
    · rintro i x σ G hx ⟨v9, v17, rfl, kp⟩
      obtain ⟨b, hb, rfl⟩ : ∃ b, [a, oa, ta][i]? = some b ∧ x = .ref b := by
        match i, hx with
        | 0, hx => exact ⟨a, rfl, (Option.some.inj hx).symm⟩
        | 1, hx => exact ⟨oa, rfl, (Option.some.inj hx).symm⟩
        | 2, hx => exact ⟨ta, rfl, (Option.some.inj hx).symm⟩
        | (n + 3), hx => simp at hx
      have bm := List.mem_of_getElem? hb
      have btk : b ∉ [a, oa, ta].take i := fun m => by
        have e : [a, oa, ta] = [a, oa, ta].take i ++ b :: [a, oa, ta].drop (i + 1) := by
          obtain ⟨hi, e⟩ := List.getElem?_eq_some_iff.mp hb
          rw [← e, List.getElem_cons_drop, List.take_append_drop]
        rw [e, List.nodup_append] at ndl
        exact ndl.2.2 _ m _ (List.mem_cons_self ..) rfl
      have tk : [a, oa, ta].take (i + 1) = [a, oa, ta].take i ++ [b] := by rw [List.take_add_one, hb]; rfl
      obtain ⟨db, rb, psb, tlb, Wb, lb, hwb, unb, tmb, lnb⟩ := dat b bm
      have clk := clA ([a, oa, ta].take i) fun x hx => List.mem_of_mem_take hx
      have lbG := lb.kept kp clk btk (fun m => ntA lb.k (fun C dx v d r e => by cases e) (List.mem_of_mem_take m)) (fun m => ntA lb.l.choose_spec.1 (fun C dx v d r e => by cases e) (List.mem_of_mem_take m))
      have loG' := loL1.kept kp (fun m => ntA loL1.o.choose_spec lofn (List.mem_of_mem_take m)) (fun m => ntA loL1.k (fun C dx v d r e => by cases e) (List.mem_of_mem_take m))
      have pnG' := kp _ _ (fun m => ntA pnL1 (fun C dx v d r e => by cases e) (List.mem_of_mem_take m)) pnL1
      obtain ⟨dxb, ob⟩ := lbG.o
      walk_at "w"
      refine ⟨dxb, _, ob, db, rb, t, mv, psb, tlb, lbG, ?_⟩
      refine ⟨by omega, ?_⟩
      refine forw_range (fun j σ J => ∃ v9 d1 r1 ps tl' W', σ = [some (.ref q), v1, some tv, some (.ref pn), some (.ref r), some (.ref lo), some (.ref a), some (.ref kt), some (.ref ea), v9, some (.ref oa), v11, v12, v13, v14, some (.ref kk), some (.ref ta), some (.ref b), none] ∧
        DeskAt K J b d1 r1 t mv ps tl' ∧ (∀ z ∈ t.names, look ps z = W' z) ∧ undoW W' tl' = look rows ∧ (∀ x ∈ tl', x.1 ∈ t.names) ∧ tl'.length + j = tlb.length ∧ Kept [b] G J) ⟨_, db, rb, psb, tlb, Wb, rfl, lbG, hwb, unb, tmb, rfl, Kept.same (Same.refl _)⟩ ?_ ?_
      · rintro j σ J hj ⟨v9, d1, r1, ps, tl', W', rfl, l, hw, un, tm, hl, kb⟩
        rcases List.eq_nil_or_concat tl' with h0 | ⟨tl2, ⟨z, w'⟩, h0⟩
        · exfalso
          rw [h0] at hl
          simp at hl
          omega
        rw [List.concat_eq_append] at h0
        subst h0
        have zt : z ∈ t.names := tm (z, w') (List.mem_append_right _ (List.mem_singleton.mpr rfl))
        have psl : ps.length ≤ 1000 := by rw [(perm_somes l.nd g.nd l.sub hw).length_eq]; exact Nat.le_trans (somes_len W' t.names) (by omega)
        have pnb : pn ≠ b := by rintro rfl; rw [pnG'] at ob; cases ob
        have pnJ2 := kb _ _ (nin1 pnb) pnG'
        obtain ⟨dxj, oj⟩ := l.o
        walk_at "w"
        refine ⟨dxj, _, oj, rfl, ?_⟩
        refine ⟨d1, r1, t, mv, ps, _, l, psl, fun e => absurd e (by simp), fun tl3 z3 w3 e => ?_⟩
        obtain ⟨rfl, e2⟩ := List.append_inj' e rfl
        cases e2
        refine ⟨zt, fun d2 r2 J6 fd2 fr2 s6 l6 => ?_⟩
        refine ⟨_, Or.inl (SqL.of (s6 _ _ pnb pnJ2)), rfl, flat_strsS _, ?_⟩
        rw [inV_strS, decide_eq_true zt]
        refine way_f ?_
        exact ⟨_, d2, r2, _, tl2, putO W' z w', rfl, l6, look_backP l.nd l6.nd hw, (undoW_snoc ..).symm.trans un, fun x hx => tm x (List.mem_append_left _ hx), by rw [List.length_append] at hl; simp at hl; omega, kb.trans fun c o n e => s6 c o (fun q => n (by simp [q])) e⟩
      rintro σ J ⟨v9, d1, r1, ps, tl', W', rfl, l, hw, un, tm, hl, kb⟩
      have tl0 : tl' = [] := List.length_eq_zero_iff.mp (by omega)
      subst tl0
      have e0 : W' = look rows := un
      subst e0
      have pmb := perm_somes l.nd g.nd l.sub hw
      have psl : ps.length ≤ 1000 := by rw [pmb.length_eq]; exact Nat.le_trans (somes_len _ t.names) (by omega)
      have lob : lo ≠ b := by
        rintro rfl
        obtain ⟨_, e2⟩ := loG'.o
        rw [ob] at e2
        exact lofn _ _ _ _ _ (Option.some.inj e2).symm
      have ldb : ld ≠ b := by rintro rfl; rw [loG'.k] at ob; cases ob
      have loJ := loG'.kept kb (nin1 lob) (nin1 ldb)
      obtain ⟨dxj, oj⟩ := l.o
      walk_at "w"
      refine ⟨dxj, _, oj, rfl, ?_⟩
      refine ⟨d1, r1, t, mv, ps, [], l, psl, fun _ J7 t7 => ?_, fun tl' z w e => absurd e (by simp)⟩
      refine way_f ?_
      have l7 := l.mono t7
      walk_at "w"
      refine ⟨dxj, _, t7 _ _ oj, d1, r1, t, mv, ps, [], l7, g, psl, fun w1 w2 J8 fw1 fw2 t8 m1 => ?_⟩
      have loJ8 := loJ.mono (t7.trans t8)
      obtain ⟨dm1, om1⟩ := m1.o
      obtain ⟨dm2, om2⟩ := loJ8.o
      refine ⟨dm1, _, dm2, _, om1, om2, w2, _, ld, _, m1, loJ8, (List.mergeSort_perm _ _).trans (pmb.trans rpm.symm), ?_⟩
      refine ⟨_, rfl, ?_⟩
      refine way_f ?_
      walk_at "w"
      refine ⟨dxj, _, t8 _ _ (t7 _ _ oj), d1, r1, t, mv, ps, [], l7.mono t8, ?_⟩
      refine way_f ?_
      refine ⟨_, _, rfl, ?_⟩
      rw [tk]
      intro c o n e
      rw [List.mem_append, not_or] at n
      exact t8 _ _ (t7 _ _ (kb c o n.2 (kp c o n.1 e)))
    rintro σ G ⟨v9, v17, rfl, kp⟩
    have kp3 : Kept [a, oa, ta] L1 G := kp
    have cl3 := clA [a, oa, ta] fun x hx => hx
    have lo4 := loL1.kept kp3 (ntA loL1.o.choose_spec lofn) (ntA loL1.k (fun C dx v d r e => by cases e))
    have lk4 := lkL1.kept kp3 (ntA lkL1.o.choose_spec lofn) (ntA lkL1.k (fun C dx v d r e => by cases e))
    have lkk4 := lkkL1.kept kp3 (ntA lkkL1.o.choose_spec lofn) (ntA lkkL1.k (fun C dx v d r e => by cases e))
    have le4 := leL1.kept kp3 cl3 eaA (ntA leL1.k (fun C dx v d r e => by cases e)) (ntA leL1.l.choose_spec.1 (fun C dx v d r e => by cases e))
    have pme : (initP t ((initP t rows).mergeSort pLe)).Perm (somes (look rows) t.names) := perm_somes le4.nd g.nd le4.sub fun z hz => by
      rw [init_look g.nd hz, look_perm (List.mergeSort_perm _ pLe) (((List.mergeSort_perm _ pLe).map _).nodup_iff.mpr la.nd) z, init_look g.nd hz]
    have ple : (initP t ((initP t rows).mergeSort pLe)).length ≤ 1000 := Nat.le_trans (initP_le t _) (by omega)
    obtain ⟨dxe, oe⟩ := le4.o
    walk_at "w"
    refine ⟨dxe, _, oe, ed, er, t, mv, _, [], le4, g, ple, fun w1 w2 G1 fw1 fw2 u2 m1 => ?_⟩
    have lo5 := lo4.mono u2
    obtain ⟨dm1, om1⟩ := m1.o
    obtain ⟨dm2, om2⟩ := lo5.o
    refine ⟨dm1, _, dm2, _, om1, om2, w2, _, ld, _, m1, lo5, (List.mergeSort_perm _ _).trans (pme.trans rpm.symm), ?_⟩
    refine ⟨_, rfl, ?_⟩
    refine way_t ?_
    walk_at "w"
    refine ⟨dxe, _, u2 _ _ oe, ed, er, t, mv, _, [], le4.mono u2, ?_⟩
    refine way_t ?_
    walk_at "w"
    have lk5 := lk4.mono u2
    obtain ⟨dm3, om3⟩ := lk5.o
    refine ⟨dm2, _, dm3, _, om2, om3, ld, _, kd, _, lo5, lk5, (List.mergeSort_perm _ _).symm, ?_⟩
    refine ⟨_, rfl, ?_⟩
    refine way_t ?_
    walk_at "w"
    have lkk5 := lkk4.mono u2
    obtain ⟨dm4, om4⟩ := lkk5.o
    refine ⟨dm2, _, dm4, _, om2, om4, ld, _, kkd, _, lo5, lkk5, (List.mergeSort_perm _ _).symm, ?_⟩
    exact ⟨_, rfl, k G1⟩
  next => exact h.elim
end LW
namespace LW
open PySem PySem.Spec L2 GG
def hAds : List Addr := ([3, 6, 4, 21, 31, 54, 76, 98, 120, 142, 164, 186, 195, 200, 205, 210, 217, 224, 231, 241, 250, 255, 260, 377, 518, 527, 534, 541, 639, 650, 657, 662, 670, 671, 672, 677, 682, 689, 697, 702] : List Addr) ++ ([707, 713, 851, 862, 869, 876, 881, 888, 893, 900, 907, 912, 919, 926, 931, 938, 943, 0, 20, 30, 53, 75, 97, 119, 141, 163, 185, 194, 199, 204, 209, 216, 223, 230, 240, 249, 254, 259, 376, 517] : List Addr) ++ ([526, 533, 540, 638, 649, 656, 661, 669, 663, 676, 681, 688, 696, 690, 701, 706, 712, 708, 850, 861, 868, 875, 880, 887, 892, 899, 906, 911, 918, 925, 930, 937, 942, 15, 16, 17, 18, 19, 29, 32] : List Addr) ++ ([51, 52, 73, 74, 95, 96, 117, 118, 139, 140, 161, 162, 183, 184, 189, 190, 191, 192, 193, 196, 197, 198, 201, 202, 203, 206, 207, 208, 211, 212, 213, 214, 215, 218, 219, 220, 221, 222, 225, 226] : List Addr) ++ ([227, 228, 229, 239, 242, 243, 246, 247, 248, 251, 252, 253, 256, 257, 258, 274, 282, 290, 297, 304, 311, 318, 325, 332, 339, 346, 353, 360, 367, 374, 375, 391, 399, 407, 415, 423, 430, 437, 444, 451] : List Addr) ++ ([458, 463, 470, 475, 480, 487, 494, 501, 508, 515, 516, 521, 522, 523, 524, 525, 528, 529, 530, 531, 532, 535, 536, 537, 538, 539, 554, 561, 568, 575, 582, 589, 596, 603, 610, 615, 622, 629, 636, 637] : List Addr) ++ ([640, 641, 644, 645, 646, 647, 648, 651, 652, 653, 654, 655, 658, 659, 660, 664, 665, 666, 667, 668, 673, 674, 675, 678, 679, 680, 683, 684, 685, 686, 687, 691, 692, 693, 694, 695, 698, 699, 700, 703] : List Addr) ++ ([704, 705, 709, 710, 711, 726, 734, 740, 748, 755, 762, 769, 776, 783, 790, 795, 802, 809, 817, 825, 833, 841, 848, 849, 852, 853, 856, 857, 858, 859, 860, 863, 864, 865, 866, 867, 870, 871, 872, 873] : List Addr) ++ ([874, 877, 878, 879, 882, 883, 884, 885, 886, 889, 890, 891, 894, 895, 896, 897, 898, 901, 902, 903, 904, 905, 908, 909, 910, 913, 914, 915, 916, 917, 920, 921, 922, 923, 924, 927, 928, 929, 932, 933] : List Addr) ++ ([934, 935, 936, 939, 940, 941, 50, 43, 38, 72, 65, 60, 94, 87, 82, 116, 109, 104, 138, 131, 126, 160, 153, 148, 182, 175, 170, 273, 281, 289, 296, 303, 310, 317, 324, 331, 338, 345, 352, 359] : List Addr) ++ ([366, 373, 390, 398, 406, 414, 422, 429, 436, 443, 450, 457, 462, 469, 474, 479, 486, 493, 500, 507, 514, 553, 549, 560, 567, 574, 581, 588, 595, 602, 609, 614, 621, 628, 635, 725, 721, 733, 739, 747] : List Addr) ++ ([754, 761, 768, 775, 782, 789, 794, 801, 808, 816, 810, 824, 818, 832, 826, 840, 834, 847, 45, 46, 47, 48, 49, 67, 68, 69, 70, 71, 89, 90, 91, 92, 93, 111, 112, 113, 114, 115, 133, 134] : List Addr) ++ ([135, 136, 137, 155, 156, 157, 158, 159, 177, 178, 179, 180, 181, 268, 269, 270, 271, 272, 280, 288, 291, 292, 293, 294, 295, 298, 299, 300, 301, 302, 305, 306, 307, 308, 309, 312, 313, 314, 315, 316] : List Addr) ++ ([319, 320, 321, 322, 323, 326, 327, 328, 329, 330, 333, 334, 335, 336, 337, 340, 341, 342, 343, 344, 347, 348, 349, 350, 351, 354, 355, 356, 357, 358, 361, 362, 363, 364, 365, 368, 369, 370, 371, 372] : List Addr) ++ ([387, 388, 389, 397, 405, 413, 421, 424, 425, 426, 427, 428, 431, 432, 433, 434, 435, 438, 439, 440, 441, 442, 445, 446, 447, 448, 449, 452, 453, 454, 455, 456, 459, 460, 461, 464, 465, 466, 467, 468] : List Addr) ++ ([471, 472, 473, 476, 477, 478, 481, 482, 483, 484, 485, 488, 489, 490, 491, 492, 495, 496, 497, 498, 499, 502, 503, 504, 505, 506, 509, 510, 511, 512, 513, 550, 551, 552, 555, 556, 557, 558, 559, 562] : List Addr) ++ ([563, 564, 565, 566, 569, 570, 571, 572, 573, 576, 577, 578, 579, 580, 583, 584, 585, 586, 587, 590, 591, 592, 593, 594, 597, 598, 599, 600, 601, 604, 605, 606, 607, 608, 611, 612, 613, 616, 617, 618] : List Addr) ++ ([619, 620, 623, 624, 625, 626, 627, 630, 631, 632, 633, 634, 722, 723, 724, 732, 738, 746, 749, 750, 751, 752, 753, 756, 757, 758, 759, 760, 763, 764, 765, 766, 767, 770, 771, 772, 773, 774, 777, 778] : List Addr) ++ ([779, 780, 781, 784, 785, 786, 787, 788, 791, 792, 793, 796, 797, 798, 799, 800, 803, 804, 805, 806, 807, 811, 812, 813, 814, 815, 819, 820, 821, 822, 823, 827, 828, 829, 830, 831, 835, 836, 837, 838] : List Addr) ++ ([839, 842, 843, 844, 845, 846, 275, 276, 277, 278, 279, 283, 284, 285, 286, 287, 392, 393, 394, 395, 396, 400, 401, 402, 403, 404, 408, 409, 410, 411, 412, 416, 417, 418, 419, 420, 727, 728, 729, 730] : List Addr) ++ ([731, 735, 736, 737, 741, 742, 743, 744, 745] : List Addr)
def hds0 : List GD := ([⟨fun K => He.ga K "_law_act", "_law_act", "_law_act", defArgs s__law_act, defBody s__law_act, defScope s__law_act, []⟩, ⟨fun K => He.ga K "_law_called", "_law_called", "_law_called", defArgs s__law_called, defBody s__law_called, defScope s__law_called, []⟩, ⟨fun K => He.ga K "_law_draw", "_law_draw", "_law_draw", defArgs s__law_draw, defBody s__law_draw, defScope s__law_draw, []⟩, ⟨fun K => He.ga K "_law_grown", "_law_grown", "_law_grown", defArgs s__law_grown, defBody s__law_grown, defScope s__law_grown, []⟩, ⟨fun K => He.ga K "_law_made", "_law_made", "_law_made", defArgs s__law_made, defBody s__law_made, defScope s__law_made, []⟩, ⟨fun K => He.ga K "_law_names", "_law_names", "_law_names", defArgs s__law_names, defBody s__law_names, defScope s__law_names, []⟩, ⟨fun K => He.ga K "_law_purse", "_law_purse", "_law_purse", defArgs s__law_purse, defBody s__law_purse, defScope s__law_purse, []⟩, ⟨fun K => He.ga K "_law_ranks", "_law_ranks", "_law_ranks", defArgs s__law_ranks, defBody s__law_ranks, defScope s__law_ranks, []⟩, ⟨fun K => He.ga K "_law_split", "_law_split", "_law_split", defArgs s__law_split, defBody s__law_split, defScope s__law_split, []⟩, ⟨fun K => He.ga K "_law_tree", "_law_tree", "_law_tree", defArgs s__law_tree, defBody s__law_tree, defScope s__law_tree, []⟩, ⟨fun K => He.ga K "_law_view", "_law_view", "_law_view", defArgs s__law_view, defBody s__law_view, defScope s__law_view, []⟩, ⟨fun K => He.ga K "_law_width", "_law_width", "_law_width", defArgs s__law_width, defBody s__law_width, defScope s__law_width, []⟩, ⟨fun K => He.ga K "_law_worths", "_law_worths", "_law_worths", defArgs s__law_worths, defBody s__law_worths, defScope s__law_worths, []⟩, ⟨fun K => He.ga K "_wall", "_wall", "_wall", defArgs s__wall, defBody s__wall, defScope s__wall, []⟩, ⟨fun K => He.ga K "are_pairs", "are_pairs", "are_pairs", defArgs s_are_pairs, defBody s_are_pairs, defScope s_are_pairs, []⟩, ⟨fun K => He.ga K "are_parts", "are_parts", "are_parts", defArgs s_are_parts, defBody s_are_parts, defScope s_are_parts, []⟩, ⟨fun K => He.ga K "between", "between", "between", defArgs s_between, defBody s_between, defScope s_between, [.int 1]⟩, ⟨fun K => He.ga K "bound_of", "bound_of", "bound_of", defArgs s_bound_of, defBody s_bound_of, defScope s_bound_of, []⟩, ⟨fun K => He.ga K "can_swing", "can_swing", "can_swing", defArgs s_can_swing, defBody s_can_swing, defScope s_can_swing, []⟩, ⟨fun K => He.ga K "check_end", "check_end", "check_end", defArgs s_check_end, defBody s_check_end, defScope s_check_end, []⟩] : List GD) ++ ([⟨fun K => He.ga K "check_full", "check_full", "check_full", defArgs s_check_full, defBody s_check_full, defScope s_check_full, []⟩, ⟨fun K => He.ga K "check_lot", "check_lot", "check_lot", defArgs s_check_lot, defBody s_check_lot, defScope s_check_lot, []⟩, ⟨fun K => He.ga K "check_name", "check_name", "check_name", defArgs s_check_name, defBody s_check_name, defScope s_check_name, []⟩, ⟨fun K => He.ga K "check_partial", "check_partial", "check_partial", defArgs s_check_partial, defBody s_check_partial, defScope s_check_partial, []⟩, ⟨fun K => He.ga K "check_tree", "check_tree", "check_tree", defArgs s_check_tree, defBody s_check_tree, defScope s_check_tree, []⟩, ⟨fun K => He.ga K "check_whole", "check_whole", "check_whole", defArgs s_check_whole, defBody s_check_whole, defScope s_check_whole, []⟩, ⟨fun K => He.ga K "check_within", "check_within", "check_within", defArgs s_check_within, defBody s_check_within, defScope s_check_within, []⟩, ⟨fun K => He.ga K "end_of", "end_of", "end_of", defArgs s_end_of, defBody s_end_of, defScope s_end_of, [.int 1]⟩, ⟨fun K => He.ga K "gathered", "gathered", "gathered", defArgs s_gathered, defBody s_gathered, defScope s_gathered, []⟩, ⟨fun K => He.ga K "is_ascending", "is_ascending", "is_ascending", defArgs s_is_ascending, defBody s_is_ascending, defScope s_is_ascending, []⟩, ⟨fun K => He.ga K "is_group", "is_group", "is_group", defArgs s_is_group, defBody s_is_group, defScope s_is_group, []⟩, ⟨fun K => He.ga K "is_name", "is_name", "is_name", defArgs s_is_name, defBody s_is_name, defScope s_is_name, []⟩, ⟨fun K => He.ga K "is_whole", "is_whole", "is_whole", defArgs s_is_whole, defBody s_is_whole, defScope s_is_whole, []⟩, ⟨fun K => He.ga K "law", "law", "law", defArgs s_law, defBody s_law, defScope s_law, []⟩, ⟨fun K => He.ga K "matters", "matters", "matters", defArgs s_matters, defBody s_matters, defScope s_matters, [.int 1]⟩, ⟨fun K => He.ga K "swings", "swings", "swings", defArgs s_swings, defBody s_swings, defScope s_swings, []⟩, ⟨fun K => He.ga K "values_of", "values_of", "values_of", defArgs s_values_of, defBody s_values_of, defScope s_values_of, []⟩, ⟨fun K => He.ma K (He.ga K "Leaf") "__init__", "__init__", "Leaf.__init__", defArgs s_Leaf___init__, defBody s_Leaf___init__, defScope s_Leaf___init__, []⟩, ⟨fun K => gt K "Leaf" "name", "name", "Leaf.name", defArgs s_Leaf_name, defBody s_Leaf_name, defScope s_Leaf_name, []⟩, ⟨fun K => gt K "Leaf" "width", "width", "Leaf.width", defArgs s_Leaf_width, defBody s_Leaf_width, defScope s_Leaf_width, []⟩] : List GD) ++ ([⟨fun K => He.ma K (He.ga K "Leaf") "__contains__", "__contains__", "Leaf.__contains__", defArgs s_Leaf___contains__, defBody s_Leaf___contains__, defScope s_Leaf___contains__, []⟩, ⟨fun K => He.ma K (He.ga K "Leaf") "names", "names", "Leaf.names", defArgs s_Leaf_names, defBody s_Leaf_names, defScope s_Leaf_names, []⟩, ⟨fun K => He.ma K (He.ga K "Leaf") "low_ends", "low_ends", "Leaf.low_ends", defArgs s_Leaf_low_ends, defBody s_Leaf_low_ends, defScope s_Leaf_low_ends, []⟩, ⟨fun K => He.ma K (He.ga K "Group") "__init__", "__init__", "Group.__init__", defArgs s_Group___init__, defBody s_Group___init__, defScope s_Group___init__, []⟩, ⟨fun K => gt K "Group" "ranks", "ranks", "Group.ranks", defArgs s_Group_ranks, defBody s_Group_ranks, defScope s_Group_ranks, []⟩, ⟨fun K => gt K "Group" "parts", "parts", "Group.parts", defArgs s_Group_parts, defBody s_Group_parts, defScope s_Group_parts, []⟩, ⟨fun K => gt K "Group" "width", "width", "Group.width", defArgs s_Group_width, defBody s_Group_width, defScope s_Group_width, []⟩, ⟨fun K => He.ma K (He.ga K "Group") "__contains__", "__contains__", "Group.__contains__", defArgs s_Group___contains__, defBody s_Group___contains__, defScope s_Group___contains__, []⟩, ⟨fun K => He.ma K (He.ga K "Group") "names", "names", "Group.names", defArgs s_Group_names, defBody s_Group_names, defScope s_Group_names, []⟩, ⟨fun K => He.ma K (He.ga K "Group") "low_ends", "low_ends", "Group.low_ends", defArgs s_Group_low_ends, defBody s_Group_low_ends, defScope s_Group_low_ends, []⟩, ⟨fun K => He.ma K (He.ga K "Lot") "__init__", "__init__", "Lot.__init__", defArgs s_Lot___init__, defBody s_Lot___init__, defScope s_Lot___init__, [.non]⟩, ⟨fun K => He.ma K (He.ga K "Lot") "__getitem__", "__getitem__", "Lot.__getitem__", defArgs s_Lot___getitem__, defBody s_Lot___getitem__, defScope s_Lot___getitem__, []⟩, ⟨fun K => He.ma K (He.ga K "Lot") "__setitem__", "__setitem__", "Lot.__setitem__", defArgs s_Lot___setitem__, defBody s_Lot___setitem__, defScope s_Lot___setitem__, []⟩, ⟨fun K => He.ma K (He.ga K "Lot") "__contains__", "__contains__", "Lot.__contains__", defArgs s_Lot___contains__, defBody s_Lot___contains__, defScope s_Lot___contains__, []⟩, ⟨fun K => He.ma K (He.ga K "Lot") "__eq__", "__eq__", "Lot.__eq__", defArgs s_Lot___eq__, defBody s_Lot___eq__, defScope s_Lot___eq__, []⟩, ⟨fun K => He.ma K (He.ga K "Lot") "pairs", "pairs", "Lot.pairs", defArgs s_Lot_pairs, defBody s_Lot_pairs, defScope s_Lot_pairs, []⟩, ⟨fun K => He.ma K (He.ga K "Lot") "copy", "copy", "Lot.copy", defArgs s_Lot_copy, defBody s_Lot_copy, defScope s_Lot_copy, []⟩, ⟨fun K => He.ma K (He.ga K "Desk") "__init__", "__init__", "Desk.__init__", defArgs s_Desk___init__, defBody s_Desk___init__, defScope s_Desk___init__, [.non]⟩, ⟨fun K => gt K "Desk" "tree", "tree", "Desk.tree", defArgs s_Desk_tree, defBody s_Desk_tree, defScope s_Desk_tree, []⟩, ⟨fun K => gt K "Desk" "lot", "lot", "Desk.lot", defArgs s_Desk_lot, defBody s_Desk_lot, defScope s_Desk_lot, []⟩] : List GD) ++ ([⟨fun K => gt K "Desk" "made", "made", "Desk.made", defArgs s_Desk_made, defBody s_Desk_made, defScope s_Desk_made, []⟩, ⟨fun K => He.ma K (He.ga K "Desk") "check_leaf", "check_leaf", "Desk.check_leaf", defArgs s_Desk_check_leaf, defBody s_Desk_check_leaf, defScope s_Desk_check_leaf, []⟩, ⟨fun K => He.ma K (He.ga K "Desk") "__len__", "__len__", "Desk.__len__", defArgs s_Desk___len__, defBody s_Desk___len__, defScope s_Desk___len__, []⟩, ⟨fun K => He.ma K (He.ga K "Desk") "__contains__", "__contains__", "Desk.__contains__", defArgs s_Desk___contains__, defBody s_Desk___contains__, defScope s_Desk___contains__, []⟩, ⟨fun K => He.ma K (He.ga K "Desk") "__getitem__", "__getitem__", "Desk.__getitem__", defArgs s_Desk___getitem__, defBody s_Desk___getitem__, defScope s_Desk___getitem__, []⟩, ⟨fun K => He.ma K (He.ga K "Desk") "__setitem__", "__setitem__", "Desk.__setitem__", defArgs s_Desk___setitem__, defBody s_Desk___setitem__, defScope s_Desk___setitem__, []⟩, ⟨fun K => He.ma K (He.ga K "Desk") "without", "without", "Desk.without", defArgs s_Desk_without, defBody s_Desk_without, defScope s_Desk_without, []⟩, ⟨fun K => He.ma K (He.ga K "Desk") "forget", "forget", "Desk.forget", defArgs s_Desk_forget, defBody s_Desk_forget, defScope s_Desk_forget, []⟩, ⟨fun K => He.ma K (He.ga K "Desk") "back", "back", "Desk.back", defArgs s_Desk_back, defBody s_Desk_back, defScope s_Desk_back, []⟩, ⟨fun K => He.ma K (He.ga K "Desk") "between", "between", "Desk.between", defArgs s_Desk_between, defBody s_Desk_between, defScope s_Desk_between, [.int 1]⟩, ⟨fun K => He.ma K (He.ga K "Desk") "matters", "matters", "Desk.matters", defArgs s_Desk_matters, defBody s_Desk_matters, defScope s_Desk_matters, [.int 1]⟩, ⟨fun K => He.ma K (He.ga K "Desk") "end", "end", "Desk.end", defArgs s_Desk_end, defBody s_Desk_end, defScope s_Desk_end, [.int 1]⟩, ⟨fun K => He.ma K (He.ga K "Desk") "what_if", "what_if", "Desk.what_if", defArgs s_Desk_what_if, defBody s_Desk_what_if, defScope s_Desk_what_if, [.int 1]⟩, ⟨fun K => He.ma K (He.ga K "Desk") "copy", "copy", "Desk.copy", defArgs s_Desk_copy, defBody s_Desk_copy, defScope s_Desk_copy, []⟩] : List GD)
def hds : List GD := hds0
def hfa0 : List He.Fa := ([.glo "_law_act", .glo "_law_called", .glo "_law_draw", .glo "_law_grown", .glo "_law_made", .glo "_law_names", .glo "_law_purse", .glo "_law_ranks", .glo "_law_split", .glo "_law_tree", .glo "_law_view", .glo "_law_width", .glo "_law_worths", .glo "_wall", .glo "are_pairs", .glo "are_parts", .glo "between", .glo "bound_of", .glo "can_swing", .glo "check_end"] : List He.Fa) ++ ([.glo "check_full", .glo "check_lot", .glo "check_name", .glo "check_partial", .glo "check_tree", .glo "check_whole", .glo "check_within", .glo "end_of", .glo "gathered", .glo "is_ascending", .glo "is_group", .glo "is_name", .glo "is_whole", .glo "law", .glo "matters", .glo "swings", .glo "values_of", .glo "Tree", .glo "Leaf", .cls "Leaf"] : List He.Fa) ++ ([.meth "Leaf" "__init__", .meth "Leaf" "__contains__", .meth "Leaf" "names", .meth "Leaf" "low_ends", .noat "Leaf" "label", .glo "Group", .cls "Group", .meth "Group" "__init__", .meth "Group" "__contains__", .meth "Group" "names", .meth "Group" "low_ends", .noat "Group" "picks", .noat "Group" "rows", .noat "Group" "taken", .glo "Lot", .cls "Lot", .meth "Lot" "__init__", .meth "Lot" "__getitem__", .meth "Lot" "__setitem__", .meth "Lot" "__contains__"] : List He.Fa) ++ ([.meth "Lot" "__eq__", .meth "Lot" "pairs", .meth "Lot" "copy", .noat "Lot" "worths", .glo "Desk", .cls "Desk", .meth "Desk" "__init__", .meth "Desk" "check_leaf", .meth "Desk" "__len__", .meth "Desk" "__contains__", .meth "Desk" "__getitem__", .meth "Desk" "__setitem__", .meth "Desk" "without", .meth "Desk" "forget", .meth "Desk" "back", .meth "Desk" "between", .meth "Desk" "matters", .meth "Desk" "end", .meth "Desk" "what_if", .meth "Desk" "copy"] : List He.Fa) ++ ([.noat "Desk" "plan", .noat "Desk" "worths", .noat "Desk" "trail", .free "len", .free "sum", .free "min", .free "max", .free "sorted", .free "isinstance", .free "int", .free "list", .free "tuple", .free "str", .free "bool", .free "set", .free "range", .free "enumerate", .free "dict", .glo "between_partial", .glo "matters_partial"] : List He.Fa) ++ ([.str "ALPHABET" "abcdefghijklmnopqrstuvwxyz", .glo "LOW", .glo "HIGH"] : List He.Fa)
def hfa : List He.Fa := hfa0
def hfx0 : List Fx := ([.ins "Tree", .ins "Leaf", .mk "Leaf", .prop "Leaf" "name", .prop "Leaf" "width", .ins "Group", .mk "Group", .prop "Group" "ranks", .prop "Group" "parts", .prop "Group" "width", .ins "Lot", .mk "Lot", .item "Lot" "__getitem__", .nosq "Lot", .ne "Lot", .ins "Desk", .mk "Desk", .prop "Desk" "tree", .prop "Desk" "lot", .prop "Desk" "made"] : List Fx) ++ ([.item "Desk" "__getitem__", .nosq "Desk", .obj "Desk", .kit "Leaf" "Tree" true, .kit "Leaf" "Leaf" true, .kit "Leaf" "Group" false, .kit "Leaf" "Lot" false, .kit "Leaf" "Desk" false, .kit "Group" "Tree" true, .kit "Group" "Leaf" false, .kit "Group" "Group" true, .kit "Group" "Lot" false, .kit "Group" "Desk" false, .kit "Lot" "Tree" false, .kit "Lot" "Leaf" false, .kit "Lot" "Group" false, .kit "Lot" "Lot" true, .kit "Lot" "Desk" false, .kit "Desk" "Tree" false, .kit "Desk" "Leaf" false] : List Fx) ++ ([.kit "Desk" "Group" false, .kit "Desk" "Lot" false, .kit "Desk" "Desk" true, .ali "between_partial" "between", .ali "matters_partial" "matters", .tupl "LOW" [.int 0, .int 0], .tupl "HIGH" [.int 2, .int 0]] : List Fx)
def hfx : List Fx := hfx0
abbrev hR : PySem.W.OpenRow := PySem.W.OpenLaw.row PySem.Challenge.rw_rankpicks_k78_copies_of_desks
abbrev hHk : PySem.W.Hook := hookX hAds hfa hfx hds
def hOb (s : PySem.W.SharedT) : He.AlD := obsX hfa hfx hds (lookX hAds (HandSHeadRun.getT s))
theorem hOb_eq (s : PySem.W.SharedT) : hOb s = hHk.obs s.abs := obsX_eq (HandSHeadRun.getT_eq s)
def hLoose : List PySem.Str := (["_wall", "RankError", "InvalidName", "InvalidNumber", "InvalidTree", "InvalidLot", "InvalidList", "Unknown", "Lacking", "ALPHABET", "is_whole", "is_name", "are_names", "is_ascending", "check_name", "check_whole", "check_within", "Tree", "are_parts", "is_group"] : List PySem.Str) ++ (["check_some", "Leaf", "Group", "check_tree", "check_end", "are_pairs", "Lot", "check_lot", "check_full", "gathered", "end_of", "LOW", "HIGH", "values_of", "bound_of", "check_partial", "between", "between_partial", "swings", "can_swing"] : List PySem.Str) ++ (["matters", "matters_partial", "Desk", "_law_purse", "_law_draw", "_law_called", "_law_split", "_law_ranks", "_law_grown", "_law_width", "_law_names", "_law_made", "_law_worths", "_law_tree", "_law_view", "_law_act"] : List PySem.Str)
theorem three_of {α β γ δ : Type} {o : Option α} {f : α → β} {g : α → γ} {h : α → δ} {a : β} {b : γ} {c : δ} (x : o.map f = some a) (y : o.map g = some b) (z : o.map h = some c) : o.map (fun s => (f s, g s, h s)) = some (a, b, c) := by
  cases o with
  | none => cases x
  | some s => cases x; cases y; cases z; rfl
noncomputable abbrev hEnd (w : World) (os : OsState) : Option PySem.W.SharedT := HandSHeadRun.endF (HandSHeadRun.stepQ (HandSHeadRun.denQ HandSHeadRun.tabQ) hR.prog w) 9000 hR.prog w os
abbrev hV : Program := PySem.W.view hR.prog [63]
theorem hRun1 (w : World) (os : OsState) : (hEnd w os).map (fun s => HandSHeadRun.looksF hR.prog (PySem.W.boot_heap w.params) s.abs) = some true := by kernel_rfl
theorem hRun2 (w : World) (os : OsState) : (hEnd w os).map (fun s => HandSHeadRun.seenQ hV hLoose (PySem.importedModules hR.prog.main.body) (fun s => PySem.W.xlAt hV [] s && PySem.W.recOk hR.toRowW.records s) s.abs) = some (PySem.W.openGood hV hLoose) := by kernel_rfl
abbrev hLook (s : PySem.W.SharedT) : PySem.W.Frag := lookX hAds (HandSHeadRun.getT s)
theorem hRun3 (w : World) (os : OsState) : (hEnd w os).map (fun s => obsX hfa hfx hds (hLook s)) = some (valX hds) := by kernel_rfl
theorem hRun (w : World) : HandSHeadRun.RunEq hR hV hHk hOb 9000 hLoose w := fun os => three_of (hRun1 w os) (hRun2 w os) (hRun3 w os)
theorem top_ok {K : PySem.W.Frag} {h : Heap} {mg : Str → Option Value} (X : K.In h) (G : h.Ns mainGlobals mg) (c : SaysX hfa hfx hds K) : Top K mg where
  f__law_act := by
    obtain ⟨fd, F⟩ := c.d 0
    exact ⟨_, fd, F, He.glo_ok X G (c.a 0 (f := .glo "_law_act")), (FunD.bindsN F fun _ _ _ _ _ _ us hl => match us, hl with | [_, _, _], _ => rfl)⟩
  f__law_called := by
    obtain ⟨fd, F⟩ := c.d 1
    exact ⟨_, fd, F, He.glo_ok X G (c.a 1 (f := .glo "_law_called")), (FunD.bindsN F fun _ _ _ _ _ _ us hl => match us, hl with | [_, _], _ => rfl)⟩
  f__law_draw := by
    obtain ⟨fd, F⟩ := c.d 2
    exact ⟨_, fd, F, He.glo_ok X G (c.a 2 (f := .glo "_law_draw")), (FunD.bindsN F fun _ _ _ _ _ _ us hl => match us, hl with | [_, _], _ => rfl)⟩
  f__law_grown := by
    obtain ⟨fd, F⟩ := c.d 3
    exact ⟨_, fd, F, He.glo_ok X G (c.a 3 (f := .glo "_law_grown")), (FunD.bindsN F fun _ _ _ _ _ _ us hl => match us, hl with | [_, _, _], _ => rfl)⟩
  f__law_made := by
    obtain ⟨fd, F⟩ := c.d 4
    exact ⟨_, fd, F, He.glo_ok X G (c.a 4 (f := .glo "_law_made")), (FunD.bindsN F fun _ _ _ _ _ _ us hl => match us, hl with | [_], _ => rfl)⟩
  f__law_names := by
    obtain ⟨fd, F⟩ := c.d 5
    exact ⟨_, fd, F, He.glo_ok X G (c.a 5 (f := .glo "_law_names")), (FunD.bindsN F fun _ _ _ _ _ _ us hl => match us, hl with | [_], _ => rfl)⟩
  f__law_purse := by
    obtain ⟨fd, F⟩ := c.d 6
    exact ⟨_, fd, F, He.glo_ok X G (c.a 6 (f := .glo "_law_purse")), (FunD.bindsN F fun _ _ _ _ _ _ us hl => match us, hl with | [_, _], _ => rfl)⟩
  f__law_ranks := by
    obtain ⟨fd, F⟩ := c.d 7
    exact ⟨_, fd, F, He.glo_ok X G (c.a 7 (f := .glo "_law_ranks")), (FunD.bindsN F fun _ _ _ _ _ _ us hl => match us, hl with | [_, _, _], _ => rfl)⟩
  f__law_split := by
    obtain ⟨fd, F⟩ := c.d 8
    exact ⟨_, fd, F, He.glo_ok X G (c.a 8 (f := .glo "_law_split")), (FunD.bindsN F fun _ _ _ _ _ _ us hl => match us, hl with | [_, _], _ => rfl)⟩
  f__law_tree := by
    obtain ⟨fd, F⟩ := c.d 9
    exact ⟨_, fd, F, He.glo_ok X G (c.a 9 (f := .glo "_law_tree")), (FunD.bindsN F fun _ _ _ _ _ _ us hl => match us, hl with | [_, _, _], _ => rfl)⟩
  f__law_view := by
    obtain ⟨fd, F⟩ := c.d 10
    exact ⟨_, fd, F, He.glo_ok X G (c.a 10 (f := .glo "_law_view")), (FunD.bindsN F fun _ _ _ _ _ _ us hl => match us, hl with | [_, _], _ => rfl)⟩
  f__law_width := by
    obtain ⟨fd, F⟩ := c.d 11
    exact ⟨_, fd, F, He.glo_ok X G (c.a 11 (f := .glo "_law_width")), (FunD.bindsN F fun _ _ _ _ _ _ us hl => match us, hl with | [_], _ => rfl)⟩
  f__law_worths := by
    obtain ⟨fd, F⟩ := c.d 12
    exact ⟨_, fd, F, He.glo_ok X G (c.a 12 (f := .glo "_law_worths")), (FunD.bindsN F fun _ _ _ _ _ _ us hl => match us, hl with | [_, _], _ => rfl)⟩
  f__wall := by
    obtain ⟨fd, F⟩ := c.d 13
    exact ⟨_, fd, F, He.glo_ok X G (c.a 13 (f := .glo "_wall")), (FunD.bindsN F fun _ _ _ _ _ _ us hl => match us, hl with | [_], _ => rfl)⟩
  f_are_pairs := by
    obtain ⟨fd, F⟩ := c.d 14
    exact ⟨_, fd, F, He.glo_ok X G (c.a 14 (f := .glo "are_pairs")), (FunD.bindsN F fun _ _ _ _ _ _ us hl => match us, hl with | [_], _ => rfl)⟩
  f_are_parts := by
    obtain ⟨fd, F⟩ := c.d 15
    exact ⟨_, fd, F, He.glo_ok X G (c.a 15 (f := .glo "are_parts")), (FunD.bindsN F fun _ _ _ _ _ _ us hl => match us, hl with | [_], _ => rfl)⟩
  f_between := by
    obtain ⟨fd, F⟩ := c.d 16
    exact ⟨_, fd, F, He.glo_ok X G (c.a 16 (f := .glo "between")), (by obtain ⟨ds, v, b⟩ := F.binds1 (ps := ["tree", "lot", "j"]) 3 1 (by simp) rfl fun _ _ _ _ _ _ _ us its hu hi => match us, its, hu, hi with | [_, _, _], [_], _, _ => ⟨_, rfl, rfl⟩; cases v; exact b), (F.binds1 2 0 (by simp) rfl fun _ _ _ _ _ _ _ us its hu hi => match us, its, hu, hi with | [_, _], [_], _, _ => ⟨_, rfl, rfl⟩)⟩
  f_bound_of := by
    obtain ⟨fd, F⟩ := c.d 17
    exact ⟨_, fd, F, He.glo_ok X G (c.a 17 (f := .glo "bound_of")), (FunD.bindsN F fun _ _ _ _ _ _ us hl => match us, hl with | [_, _, _, _], _ => rfl)⟩
  f_can_swing := by
    obtain ⟨fd, F⟩ := c.d 18
    exact ⟨_, fd, F, He.glo_ok X G (c.a 18 (f := .glo "can_swing")), (FunD.bindsN F fun _ _ _ _ _ _ us hl => match us, hl with | [_, _, _, _, _], _ => rfl)⟩
  f_check_end := by
    obtain ⟨fd, F⟩ := c.d 19
    exact ⟨_, fd, F, He.glo_ok X G (c.a 19 (f := .glo "check_end")), (FunD.bindsN F fun _ _ _ _ _ _ us hl => match us, hl with | [_, _], _ => rfl)⟩
  f_check_full := by
    obtain ⟨fd, F⟩ := c.d 20
    exact ⟨_, fd, F, He.glo_ok X G (c.a 20 (f := .glo "check_full")), (FunD.bindsN F fun _ _ _ _ _ _ us hl => match us, hl with | [_, _], _ => rfl)⟩
  f_check_lot := by
    obtain ⟨fd, F⟩ := c.d 21
    exact ⟨_, fd, F, He.glo_ok X G (c.a 21 (f := .glo "check_lot")), (FunD.bindsN F fun _ _ _ _ _ _ us hl => match us, hl with | [_], _ => rfl)⟩
  f_check_name := by
    obtain ⟨fd, F⟩ := c.d 22
    exact ⟨_, fd, F, He.glo_ok X G (c.a 22 (f := .glo "check_name")), (FunD.bindsN F fun _ _ _ _ _ _ us hl => match us, hl with | [_], _ => rfl)⟩
  f_check_partial := by
    obtain ⟨fd, F⟩ := c.d 23
    exact ⟨_, fd, F, He.glo_ok X G (c.a 23 (f := .glo "check_partial")), (FunD.bindsN F fun _ _ _ _ _ _ us hl => match us, hl with | [_, _, _], _ => rfl)⟩
  f_check_tree := by
    obtain ⟨fd, F⟩ := c.d 24
    exact ⟨_, fd, F, He.glo_ok X G (c.a 24 (f := .glo "check_tree")), (FunD.bindsN F fun _ _ _ _ _ _ us hl => match us, hl with | [_], _ => rfl)⟩
  f_check_whole := by
    obtain ⟨fd, F⟩ := c.d 25
    exact ⟨_, fd, F, He.glo_ok X G (c.a 25 (f := .glo "check_whole")), (FunD.bindsN F fun _ _ _ _ _ _ us hl => match us, hl with | [_], _ => rfl)⟩
  f_check_within := by
    obtain ⟨fd, F⟩ := c.d 26
    exact ⟨_, fd, F, He.glo_ok X G (c.a 26 (f := .glo "check_within")), (FunD.bindsN F fun _ _ _ _ _ _ us hl => match us, hl with | [_, _, _], _ => rfl)⟩
  f_end_of := by
    obtain ⟨fd, F⟩ := c.d 27
    exact ⟨_, fd, F, He.glo_ok X G (c.a 27 (f := .glo "end_of")), (by obtain ⟨ds, v, b⟩ := F.binds1 (ps := ["tree", "lot", "j"]) 3 1 (by simp) rfl fun _ _ _ _ _ _ _ us its hu hi => match us, its, hu, hi with | [_, _, _], [_], _, _ => ⟨_, rfl, rfl⟩; cases v; exact b), (F.binds1 2 0 (by simp) rfl fun _ _ _ _ _ _ _ us its hu hi => match us, its, hu, hi with | [_, _], [_], _, _ => ⟨_, rfl, rfl⟩)⟩
  f_gathered := by
    obtain ⟨fd, F⟩ := c.d 28
    exact ⟨_, fd, F, He.glo_ok X G (c.a 28 (f := .glo "gathered")), (FunD.bindsN F fun _ _ _ _ _ _ us hl => match us, hl with | [_, _], _ => rfl)⟩
  f_is_ascending := by
    obtain ⟨fd, F⟩ := c.d 29
    exact ⟨_, fd, F, He.glo_ok X G (c.a 29 (f := .glo "is_ascending")), (FunD.bindsN F fun _ _ _ _ _ _ us hl => match us, hl with | [_], _ => rfl)⟩
  f_is_group := by
    obtain ⟨fd, F⟩ := c.d 30
    exact ⟨_, fd, F, He.glo_ok X G (c.a 30 (f := .glo "is_group")), (FunD.bindsN F fun _ _ _ _ _ _ us hl => match us, hl with | [_, _], _ => rfl)⟩
  f_is_name := by
    obtain ⟨fd, F⟩ := c.d 31
    exact ⟨_, fd, F, He.glo_ok X G (c.a 31 (f := .glo "is_name")), (FunD.bindsN F fun _ _ _ _ _ _ us hl => match us, hl with | [_], _ => rfl)⟩
  f_is_whole := by
    obtain ⟨fd, F⟩ := c.d 32
    exact ⟨_, fd, F, He.glo_ok X G (c.a 32 (f := .glo "is_whole")), (FunD.bindsN F fun _ _ _ _ _ _ us hl => match us, hl with | [_], _ => rfl)⟩
  f_law := by
    obtain ⟨fd, F⟩ := c.d 33
    exact ⟨_, fd, F, He.glo_ok X G (c.a 33 (f := .glo "law")), (FunD.bindsN F fun _ _ _ _ _ _ us hl => match us, hl with | [_], _ => rfl)⟩
  f_matters := by
    obtain ⟨fd, F⟩ := c.d 34
    exact ⟨_, fd, F, He.glo_ok X G (c.a 34 (f := .glo "matters")), (by obtain ⟨ds, v, b⟩ := F.binds1 (ps := ["tree", "lot", "j"]) 3 1 (by simp) rfl fun _ _ _ _ _ _ _ us its hu hi => match us, its, hu, hi with | [_, _, _], [_], _, _ => ⟨_, rfl, rfl⟩; cases v; exact b), (F.binds1 2 0 (by simp) rfl fun _ _ _ _ _ _ _ us its hu hi => match us, its, hu, hi with | [_, _], [_], _, _ => ⟨_, rfl, rfl⟩)⟩
  f_swings := by
    obtain ⟨fd, F⟩ := c.d 35
    exact ⟨_, fd, F, He.glo_ok X G (c.a 35 (f := .glo "swings")), (FunD.bindsN F fun _ _ _ _ _ _ us hl => match us, hl with | [_, _, _, _], _ => rfl)⟩
  f_values_of := by
    obtain ⟨fd, F⟩ := c.d 36
    exact ⟨_, fd, F, He.glo_ok X G (c.a 36 (f := .glo "values_of")), (FunD.bindsN F fun _ _ _ _ _ _ us hl => match us, hl with | [_, _], _ => rfl)⟩
  c_Tree := He.glo_ok X G (c.a 37 (f := .glo "Tree"))
  i_Tree := ins_ok (c.x 0 (f := .ins "Tree"))
  c_Leaf := He.glo_ok X G (c.a 38 (f := .glo "Leaf"))
  i_Leaf := ins_ok (c.x 1 (f := .ins "Leaf"))
  m_Leaf___init__ := by
    obtain ⟨fd, F⟩ := c.d 37
    exact ⟨_, fd, F, He.cls_ok (c.a 39 (f := .cls "Leaf")), He.meth_ok (c.a 40 (f := .meth "Leaf" "__init__")), (FunD.bindsN F fun _ _ _ _ _ _ us hl => match us, hl with | [_, _], _ => rfl)⟩
  k_Leaf := mkc_ok (c.x 2 (f := .mk "Leaf"))
  m_Leaf_name := by
    obtain ⟨fd, F⟩ := c.d 38
    exact ⟨_, _, fd, F, He.cls_ok (c.a 39 (f := .cls "Leaf")), prop_ok (c.x 3 (f := .prop "Leaf" "name")), (FunD.bindsN F fun _ _ _ _ _ _ us hl => match us, hl with | [_], _ => rfl)⟩
  m_Leaf_width := by
    obtain ⟨fd, F⟩ := c.d 39
    exact ⟨_, _, fd, F, He.cls_ok (c.a 39 (f := .cls "Leaf")), prop_ok (c.x 4 (f := .prop "Leaf" "width")), (FunD.bindsN F fun _ _ _ _ _ _ us hl => match us, hl with | [_], _ => rfl)⟩
  m_Leaf___contains__ := by
    obtain ⟨fd, F⟩ := c.d 40
    exact ⟨_, fd, F, He.cls_ok (c.a 39 (f := .cls "Leaf")), He.meth_ok (c.a 41 (f := .meth "Leaf" "__contains__")), (FunD.bindsN F fun _ _ _ _ _ _ us hl => match us, hl with | [_, _], _ => rfl)⟩
  m_Leaf_names := by
    obtain ⟨fd, F⟩ := c.d 41
    exact ⟨_, fd, F, He.cls_ok (c.a 39 (f := .cls "Leaf")), He.meth_ok (c.a 42 (f := .meth "Leaf" "names")), (FunD.bindsN F fun _ _ _ _ _ _ us hl => match us, hl with | [_], _ => rfl)⟩
  m_Leaf_low_ends := by
    obtain ⟨fd, F⟩ := c.d 42
    exact ⟨_, fd, F, He.cls_ok (c.a 39 (f := .cls "Leaf")), He.meth_ok (c.a 43 (f := .meth "Leaf" "low_ends")), (FunD.bindsN F fun _ _ _ _ _ _ us hl => match us, hl with | [_, _], _ => rfl)⟩
  n_Leaf_label := He.noat_ok (c.a 44 (f := .noat "Leaf" "label"))
  c_Group := He.glo_ok X G (c.a 45 (f := .glo "Group"))
  i_Group := ins_ok (c.x 5 (f := .ins "Group"))
  m_Group___init__ := by
    obtain ⟨fd, F⟩ := c.d 43
    exact ⟨_, fd, F, He.cls_ok (c.a 46 (f := .cls "Group")), He.meth_ok (c.a 47 (f := .meth "Group" "__init__")), (FunD.bindsN F fun _ _ _ _ _ _ us hl => match us, hl with | [_, _, _], _ => rfl)⟩
  k_Group := mkc_ok (c.x 6 (f := .mk "Group"))
  m_Group_ranks := by
    obtain ⟨fd, F⟩ := c.d 44
    exact ⟨_, _, fd, F, He.cls_ok (c.a 46 (f := .cls "Group")), prop_ok (c.x 7 (f := .prop "Group" "ranks")), (FunD.bindsN F fun _ _ _ _ _ _ us hl => match us, hl with | [_], _ => rfl)⟩
  m_Group_parts := by
    obtain ⟨fd, F⟩ := c.d 45
    exact ⟨_, _, fd, F, He.cls_ok (c.a 46 (f := .cls "Group")), prop_ok (c.x 8 (f := .prop "Group" "parts")), (FunD.bindsN F fun _ _ _ _ _ _ us hl => match us, hl with | [_], _ => rfl)⟩
  m_Group_width := by
    obtain ⟨fd, F⟩ := c.d 46
    exact ⟨_, _, fd, F, He.cls_ok (c.a 46 (f := .cls "Group")), prop_ok (c.x 9 (f := .prop "Group" "width")), (FunD.bindsN F fun _ _ _ _ _ _ us hl => match us, hl with | [_], _ => rfl)⟩
  m_Group___contains__ := by
    obtain ⟨fd, F⟩ := c.d 47
    exact ⟨_, fd, F, He.cls_ok (c.a 46 (f := .cls "Group")), He.meth_ok (c.a 48 (f := .meth "Group" "__contains__")), (FunD.bindsN F fun _ _ _ _ _ _ us hl => match us, hl with | [_, _], _ => rfl)⟩
  m_Group_names := by
    obtain ⟨fd, F⟩ := c.d 48
    exact ⟨_, fd, F, He.cls_ok (c.a 46 (f := .cls "Group")), He.meth_ok (c.a 49 (f := .meth "Group" "names")), (FunD.bindsN F fun _ _ _ _ _ _ us hl => match us, hl with | [_], _ => rfl)⟩
  m_Group_low_ends := by
    obtain ⟨fd, F⟩ := c.d 49
    exact ⟨_, fd, F, He.cls_ok (c.a 46 (f := .cls "Group")), He.meth_ok (c.a 50 (f := .meth "Group" "low_ends")), (FunD.bindsN F fun _ _ _ _ _ _ us hl => match us, hl with | [_, _], _ => rfl)⟩
  n_Group_picks := He.noat_ok (c.a 51 (f := .noat "Group" "picks"))
  n_Group_rows := He.noat_ok (c.a 52 (f := .noat "Group" "rows"))
  n_Group_taken := He.noat_ok (c.a 53 (f := .noat "Group" "taken"))
  c_Lot := He.glo_ok X G (c.a 54 (f := .glo "Lot"))
  i_Lot := ins_ok (c.x 10 (f := .ins "Lot"))
  m_Lot___init__ := by
    obtain ⟨fd, F⟩ := c.d 50
    exact ⟨_, fd, F, He.cls_ok (c.a 55 (f := .cls "Lot")), He.meth_ok (c.a 56 (f := .meth "Lot" "__init__")), (by obtain ⟨ds, v, b⟩ := F.binds1 (ps := ["self", "pairs"]) 2 1 (by simp) rfl fun _ _ _ _ _ _ _ us its hu hi => match us, its, hu, hi with | [_, _], [_], _, _ => ⟨_, rfl, rfl⟩; cases v; exact b), (F.binds1 1 0 (by simp) rfl fun _ _ _ _ _ _ _ us its hu hi => match us, its, hu, hi with | [_], [_], _, _ => ⟨_, rfl, rfl⟩)⟩
  k_Lot := mkc_ok (c.x 11 (f := .mk "Lot"))
  t_Lot := item_ok (c.x 12 (f := .item "Lot" "__getitem__"))
  m_Lot___getitem__ := by
    obtain ⟨fd, F⟩ := c.d 51
    exact ⟨_, fd, F, He.cls_ok (c.a 55 (f := .cls "Lot")), He.meth_ok (c.a 57 (f := .meth "Lot" "__getitem__")), (FunD.bindsN F fun _ _ _ _ _ _ us hl => match us, hl with | [_, _], _ => rfl)⟩
  q_Lot := nosq_ok (c.x 13 (f := .nosq "Lot"))
  m_Lot___setitem__ := by
    obtain ⟨fd, F⟩ := c.d 52
    exact ⟨_, fd, F, He.cls_ok (c.a 55 (f := .cls "Lot")), He.meth_ok (c.a 58 (f := .meth "Lot" "__setitem__")), (FunD.bindsN F fun _ _ _ _ _ _ us hl => match us, hl with | [_, _, _], _ => rfl)⟩
  m_Lot___contains__ := by
    obtain ⟨fd, F⟩ := c.d 53
    exact ⟨_, fd, F, He.cls_ok (c.a 55 (f := .cls "Lot")), He.meth_ok (c.a 59 (f := .meth "Lot" "__contains__")), (FunD.bindsN F fun _ _ _ _ _ _ us hl => match us, hl with | [_, _], _ => rfl)⟩
  e_Lot := ne_ok (c.x 14 (f := .ne "Lot"))
  m_Lot___eq__ := by
    obtain ⟨fd, F⟩ := c.d 54
    exact ⟨_, fd, F, He.cls_ok (c.a 55 (f := .cls "Lot")), He.meth_ok (c.a 60 (f := .meth "Lot" "__eq__")), (FunD.bindsN F fun _ _ _ _ _ _ us hl => match us, hl with | [_, _], _ => rfl)⟩
  m_Lot_pairs := by
    obtain ⟨fd, F⟩ := c.d 55
    exact ⟨_, fd, F, He.cls_ok (c.a 55 (f := .cls "Lot")), He.meth_ok (c.a 61 (f := .meth "Lot" "pairs")), (FunD.bindsN F fun _ _ _ _ _ _ us hl => match us, hl with | [_], _ => rfl)⟩
  m_Lot_copy := by
    obtain ⟨fd, F⟩ := c.d 56
    exact ⟨_, fd, F, He.cls_ok (c.a 55 (f := .cls "Lot")), He.meth_ok (c.a 62 (f := .meth "Lot" "copy")), (FunD.bindsN F fun _ _ _ _ _ _ us hl => match us, hl with | [_], _ => rfl)⟩
  n_Lot_worths := He.noat_ok (c.a 63 (f := .noat "Lot" "worths"))
  c_Desk := He.glo_ok X G (c.a 64 (f := .glo "Desk"))
  i_Desk := ins_ok (c.x 15 (f := .ins "Desk"))
  m_Desk___init__ := by
    obtain ⟨fd, F⟩ := c.d 57
    exact ⟨_, fd, F, He.cls_ok (c.a 65 (f := .cls "Desk")), He.meth_ok (c.a 66 (f := .meth "Desk" "__init__")), (by obtain ⟨ds, v, b⟩ := F.binds1 (ps := ["self", "tree", "lot"]) 3 1 (by simp) rfl fun _ _ _ _ _ _ _ us its hu hi => match us, its, hu, hi with | [_, _, _], [_], _, _ => ⟨_, rfl, rfl⟩; cases v; exact b), (F.binds1 2 0 (by simp) rfl fun _ _ _ _ _ _ _ us its hu hi => match us, its, hu, hi with | [_, _], [_], _, _ => ⟨_, rfl, rfl⟩)⟩
  k_Desk := mkc_ok (c.x 16 (f := .mk "Desk"))
  m_Desk_tree := by
    obtain ⟨fd, F⟩ := c.d 58
    exact ⟨_, _, fd, F, He.cls_ok (c.a 65 (f := .cls "Desk")), prop_ok (c.x 17 (f := .prop "Desk" "tree")), (FunD.bindsN F fun _ _ _ _ _ _ us hl => match us, hl with | [_], _ => rfl)⟩
  m_Desk_lot := by
    obtain ⟨fd, F⟩ := c.d 59
    exact ⟨_, _, fd, F, He.cls_ok (c.a 65 (f := .cls "Desk")), prop_ok (c.x 18 (f := .prop "Desk" "lot")), (FunD.bindsN F fun _ _ _ _ _ _ us hl => match us, hl with | [_], _ => rfl)⟩
  m_Desk_made := by
    obtain ⟨fd, F⟩ := c.d 60
    exact ⟨_, _, fd, F, He.cls_ok (c.a 65 (f := .cls "Desk")), prop_ok (c.x 19 (f := .prop "Desk" "made")), (FunD.bindsN F fun _ _ _ _ _ _ us hl => match us, hl with | [_], _ => rfl)⟩
  m_Desk_check_leaf := by
    obtain ⟨fd, F⟩ := c.d 61
    exact ⟨_, fd, F, He.cls_ok (c.a 65 (f := .cls "Desk")), He.meth_ok (c.a 67 (f := .meth "Desk" "check_leaf")), (FunD.bindsN F fun _ _ _ _ _ _ us hl => match us, hl with | [_, _], _ => rfl)⟩
  m_Desk___len__ := by
    obtain ⟨fd, F⟩ := c.d 62
    exact ⟨_, fd, F, He.cls_ok (c.a 65 (f := .cls "Desk")), He.meth_ok (c.a 68 (f := .meth "Desk" "__len__")), (FunD.bindsN F fun _ _ _ _ _ _ us hl => match us, hl with | [_], _ => rfl)⟩
  m_Desk___contains__ := by
    obtain ⟨fd, F⟩ := c.d 63
    exact ⟨_, fd, F, He.cls_ok (c.a 65 (f := .cls "Desk")), He.meth_ok (c.a 69 (f := .meth "Desk" "__contains__")), (FunD.bindsN F fun _ _ _ _ _ _ us hl => match us, hl with | [_, _], _ => rfl)⟩
  t_Desk := item_ok (c.x 20 (f := .item "Desk" "__getitem__"))
  m_Desk___getitem__ := by
    obtain ⟨fd, F⟩ := c.d 64
    exact ⟨_, fd, F, He.cls_ok (c.a 65 (f := .cls "Desk")), He.meth_ok (c.a 70 (f := .meth "Desk" "__getitem__")), (FunD.bindsN F fun _ _ _ _ _ _ us hl => match us, hl with | [_, _], _ => rfl)⟩
  q_Desk := nosq_ok (c.x 21 (f := .nosq "Desk"))
  m_Desk___setitem__ := by
    obtain ⟨fd, F⟩ := c.d 65
    exact ⟨_, fd, F, He.cls_ok (c.a 65 (f := .cls "Desk")), He.meth_ok (c.a 71 (f := .meth "Desk" "__setitem__")), (FunD.bindsN F fun _ _ _ _ _ _ us hl => match us, hl with | [_, _, _], _ => rfl)⟩
  m_Desk_without := by
    obtain ⟨fd, F⟩ := c.d 66
    exact ⟨_, fd, F, He.cls_ok (c.a 65 (f := .cls "Desk")), He.meth_ok (c.a 72 (f := .meth "Desk" "without")), (FunD.bindsN F fun _ _ _ _ _ _ us hl => match us, hl with | [_, _], _ => rfl)⟩
  m_Desk_forget := by
    obtain ⟨fd, F⟩ := c.d 67
    exact ⟨_, fd, F, He.cls_ok (c.a 65 (f := .cls "Desk")), He.meth_ok (c.a 73 (f := .meth "Desk" "forget")), (FunD.bindsN F fun _ _ _ _ _ _ us hl => match us, hl with | [_, _], _ => rfl)⟩
  m_Desk_back := by
    obtain ⟨fd, F⟩ := c.d 68
    exact ⟨_, fd, F, He.cls_ok (c.a 65 (f := .cls "Desk")), He.meth_ok (c.a 74 (f := .meth "Desk" "back")), (FunD.bindsN F fun _ _ _ _ _ _ us hl => match us, hl with | [_], _ => rfl)⟩
  m_Desk_between := by
    obtain ⟨fd, F⟩ := c.d 69
    exact ⟨_, fd, F, He.cls_ok (c.a 65 (f := .cls "Desk")), He.meth_ok (c.a 75 (f := .meth "Desk" "between")), (by obtain ⟨ds, v, b⟩ := F.binds1 (ps := ["self", "j"]) 2 1 (by simp) rfl fun _ _ _ _ _ _ _ us its hu hi => match us, its, hu, hi with | [_, _], [_], _, _ => ⟨_, rfl, rfl⟩; cases v; exact b), (F.binds1 1 0 (by simp) rfl fun _ _ _ _ _ _ _ us its hu hi => match us, its, hu, hi with | [_], [_], _, _ => ⟨_, rfl, rfl⟩)⟩
  m_Desk_matters := by
    obtain ⟨fd, F⟩ := c.d 70
    exact ⟨_, fd, F, He.cls_ok (c.a 65 (f := .cls "Desk")), He.meth_ok (c.a 76 (f := .meth "Desk" "matters")), (by obtain ⟨ds, v, b⟩ := F.binds1 (ps := ["self", "j"]) 2 1 (by simp) rfl fun _ _ _ _ _ _ _ us its hu hi => match us, its, hu, hi with | [_, _], [_], _, _ => ⟨_, rfl, rfl⟩; cases v; exact b), (F.binds1 1 0 (by simp) rfl fun _ _ _ _ _ _ _ us its hu hi => match us, its, hu, hi with | [_], [_], _, _ => ⟨_, rfl, rfl⟩)⟩
  m_Desk_end := by
    obtain ⟨fd, F⟩ := c.d 71
    exact ⟨_, fd, F, He.cls_ok (c.a 65 (f := .cls "Desk")), He.meth_ok (c.a 77 (f := .meth "Desk" "end")), (by obtain ⟨ds, v, b⟩ := F.binds1 (ps := ["self", "j"]) 2 1 (by simp) rfl fun _ _ _ _ _ _ _ us its hu hi => match us, its, hu, hi with | [_, _], [_], _, _ => ⟨_, rfl, rfl⟩; cases v; exact b), (F.binds1 1 0 (by simp) rfl fun _ _ _ _ _ _ _ us its hu hi => match us, its, hu, hi with | [_], [_], _, _ => ⟨_, rfl, rfl⟩)⟩
  m_Desk_what_if := by
    obtain ⟨fd, F⟩ := c.d 72
    exact ⟨_, fd, F, He.cls_ok (c.a 65 (f := .cls "Desk")), He.meth_ok (c.a 78 (f := .meth "Desk" "what_if")), (by obtain ⟨ds, v, b⟩ := F.binds1 (ps := ["self", "name", "worth", "j"]) 4 1 (by simp) rfl fun _ _ _ _ _ _ _ us its hu hi => match us, its, hu, hi with | [_, _, _, _], [_], _, _ => ⟨_, rfl, rfl⟩; cases v; exact b), (F.binds1 3 0 (by simp) rfl fun _ _ _ _ _ _ _ us its hu hi => match us, its, hu, hi with | [_, _, _], [_], _, _ => ⟨_, rfl, rfl⟩)⟩
  m_Desk_copy := by
    obtain ⟨fd, F⟩ := c.d 73
    exact ⟨_, fd, F, He.cls_ok (c.a 65 (f := .cls "Desk")), He.meth_ok (c.a 79 (f := .meth "Desk" "copy")), (FunD.bindsN F fun _ _ _ _ _ _ us hl => match us, hl with | [_], _ => rfl)⟩
  o_Desk := obj_ok (c.x 22 (f := .obj "Desk"))
  n_Desk_plan := He.noat_ok (c.a 80 (f := .noat "Desk" "plan"))
  n_Desk_worths := He.noat_ok (c.a 81 (f := .noat "Desk" "worths"))
  n_Desk_trail := He.noat_ok (c.a 82 (f := .noat "Desk" "trail"))
  kit_Leaf_Tree := kit_ok (c.x 23 (f := .kit "Leaf" "Tree" true))
  kit_Leaf_Leaf := kit_ok (c.x 24 (f := .kit "Leaf" "Leaf" true))
  kit_Leaf_Group := kit_ok (c.x 25 (f := .kit "Leaf" "Group" false))
  kit_Leaf_Lot := kit_ok (c.x 26 (f := .kit "Leaf" "Lot" false))
  kit_Leaf_Desk := kit_ok (c.x 27 (f := .kit "Leaf" "Desk" false))
  kit_Group_Tree := kit_ok (c.x 28 (f := .kit "Group" "Tree" true))
  kit_Group_Leaf := kit_ok (c.x 29 (f := .kit "Group" "Leaf" false))
  kit_Group_Group := kit_ok (c.x 30 (f := .kit "Group" "Group" true))
  kit_Group_Lot := kit_ok (c.x 31 (f := .kit "Group" "Lot" false))
  kit_Group_Desk := kit_ok (c.x 32 (f := .kit "Group" "Desk" false))
  kit_Lot_Tree := kit_ok (c.x 33 (f := .kit "Lot" "Tree" false))
  kit_Lot_Leaf := kit_ok (c.x 34 (f := .kit "Lot" "Leaf" false))
  kit_Lot_Group := kit_ok (c.x 35 (f := .kit "Lot" "Group" false))
  kit_Lot_Lot := kit_ok (c.x 36 (f := .kit "Lot" "Lot" true))
  kit_Lot_Desk := kit_ok (c.x 37 (f := .kit "Lot" "Desk" false))
  kit_Desk_Tree := kit_ok (c.x 38 (f := .kit "Desk" "Tree" false))
  kit_Desk_Leaf := kit_ok (c.x 39 (f := .kit "Desk" "Leaf" false))
  kit_Desk_Group := kit_ok (c.x 40 (f := .kit "Desk" "Group" false))
  kit_Desk_Lot := kit_ok (c.x 41 (f := .kit "Desk" "Lot" false))
  kit_Desk_Desk := kit_ok (c.x 42 (f := .kit "Desk" "Desk" true))
  b_len := He.free_ok X G (c.a 83 (f := .free "len"))
  b_sum := He.free_ok X G (c.a 84 (f := .free "sum"))
  b_min := He.free_ok X G (c.a 85 (f := .free "min"))
  b_max := He.free_ok X G (c.a 86 (f := .free "max"))
  b_sorted := He.free_ok X G (c.a 87 (f := .free "sorted"))
  b_isinstance := He.free_ok X G (c.a 88 (f := .free "isinstance"))
  b_int := He.free_ok X G (c.a 89 (f := .free "int"))
  b_list := He.free_ok X G (c.a 90 (f := .free "list"))
  b_tuple := He.free_ok X G (c.a 91 (f := .free "tuple"))
  b_str := He.free_ok X G (c.a 92 (f := .free "str"))
  b_bool := He.free_ok X G (c.a 93 (f := .free "bool"))
  b_set := He.free_ok X G (c.a 94 (f := .free "set"))
  b_range := He.free_ok X G (c.a 95 (f := .free "range"))
  b_enumerate := He.free_ok X G (c.a 96 (f := .free "enumerate"))
  b_dict := He.free_ok X G (c.a 97 (f := .free "dict"))
  a_between_partial := ali_ok (He.glo_ok X G (c.a 98 (f := .glo "between_partial"))) (He.glo_ok X G (c.a 16 (f := .glo "between"))) (c.x 43 (f := .ali "between_partial" "between"))
  a_matters_partial := ali_ok (He.glo_ok X G (c.a 99 (f := .glo "matters_partial"))) (He.glo_ok X G (c.a 34 (f := .glo "matters"))) (c.x 44 (f := .ali "matters_partial" "matters"))
  g_ALPHABET := He.str_ok X G (c.a 100 (f := .str "ALPHABET" "abcdefghijklmnopqrstuvwxyz"))
  g_LOW := ⟨He.glo_ok X G (c.a 101 (f := .glo "LOW")), fun H => tupl_ok (c.x 45 (f := .tupl "LOW" [.int 0, .int 0])) H⟩
  g_HIGH := ⟨He.glo_ok X G (c.a 102 (f := .glo "HIGH")), fun H => tupl_ok (c.x 46 (f := .tupl "HIGH" [.int 2, .int 0])) H⟩
theorem law_facts {P : Program} {w : World} {K : PySem.W.Frag} {h : Heap} {mg : Str → Option Value} {f : Addr} (X : K.In h) (G : h.Ns mainGlobals mg) (hfa' : mg ("law" : Str) = some (.ref f)) (c : SaysX hfa hfx hds K) :
    ∃ fd : FuncData, (∀ (s : Shared) (v : Value), BindsTo s fd ⟨[v], []⟩ [("script", v)]) ∧ ∀ base : Heap, K.In base → base.Ns mainGlobals mg → FnOk P w K mg base CX0 160 f fd ["script"] (sp_law K) := by
  obtain ⟨f', fd', F', hm', b'⟩ := (top_ok X G c).f_law
  rw [hfa'] at hm'
  cases hm'
  have b := FunD.bindsA (ps := ["script"]) F' fun _ _ _ _ _ _ us hl => match us, hl with | [_], _ => rfl
  exact ⟨fd', fun s v => b s [v] rfl, fun base _ _ => ok_law (top_ok X G c) F'⟩
end LW
open PySem PySem.W PySem.Calls PyProof.Rows
theorem PySem.Challenge.cw_rankpicks_k78_copies_of_desks_holds : PySem.Challenge.rw_rankpicks_k78_copies_of_desks.Holds := by
  w_on; o_law
  refine HandSHeadRun.head_any (r := LW.hR) (q := view LW.hR.prog [63]) (H := LW.hHk) (ob := LW.hOb) (M := 9000) (loose := LW.hLoose) (d := HandSHeadRun.topDef LW.hR.prog 63) (kwd := []) LW.hOb_eq
    (by kernel_rfl) (fun s => by kernel_rfl) LW.hRun (by kernel_rfl) (by kernel_rfl) (by kernel_rfl) (by rfl) (by first | assumption | decide +kernel) (by decide +kernel) ⟨rfl, rfl, rfl, rfl, rfl, by decide +kernel⟩ ?hw ?hc
  case hw => w_witness2
  case hc =>
    refine L2.walk_ofE (l := PySem.Challenge.rw_rankpicks_k78_copies_of_desks) (n := 63) (k := 160) (x := "script") (CX := L2.CX0) rfl (by decide) (by kernel_rfl) ⟨rfl, by decide, by decide⟩ ?F (fun _ _ _ _ z => z)
    intro w mg fa h Y G hmg0
    obtain ⟨K, KX, c⟩ := Y
    have hmg : mg ("law" : PySem.Str) = some (.ref fa) := by
      have e : (HandSHeadRun.topDef LW.hR.prog 63).name = ("law" : PySem.Str) := by kernel_rfl
      rw [← e]; exact hmg0
    obtain ⟨fd, hb, hF⟩ := LW.law_facts (P := (PySem.Challenge.rw_rankpicks_k78_copies_of_desks).prog) (w := w) KX G hmg c
    exact ⟨K, fd, LW.sp_law K, KX, hb, fun H a ns hl _ hS => ⟨ns, hS, fun _ => rfl⟩, hF⟩

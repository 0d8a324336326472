import PyProof.Rows.All
import Wide.All
import OpenK.AllK
import Wide.FinOn
import HandS.ForMost
import HandS.IsInst
import HandS.Property
import HandS.OwnEq
import HandS.SortInts
import HandS.Defaults
import HandS.Walk
import HandS.SetKeys
import HandS.DictComp
import HandS.HeadHook1
import HandS.HeadHook2
import HandS.Strs
import HandS.Style
import HandS.SetBool
import HandS.Dict
import HandS.Small
import HandS.Conv
import HandS.SetFor
import HandS.More
import KE.KOpsOwn
import KE.SortData
import HandS.Iter
import PyProof.Rows.SortWalkRead
import KE.KStateDown
import Lean
import HandS.Ends
import HandS.Words
import HandS.WordsExc
import HandS.Head0
import HandS.Head1
import HandS.Head2
import HandS.HeadEnd
import PySem.Challenge.RW_rankpicks_k75_whole_worths_come_in
set_option Elab.async false
set_option linter.all false
set_option maxRecDepth 100000
set_option maxHeartbeats 0
namespace GG
open PySem PySem.Spec L2
/-! ### readings may be strengthened -/
section
variable {X : Cx}
theorem PEi {e : Expr} {t t' : TE} (h : PE X e t) (i : ∀ σ H Q, t' σ H Q → t σ H Q) : PE X e t' := ⟨fun pins s σ H Q I q => h.run pins s σ H Q I (i σ H Q q)⟩
theorem PTi {e : Expr} {t t' : TT} (h : PT X e t) (i : ∀ σ H Q, t' σ H Q → t σ H Q) : PT X e t' := ⟨fun pins s σ H Q I q => h.run pins s σ H Q I (i σ H Q q)⟩
theorem PWi {e : Expr} {t t' : TT} (h : PW X e t) (i : ∀ σ H Q, t' σ H Q → t σ H Q) : PW X e t' := ⟨fun wh pins s σ H Q I q => h.run wh pins s σ H Q I (i σ H Q q)⟩
theorem PSi {e : Stmt} {t t' : TS} (h : PS X e t) (i : ∀ D σ H, t' D σ H → t D σ H) : PS X e t' := ⟨fun pins s σ H D I q => h.run pins s σ H D I (i D σ H q)⟩
theorem PEor {e : Expr} {t t' : TE} (h : PE X e t) (h' : PE X e t') : PE X e (fun σ H Q => t σ H Q ∨ t' σ H Q) :=
  ⟨fun pins s σ H Q I q => q.elim (h.run pins s σ H Q I) (h'.run pins s σ H Q I)⟩
theorem CallRi {f : Value} {r r' : List V → Hp → VK → Prop} (h : CallR X f r) (i : ∀ xs H Q, r' xs H Q → r xs H Q) : CallR X f r' :=
  fun pins s σ H xs us Q I r0 q => h pins s σ H xs us Q I r0 (i xs H Q q)
end
/-! ### heaps -/
theorem Sm.new {H : Hp} {p : Addr} {o : HO} (h : H p = none) : Same H (upd H p o) := fun b u q => by rw [upd_ne (ne_of_none q h)]; exact q
/-- all but what stands at p -/
def SameX (p : Addr) (H H' : Hp) : Prop := ∀ b o, b ≠ p → H b = some o → H' b = some o
theorem SameX.of {p : Addr} {H H' : Hp} (h : Same H H') : SameX p H H' := fun b o _ e => h b o e
theorem SameX.refl {p : Addr} {H : Hp} : SameX p H H := fun _ _ _ e => e
theorem SameX.trans {p : Addr} {H H1 H2 : Hp} (a : SameX p H H1) (b : SameX p H1 H2) : SameX p H H2 := fun c o n e => b c o n (a c o n e)
theorem SameX.upd {p : Addr} {H : Hp} {o : HO} : SameX p H (upd H p o) := fun b u n e => by rw [upd_ne n]; exact e
theorem SameX.un {p : Addr} {H H1 H2 : Hp} (a : Same H H1) (n : H p = none) (b : SameX p H1 H2) : Same H H2 := fun c o e => b c o (ne_of_none e n) (a c o e)
/-- the heap without what stands at D -/
def off (D : Addr) (H : Hp) : Hp := fun b => if b = D then none else H b
theorem off_at {D b : Addr} {H : Hp} (n : b ≠ D) : off D H b = H b := by unfold off; rw [if_neg n]
theorem off_self {D : Addr} {H : Hp} : off D H D = none := by unfold off; rw [if_pos rfl]
theorem off_some {D b : Addr} {H : Hp} {o : HO} (h : off D H b = some o) : b ≠ D ∧ H b = some o := by
  by_cases e : b = D
  · subst e; rw [off_self] at h; cases h
  · rw [off_at e] at h; exact ⟨e, h⟩
theorem off_same {D : Addr} {H : Hp} : Same (off D H) H := fun b o h => (off_some h).2
theorem off_upd {D : Addr} {H : Hp} {o : HO} : off D (upd H D o) = off D H := by
  funext b
  by_cases e : b = D
  · subst e; rw [off_self, off_self]
  · rw [off_at e, off_at e, upd_ne e]
theorem off_mono {D : Addr} {H H' : Hp} (h : Same H H') : Same (off D H) (off D H') := fun b o e => by
  obtain ⟨n, e⟩ := off_some e
  rw [off_at n]; exact h b o e
theorem off_monoX {D : Addr} {H H' : Hp} (h : SameX D H H') : Same (off D H) (off D H') := fun b o e => by
  obtain ⟨n, e⟩ := off_some e
  rw [off_at n]; exact h b o n e
theorem off_free {D : Addr} {H : Hp} (h : H D = none) : off D H = H := by
  funext b
  by_cases e : b = D
  · subst e; rw [off_self, h]
  · rw [off_at e]
theorem off_from {D : Addr} {H H' : Hp} (h : Same H H') (n : H D = none) : Same H (off D H') := fun b o e => by
  rw [off_at (ne_of_none e n)]; exact h b o e
/-- what is new in H' -/
def fresh (H H' : Hp) : Hp := fun b => match H b with | none => H' b | some _ => none
theorem fresh_some {H H' : Hp} {b : Addr} {o : HO} (h : fresh H H' b = some o) : H b = none ∧ H' b = some o := by
  unfold fresh at h
  cases e : H b with
  | none => rw [e] at h; exact ⟨rfl, h⟩
  | some u => rw [e] at h; cases h
theorem fresh_at {H H' : Hp} {b : Addr} {o : HO} (n : H b = none) (h : H' b = some o) : fresh H H' b = some o := by unfold fresh; rw [n]; exact h
theorem fresh_same {H H' : Hp} : Same (fresh H H') H' := fun b o h => (fresh_some h).2
/-! ### a test's two ways, as one word that stands until it is decided -/
@[irreducible] def way (b : Bool) (A B : Prop) : Prop := if b = true then A else B
theorem way_t {A B : Prop} (h : A) : way true A B := by unfold way; rw [if_pos rfl]; exact h
theorem way_f {A B : Prop} (h : B) : way false A B := by unfold way; rw [if_neg (by decide)]; exact h
theorem way_eq {b : Bool} {A B : Prop} : way b A B = if b = true then A else B := by unfold way; rfl
theorem way_c {b : Bool} {A B : Prop} (h1 : b = true → A) (h2 : b = false → B) : way b A B := by
  cases b
  · exact way_f (h2 rfl)
  · exact way_t (h1 rfl)
theorem way_d {p : Prop} [Decidable p] {A B : Prop} (h1 : p → A) (h2 : ¬ p → B) : way (decide p) A B :=
  way_c (fun h => h1 (of_decide_eq_true h)) fun h => h2 (of_decide_eq_false h)
theorem way_n {b : Bool} {A B : Prop} (h1 : b = false → A) (h2 : b = true → B) : way (!b) A B := by
  cases b
  · exact way_t (h1 rfl)
  · exact way_f (h2 rfl)
theorem way_nd {p : Prop} [Decidable p] {A B : Prop} (h1 : ¬ p → A) (h2 : p → B) : way (!decide p) A B :=
  way_n (fun h => h1 (of_decide_eq_false h)) fun h => h2 (of_decide_eq_true h)
section
variable {X : Cx}
/-! ### names -/
def gVar (i : Nat) : TE := fun σ H Q => match σ[i]? with
  | some (some v) => Q v H
  | _ => False
theorem gv (i : Nat) {x : Str} {pos : Pos} (hN : X.N[i]? = some x := by rfl) (hv : Vis X.env.scope x := by first | exact Or.inl rfl | exact Or.inr (Or.inl rfl) | exact Or.inr (Or.inr rfl)) (hd : (x == ("__debug__" : Str)) = false := by decide)
    (hcd : (x == ("__classdict__" : Str)) = false := by decide) : PE X (.Name x pos) (gVar i) := PEi (pe_var hN hv hd hcd) fun σ H Q h => by
  unfold gVar at h
  split at h
  · rename_i v e
    exact ⟨v, e, h⟩
  · exact h.elim
/-! ### arithmetic -/
def rAddG : R2 := fun x y H Q => match x, y with
  | .int i, .int j => Q (.int (i + j)) H
  | .str a, .str b => a.length + b.length ≤ sizeLine ∧ Q (.str (a ++ b)) H
  | .ref a, .ref b => ∃ xs zs, H a = some (.lst xs) ∧ H b = some (.lst zs) ∧ xs.length + zs.length ≤ sizeLine ∧ ∀ p H', H p = none → Same H H' → H' p = some (.lst (xs ++ zs)) → Q (.ref p) H'
  | _, _ => False
theorem op_addG : OpR X (binaryOp .Add) rAddG := fun pins s σ H x y u v Q I rx ry h => by
  unfold rAddG at h
  split at h
  · exact op_add pins s σ H _ _ u v Q I rx ry ⟨_, _, rfl, rfl, h⟩
  · exact op_add_str pins s σ H _ _ u v Q I rx ry ⟨_, _, rfl, rfl, h.1, h.2⟩
  · obtain ⟨xs, zs, h1, h2, h3, h4⟩ := h
    exact op_cat pins s σ H _ _ u v Q I rx ry ⟨_, _, _, _, rfl, rfl, h1, h2, h3, fun p hp => h4 p _ hp (Sm.new hp) upd_same⟩
  · exact h.elim
def rI1 (C : Int → Int → Prop) (g : Int → Int → V) : R2 := fun x y H Q => match x, y with
  | .int i, .int j => C i j ∧ Q (g i j) H
  | _, _ => False
theorem op_i1 {f : Value → Value → Sem Value} {C : Int → Int → Prop} {g : Int → Int → V} (h : OpR X f (rI C g)) : OpR X f (rI1 C g) := fun pins s σ H x y u v Q I rx ry q => by
  unfold rI1 at q
  split at q
  · exact h pins s σ H _ _ u v Q I rx ry ⟨_, _, rfl, rfl, q.1, q.2⟩
  · exact q.elim
def rI2 (g : Int → Int → V) : R2 := fun x y H Q => match x, y with
  | .int i, .int j => Q (g i j) H
  | _, _ => False
theorem op_i2 {f : Value → Value → Sem Value} {g : Int → Int → V} (h : OpR X f (rI0 g)) : OpR X f (rI2 g) := fun pins s σ H x y u v Q I rx ry q => by
  unfold rI2 at q
  split at q
  · exact h pins s σ H _ _ u v Q I rx ry ⟨_, _, rfl, rfl, q⟩
  · exact q.elim
theorem op_subG : OpR X (binaryOp .Sub) (rI2 fun i j => .int (i - j)) := op_i2 op_sub
theorem op_fdivG : OpR X (binaryOp .FloorDiv) (rI1 CDiv fun i j => .int (i / j)) := op_i1 op_fdiv
theorem op_modG : OpR X (binaryOp .Mod) (rI1 (fun _ j => 0 < j) fun i j => .int (i % j)) := op_i1 op_mod
/-! ### comparisons of scalars -/
def rLtG (fi : Int → Int → Bool) (fs : Str → Str → Bool) : R2 := fun x y H Q => match x, y with
  | .int i, .int j => Q (.bl (fi i j)) H
  | .str i, .str j => Q (.bl (fs i j)) H
  | _, _ => False
theorem op_ltG : OpR X (compareOp .Lt) (rLtG (fun i j => decide (i < j)) fun i j => decide (i.cps.toList < j.cps.toList)) := fun pins s σ H x y u v Q I rx ry q => by
  unfold rLtG at q
  split at q
  · exact op_lt pins s σ H _ _ u v Q I rx ry ⟨_, _, rfl, rfl, q⟩
  · exact op_lt_str pins s σ H _ _ u v Q I rx ry ⟨_, _, rfl, rfl, q⟩
  · exact q.elim
theorem op_leG : OpR X (compareOp .LtE) (rI2 fun i j => .bl (decide (i ≤ j))) := op_i2 op_le
theorem op_gtG : OpR X (compareOp .Gt) (rI2 fun i j => .bl (decide (j < i))) := op_i2 op_gt
theorem op_geG : OpR X (compareOp .GtE) (rI2 fun i j => .bl (decide (j ≤ i))) := op_i2 op_ge
end
end GG
namespace GG
open PySem PySem.Spec L2
section
variable {X : Cx}
/-! ### xs == [], xs != [] whatever stands in xs -/
theorem rc_nil {A : Around} {pins : List (Addr × Obj)} {σ : L2.St} {H : Hp} {s : Shared} {a b : Addr} {xs : List V} {E : Value → Shared → Prop} {Q : Value → Shared → Prop} (I : Inv X pins σ H s) (ha : SqL X.K H a xs) (hb : H b = some (.lst [])) (hu : A.units < cLine)
    (h : Q (.bool xs.isEmpty) s) : wpAny (model X.prog X.w) A (richCompare .Eq (.ref a) (.ref b)) Q E s := by
  obtain ⟨its, r, ⟨o1, n1, e1, c1, d1, q1⟩, z⟩ := I.list ha
  obtain ⟨its2, n2, r2, e2, z2⟩ := I.lst hb
  cases r2
  have L1 : s.heap.IsList a its.toArray := ⟨o1, e1, c1, n1, q1⟩
  have L2' : s.heap.IsList b #[] := ⟨_, e2, rfl, n2, rfl⟩
  cases r with
  | nil => exact SeqAt.RcAt.lists (e := fun _ => true) L1 L2' rfl hu (fun j h1 => by simp at h1) X.prog X.w E Q h
  | cons r0 rs => exact SeqAt.RcAt.lists_lengths L1 L2' (by simp) hu X.prog X.w E Q h
theorem rcne_nil {A : Around} {pins : List (Addr × Obj)} {σ : L2.St} {H : Hp} {s : Shared} {a b : Addr} {xs : List V} {E : Value → Shared → Prop} {Q : Value → Shared → Prop} (I : Inv X pins σ H s) (ha : SqL X.K H a xs) (hb : H b = some (.lst [])) (hu : A.units < cLine)
    (h : Q (.bool !xs.isEmpty) s) : wpAny (model X.prog X.w) A (richCompare .NotEq (.ref a) (.ref b)) Q E s := by
  obtain ⟨its, r, ⟨o1, n1, e1, c1, d1, q1⟩, z⟩ := I.list ha
  obtain ⟨its2, n2, r2, e2, z2⟩ := I.lst hb
  cases r2
  have L1 : s.heap.IsList a its.toArray := ⟨o1, e1, c1, n1, q1⟩
  have L2' : s.heap.IsList b #[] := ⟨_, e2, rfl, n2, rfl⟩
  cases r with
  | nil => exact SeqAt.RcNeAt.lists (e := fun _ => true) L1 L2' rfl hu (fun j h1 => by simp at h1) X.prog X.w E Q h
  | cons r0 rs => exact SeqAt.RcNeAt.lists_lengths L1 L2' (by simp) hu X.prog X.w E Q h
def rEqNil (K : PySem.W.Frag) : R2 := fun x y H Q => ∃ a b xs, x = .ref a ∧ y = .ref b ∧ SqL K H a xs ∧ H b = some (.lst []) ∧ Q (.bl xs.isEmpty) H
def rNeNil (K : PySem.W.Frag) : R2 := fun x y H Q => ∃ a b xs, x = .ref a ∧ y = .ref b ∧ SqL K H a xs ∧ H b = some (.lst []) ∧ Q (.bl (!xs.isEmpty)) H
theorem op_eqNil (hu : X.A.units < cLine) : OpR X (compareOp .Eq) (rEqNil X.K) := by
  intro pins s σ H x y v u Q I rx ry h
  obtain ⟨a, b, xs, rfl, rfl, h1, h2, q⟩ := h
  cases rx; cases ry
  show wpAny _ _ (richCompare .Eq (.ref a) (.ref b)) _ _ _
  exact rc_nil I h1 h2 hu ⟨.bl _, H, I, rfl, q⟩
theorem op_neNil (hu : X.A.units < cLine) : OpR X (compareOp .NotEq) (rNeNil X.K) := by
  intro pins s σ H x y v u Q I rx ry h
  obtain ⟨a, b, xs, rfl, rfl, h1, h2, q⟩ := h
  cases rx; cases ry
  show wpAny _ _ (richCompare .NotEq (.ref a) (.ref b)) _ _ _
  exact rcne_nil I h1 h2 hu ⟨.bl _, H, I, rfl, q⟩
/-! ### ==, != -/
/-- scalars by their constructors; objects: a list beside the empty one, or data -/
def rEqG (K : PySem.W.Frag) (f : Bool → Bool) : R2 := fun x y H Q => match x, y with
  | .ref a, .ref b => (∃ xs, SqL K H a xs ∧ H b = some (.lst []) ∧ Q (.bl (f xs.isEmpty)) H) ∨ (∃ d e, Dp K H (.ref a) d ∧ Dp K H (.ref b) e ∧ SeqAt.shaped d = true ∧ SeqAt.shaped e = true ∧ Q (.bl (f (PyData.eqv d e))) H)
  | .int i, .int j => Q (.bl (f (decide (i = j)))) H
  | .str i, .str j => Q (.bl (f (decide (i = j)))) H
  | .bl i, .bl j => Q (.bl (f (decide (i = j)))) H
  | .non, .non => Q (.bl (f true)) H
  | .non, .int _ => Q (.bl (f false)) H
  | .int _, .non => Q (.bl (f false)) H
  | .non, .str _ => Q (.bl (f false)) H
  | .str _, .non => Q (.bl (f false)) H
  | .int _, .str _ => Q (.bl (f false)) H
  | .str _, .int _ => Q (.bl (f false)) H
  | x, y => ∃ d e, Dp K H x d ∧ Dp K H y e ∧ SeqAt.shaped d = true ∧ SeqAt.shaped e = true ∧ Q (.bl (f (PyData.eqv d e))) H
theorem op_eqG (hu : X.A.units + 64 < cLine) : OpR X (compareOp .Eq) (rEqG X.K fun b => b) := fun pins s σ H x y u v Q I rx ry h => by
  have hu' : X.A.units < cLine := by omega
  unfold rEqG at h
  split at h
  · rcases h with h | h
    · obtain ⟨xs, h1, h2, q⟩ := h
      exact op_eqNil hu' pins s σ H _ _ u v Q I rx ry ⟨_, _, _, rfl, rfl, h1, h2, q⟩
    · exact op_eqD hu pins s σ H _ _ u v Q I rx ry h
  · exact op_eq pins s σ H _ _ u v Q I rx ry ⟨rfl, by rw [show decide (V.int _ = V.int _) = decide (_ = _) from decide_eq_decide.mpr ⟨V.int.inj, congrArg V.int⟩]; exact h⟩
  · exact op_eq pins s σ H _ _ u v Q I rx ry ⟨rfl, by rw [show decide (V.str _ = V.str _) = decide (_ = _) from decide_eq_decide.mpr ⟨V.str.inj, congrArg V.str⟩]; exact h⟩
  · exact op_eq pins s σ H _ _ u v Q I rx ry ⟨rfl, by rw [show decide (V.bl _ = V.bl _) = decide (_ = _) from decide_eq_decide.mpr ⟨V.bl.inj, congrArg V.bl⟩]; exact h⟩
  all_goals first
    | exact op_eq pins s σ H _ _ u v Q I rx ry ⟨rfl, h⟩
    | exact op_eqD hu pins s σ H _ _ u v Q I rx ry h
theorem op_neG (hu : X.A.units + 64 < cLine) : OpR X (compareOp .NotEq) (rEqG X.K fun b => !b) := fun pins s σ H x y u v Q I rx ry h => by
  have hu' : X.A.units < cLine := by omega
  unfold rEqG at h
  split at h
  · rcases h with h | h
    · obtain ⟨xs, h1, h2, q⟩ := h
      exact op_neNil hu' pins s σ H _ _ u v Q I rx ry ⟨_, _, _, rfl, rfl, h1, h2, q⟩
    · exact op_neD hu pins s σ H _ _ u v Q I rx ry h
  · exact op_ne pins s σ H _ _ u v Q I rx ry ⟨rfl, by rw [show decide (V.int _ = V.int _) = decide (_ = _) from decide_eq_decide.mpr ⟨V.int.inj, congrArg V.int⟩]; exact h⟩
  · exact op_ne pins s σ H _ _ u v Q I rx ry ⟨rfl, by rw [show decide (V.str _ = V.str _) = decide (_ = _) from decide_eq_decide.mpr ⟨V.str.inj, congrArg V.str⟩]; exact h⟩
  · exact op_ne pins s σ H _ _ u v Q I rx ry ⟨rfl, by rw [show decide (V.bl _ = V.bl _) = decide (_ = _) from decide_eq_decide.mpr ⟨V.bl.inj, congrArg V.bl⟩]; exact h⟩
  all_goals first
    | exact op_ne pins s σ H _ _ u v Q I rx ry ⟨rfl, h⟩
    | exact op_neD hu pins s σ H _ _ u v Q I rx ry h
end
end GG
namespace GG
open PySem PySem.Spec L2
section
variable {X : Cx}
/-! ### closing a reading under weaker continuations -/
def mcE (t : TE) : TE := fun σ H K => ∃ Q : VK, (∀ v H1, Q v H1 → K v H1) ∧ t σ H Q
def mcT (t : TT) : TT := fun σ H K => ∃ Q : Bool → Hp → Prop, (∀ v H1, Q v H1 → K v H1) ∧ t σ H Q
def mcA (t : TA) : TA := fun σ H K => ∃ Q : List V → Hp → Prop, (∀ v H1, Q v H1 → K v H1) ∧ t σ H Q
theorem PEm {e : Expr} {t : TE} (h : PE X e t) : PE X e (mcE t) := ⟨fun pins s σ H K I ⟨Q, i, q⟩ => thn (h.run pins s σ H Q I q) fun u s' ⟨v, H', I', r, q'⟩ => ⟨v, H', I', r, i v H' q'⟩⟩
theorem PTm {e : Expr} {t : TT} (h : PT X e t) : PT X e (mcT t) := ⟨fun pins s σ H K I ⟨Q, i, q⟩ => thn (h.run pins s σ H Q I q) fun b s' ⟨H', I', q'⟩ => ⟨H', I', i b H' q'⟩⟩
theorem PAm {es : List Expr} {t : TA} (h : PA X es t) : PA X es (mcA t) := ⟨fun pos pins s σ H K I ⟨Q, i, q⟩ => thn (h.run pos pins s σ H Q I q) fun us s' ⟨v, H', I', r, q'⟩ => ⟨v, H', I', r, i v H' q'⟩⟩
/-! ### displays -/
def gLst (t : TA) : TE := fun σ H Q => t σ H fun xs H1 => xs.length ≤ sizeLine ∧ ∀ p H2, H1 p = none → Same H1 H2 → H2 p = some (.lst xs) → Q (.ref p) H2
theorem g_lst {es : List Expr} {t : TA} {pos : Pos} (h : PA X es t) : PE X (.List es pos) (gLst t) :=
  PEi (pe_lst (PAm h)) fun σ H Q q => ⟨_, fun xs H1 r => ⟨r.1, fun p hp => r.2 p _ hp (Sm.new hp) upd_same⟩, q⟩
def gTupD (t : TA) : TE := fun σ H Q => t σ H fun xs H1 => xs.length ≤ sizeLine ∧ ∀ p H2, H1 p = none → Same H1 H2 → H2 p = some (.tup xs) → Q (.ref p) H2
theorem g_tup {es : List Expr} {t : TA} {k : Nat} {pos : Pos} (h : PA X es t) : PE X (.Tuple es k pos) (gTupD t) :=
  PEi (pe_tup (PAm h)) fun σ H Q q => ⟨_, fun xs H1 r => ⟨r.1, fun p hp => r.2 p _ hp (Sm.new hp) upd_same⟩, q⟩
/-! ### tests -/
def gB (t : TE) : TT := fun σ H Q => t σ H fun x H1 => match x with
  | .bl k => Q k H1
  | _ => False
theorem g_val {e : Expr} {te : TE} (h : PE X e te) (he : ∀ whole, isTrue e X.env whole = (do let v ← whole; standAt e.pos; holding [v] (truthy v)) := by intro _; rfl) : PT X e (gB te) :=
  PTi (pt_val (PEm h) he) fun σ H Q q => ⟨_, fun x H1 r => by
    split at r
    · exact ⟨_, rfl, r⟩
    · exact r.elim, q⟩
theorem g_cmp {a b : Expr} {op : CmpOp} {r : R2} {ta tb : TE} {pos : Pos} (ho : OpR X (compareOp op) r) (ha : PE X a ta) (hb : PE X b tb) (hm : behindInMarks op b = false) : PT X (.Compare a [op] [b] pos) (gB (tOp r ta tb)) :=
  PTi (pt_cmpR (r := fun x y H Q => ∃ Q', (∀ v H1, Q' v H1 → Q v H1) ∧ r x y H Q') (fun pins s σ H x y u v K I rx ry ⟨Q, i, q⟩ => thn (ho pins s σ H x y u v Q I rx ry q) fun u s' ⟨v, H', I', r, q'⟩ => ⟨v, H', I', r, i v H' q'⟩) (PEm ha) (PEm hb) hm) fun σ H Q q =>
    ⟨_, fun x H1 r1 => ⟨_, fun y H2 r2 => ⟨_, fun z H3 r3 => by
      split at r3
      · exact ⟨_, rfl, r3⟩
      · exact r3.elim, r2⟩, r1⟩, q⟩
theorem g_cmpV {a b : Expr} {op : CmpOp} {r : R2} {ta tb : TE} {pos : Pos} (ho : OpR X (compareOp op) r) (ha : PE X a ta) (hb : PE X b tb) (hm : behindInMarks op b = false) : PE X (.Compare a [op] [b] pos) (tOp r ta tb) := pe_cmpR ho ha hb hm
def gAnd (t u : TT) : TT := fun σ H Q => t σ H fun c H1 => way c (u σ H1 Q) (Q false H1)
def gOr (t u : TT) : TT := fun σ H Q => t σ H fun c H1 => way c (Q true H1) (u σ H1 Q)
theorem g_and {a b : Expr} {rest : List Expr} {pos : Pos} {t u : TT} (ha : PT X a t) (hb : PW X (.BoolOp .And (b :: rest) pos) u) : PW X (.BoolOp .And (a :: b :: rest) pos) (gAnd t u) :=
  PWi (pw_and (PTm ha) hb) fun σ H Q q => ⟨_, fun c H1 r => by rw [way_eq] at r; exact r, q⟩
theorem g_or {a b : Expr} {rest : List Expr} {pos : Pos} {t u : TT} (ha : PT X a t) (hb : PW X (.BoolOp .Or (b :: rest) pos) u) : PW X (.BoolOp .Or (a :: b :: rest) pos) (gOr t u) :=
  PWi (pw_or (PTm ha) hb) fun σ H Q q => ⟨_, fun c H1 r => by rw [way_eq] at r; exact r, q⟩
/-! ### and, or, not as values -/
def gAndV (ta tb : TE) : TE := fun σ H Q => ta σ H fun x H1 => match x with
  | .bl c => way c (tb σ H1 Q) (Q (.bl false) H1)
  | _ => False
def gOrV (ta tb : TE) : TE := fun σ H Q => ta σ H fun x H1 => match x with
  | .bl c => way c (Q (.bl true) H1) (tb σ H1 Q)
  | _ => False
def gNotV (ta : TE) : TE := fun σ H Q => ta σ H fun x H1 => match x with
  | .bl c => Q (.bl (!c)) H1
  | _ => False
theorem g_andV {a b : Expr} {rest : List Expr} {pos : Pos} {ta tb : TE} (ha : PE X a ta) (hb : PE X (.BoolOp .And (b :: rest) pos) tb) : PE X (.BoolOp .And (a :: b :: rest) pos) (gAndV ta tb) :=
  PEi (pe_and (PEm ha) hb) fun σ H Q q => ⟨_, fun x H1 r => by
    split at r
    · rw [way_eq] at r; exact ⟨_, rfl, r⟩
    · exact r.elim, q⟩
theorem g_orV {a b : Expr} {rest : List Expr} {pos : Pos} {ta tb : TE} (ha : PE X a ta) (hb : PE X (.BoolOp .Or (b :: rest) pos) tb) : PE X (.BoolOp .Or (a :: b :: rest) pos) (gOrV ta tb) :=
  PEi (pe_or (PEm ha) hb) fun σ H Q q => ⟨_, fun x H1 r => by
    split at r
    · rw [way_eq] at r; exact ⟨_, rfl, r⟩
    · exact r.elim, q⟩
theorem g_notV {a : Expr} {pos : Pos} {ta : TE} (ha : PE X a ta) : PE X (.UnaryOp .Not a pos) (gNotV ta) :=
  PEi (pe_not (PEm ha)) fun σ H Q q => ⟨_, fun x H1 r => by
    split at r
    · exact ⟨_, rfl, r⟩
    · exact r.elim, q⟩
def gIfE (t : TT) (ta tb : TE) : TE := fun σ H Q => t σ H fun c H1 => way c (ta σ H1 Q) (tb σ H1 Q)
theorem g_ifE {c a b : Expr} {pos : Pos} {t : TT} {ta tb : TE} (hc : PT X c t) (ha : PE X a ta) (hb : PE X b tb) : PE X (.IfExp c a b pos) (gIfE t ta tb) :=
  PEi (pe_ifExp (PTm hc) ha hb) fun σ H Q q => ⟨_, fun c H1 r => by rw [way_eq] at r; exact r, q⟩
def gIf (t : TT) (u v : TS) : TS := fun D σ H => t σ H fun c H1 => way c (u D σ H1) (v D σ H1)
theorem g_if {c : Expr} {a b : List Stmt} {pos : Pos} {t : TT} {u v : TS} (hc : PT X c t) (ha : PSs X a u) (hb : PSs X b v) : PS X (.If c a b pos) (gIf t u v) :=
  PSi (ps_if (PTm hc) ha hb) fun D σ H q => ⟨_, fun c H1 r => by rw [way_eq] at r; exact r, q⟩
/-! ### a chain of two comparisons -/
def gChain (r r' : R2) (ta tb tc : TE) : TE := fun σ H Q => ta σ H fun x H1 => tb σ H1 fun y H2 => r x y H2 fun z H3 => match z with
  | .bl k => way k (tc σ H3 fun w' H4 => r' y w' H4 Q) (Q (.bl false) H3)
  | _ => False
theorem opm {f : Value → Value → Sem Value} {r : R2} (ho : OpR X f r) : OpR X f (fun x y H Q => ∃ Q', (∀ v H1, Q' v H1 → Q v H1) ∧ r x y H Q') := fun pins s σ H x y u v K I rx ry ⟨Q, i, q⟩ =>
  thn (ho pins s σ H x y u v Q I rx ry q) fun u s' ⟨v, H', I', r, q'⟩ => ⟨v, H', I', r, i v H' q'⟩
theorem g_chainT {a b c : Expr} {op op' : CmpOp} {r r' : R2} {ta tb tc : TE} {pos : Pos} (ho : OpR X (compareOp op) r) (ho' : OpR X (compareOp op') r') (ha : PE X a ta) (hb : PE X b tb) (hc : PE X c tc)
    (hm : lastMarks [op, op'] [b, c] = false := by with_unfolding_all rfl) : PT X (.Compare a [op, op'] [b, c] pos) (gB (gChain r r' ta tb tc)) :=
  PTi (pt_chain (opm ho) (opm ho') (PEm ha) (PEm hb) (PEm hc) hm) fun σ H Q q => ⟨_, fun x H1 r1 => ⟨_, fun y H2 r2 => ⟨_, fun z H3 r3 => by
    split at r3
    · rw [way_eq] at r3
      refine ⟨_, rfl, ?_⟩
      split at r3
      · rename_i hk
        rw [if_pos hk]
        exact ⟨_, fun w' H4 r4 => ⟨_, fun z' H5 r5 => by
          split at r5
          · exact ⟨_, rfl, r5⟩
          · exact r5.elim, r4⟩, r3⟩
      · rename_i hk
        rw [if_neg hk]
        exact ⟨_, rfl, r3⟩
    · exact r3.elim, r2⟩, r1⟩, q⟩
/-! ### places -/
def rIxG (K : PySem.W.Frag) : R2 := fun x y H Q => match x, y with
  | .ref p, .int i => ∃ xs v, (SqL K H p xs ∨ SqT K H p xs) ∧ atI xs i = some v ∧ Q v H
  | .str z, .int i => ∃ c, z.length ≤ sizeLine ∧ atI z.cps.toList i = some c ∧ Q (.str ⟨#[c]⟩) H
  | _, _ => False
theorem ix_G : IxR X (rIxG X.K) := by
  intro value slice pins s σ H x y v u Q I rx ry h hs
  unfold rIxG at h
  split at h
  · obtain ⟨xs, v', h1, h2, h3⟩ := h
    refine ix_seq value slice pins s σ H _ _ v u Q I rx ry ?_ hs
    rcases h1 with h1 | h1
    · exact .inl ⟨_, _, _, _, rfl, rfl, h1, h2, h3⟩
    · exact .inr (.inl ⟨_, _, _, _, rfl, rfl, h1, h2, h3⟩)
  · obtain ⟨c, h1, h2, h3⟩ := h
    exact ix_seq value slice pins s σ H _ _ v u Q I rx ry (.inr (.inr ⟨_, _, _, rfl, rfl, h1, h2, h3⟩)) hs
  · exact h.elim
def rSlG (K : PySem.W.Frag) : V → Option Int → Option Int → Hp → VK → Prop := fun x lo hi H Q => match x with
  | .ref a => ∃ xs, SqL K H a xs ∧ ∀ p H', H p = none → Same H H' → H' p = some (.lst (cutV xs lo hi)) → Q (.ref p) H'
  | .str z => z.length ≤ sizeLine ∧ Q (.str (cutS z lo hi)) H
  | _ => False
theorem sl_G : SlR X (rSlG X.K) := by
  intro pins s σ H x v vl vu lo hi sl Q I rx hs pl pu h
  unfold rSlG at h
  split at h
  · obtain ⟨xs, h1, h2⟩ := h
    exact sl_list pins s σ H _ v vl vu lo hi sl Q I rx hs pl pu ⟨_, _, rfl, h1, fun p hp => h2 p _ hp (Sm.new hp) upd_same⟩
  · exact sl_str pins s σ H _ v vl vu lo hi sl Q I rx hs pl pu ⟨_, rfl, h.1, h.2⟩
  · exact h.elim
/-! ### attributes -/
def gFld (K : PySem.W.Frag) (ta : TE) (f : Str) : TE := fun σ H Q => ta σ H fun x H1 => match x with
  | .ref a => ∃ C dx fs v, H1 a = some (.ins C dx fs) ∧ Cls K C ∧ NoAttr K C f ∧ fs.lookup f = some v ∧ Q v H1
  | _ => False
theorem g_fld {e : Expr} {f : Str} {ta : TE} {pos : Pos} (he : PE X e ta) (hb : attributeBase e f X.env (eval e X.env) = eval e X.env) : PE X (.Attribute e f pos) (gFld X.K ta f) :=
  PEi (pe_fld (PEm he) hb) fun σ H Q q => ⟨_, fun x H1 r => by
    split at r
    · obtain ⟨C, dx, fs, v, r⟩ := r
      exact ⟨_, C, dx, fs, v, rfl, r⟩
    · exact r.elim, q⟩
end
end GG
namespace GG
open PySem PySem.Spec L2
section
variable {X : Cx}
/-! ### built-in functions -/
def rLenG (K : PySem.W.Frag) : List V → Hp → VK → Prop := fun vs H Q => match vs with
  | [.str z] => z.length ≤ sizeLine ∧ Q (.int z.length) H
  | [.ref p] => ∃ xs, (SqL K H p xs ∨ SqT K H p xs) ∧ Q (.int xs.length) H
  | _ => False
theorem c_len : CallR X (.builtin "len") (rLenG X.K) := fun pins s σ H xs us Q I r h => by
  unfold rLenG at h
  split at h
  · exact call_len pins s σ H _ us Q I r ⟨_, _, rfl, ⟨h.1, rfl⟩, h.2⟩
  · obtain ⟨ys, h1, h2⟩ := h
    refine call_len pins s σ H _ us Q I r ⟨_, _, rfl, ?_, h2⟩
    rcases h1 with h1 | h1
    · exact .inl ⟨_, h1, rfl⟩
    · exact .inr ⟨_, h1, rfl⟩
  · exact h.elim
def rSumG (K : PySem.W.Frag) : List V → Hp → VK → Prop := fun vs H Q => match vs with
  | [.ref p] => ∃ ns : List Int, SqL K H p (ns.map V.int) ∧ Q (.int ns.sum) H
  | _ => False
theorem c_sum (hc : X.calm = true) : CallR X (.builtin "sum") (rSumG X.K) := CallRi (cr_sum hc) fun xs H Q h => by
  unfold rSumG at h
  split at h
  · obtain ⟨ns, h1, h2⟩ := h
    exact ⟨_, ns, rfl, h1, h2⟩
  · exact h.elim
def rSortG (K : PySem.W.Frag) : List V → Hp → VK → Prop := fun vs H Q => match vs with
  | [.ref a] => ∃ ns : List Int, SqL K H a (ns.map V.int) ∧ ∀ (ns' : List Int) (p : Addr) (H' : Hp), ns'.Perm ns → ns'.Pairwise (· ≤ ·) → H p = none → Same H H' → H' p = some (.lst (ns'.map V.int)) → Q (.ref p) H'
  | _ => False
theorem c_sorted : CallR X (.builtin "sorted") (rSortG X.K) := CallRi cr_sortedI fun xs H Q h => by
  unfold rSortG at h
  split at h
  · obtain ⟨ns, h1, h2⟩ := h
    exact ⟨_, ns, rfl, h1, fun ns' p a b c => h2 ns' p _ a b c (Sm.new c) upd_same⟩
  · exact h.elim
def rIntG : List V → Hp → VK → Prop := fun vs H Q => match vs with
  | [.int i] => Q (.int i) H
  | [.bl k] => Q (.int (if k = true then 1 else 0)) H
  | _ => False
theorem c_int : CallR X (.type "int") rIntG := CallRi call_int1 fun xs H Q h => by
  unfold rIntG at h
  split at h
  · exact .inl ⟨_, rfl, h⟩
  · exact .inr ⟨_, rfl, h⟩
  · exact h.elim
def rListG (K : PySem.W.Frag) : List V → Hp → VK → Prop := fun vs H Q => match vs with
  | [.ref a] => ∃ xs, (SqL K H a xs ∨ SqT K H a xs) ∧ ∀ (p : Addr) (H' : Hp), H p = none → Same H H' → H' p = some (.lst xs) → Q (.ref p) H'
  | _ => False
theorem c_list : CallR X (.type "list") (rListG X.K) := CallRi call_list_of fun xs H Q h => by
  unfold rListG at h
  split at h
  · obtain ⟨ys, h1, h2⟩ := h
    exact ⟨_, ys, rfl, h1, fun p c => h2 p _ c (Sm.new c) upd_same⟩
  · exact h.elim
def rTupleG (K : PySem.W.Frag) : List V → Hp → VK → Prop := fun vs H Q => match vs with
  | [.ref a] => ∃ xs, SqL K H a xs ∧ ∀ (p : Addr) (H' : Hp), H p = none → Same H H' → H' p = some (.tup xs) → Q (.ref p) H'
  | _ => False
theorem c_tuple : CallR X (.type "tuple") (rTupleG X.K) := CallRi call_tuple_of fun xs H Q h => by
  unfold rTupleG at h
  split at h
  · obtain ⟨ys, h1, h2⟩ := h
    exact ⟨_, ys, rfl, .inl ⟨h1, fun p c => h2 p _ c (Sm.new c) upd_same⟩⟩
  · exact h.elim
/-! ### isinstance -/
/-- isinstance(x, c) answers b -/
def IsT (K : PySem.W.Frag) (H : Hp) (x c : V) (b : Bool) : Prop := ∃ t u, ClsV c u ∧ TyX K H x t ∧ PySem.W.kitOne K t u = some b
def rIsG (K : PySem.W.Frag) : List V → Hp → VK → Prop := fun vs H Q => match vs with
  | [x, c] => ∃ b, IsT K H x c b ∧ Q (.bl b) H
  | _ => False
theorem c_isi : CallR X (.builtin "isinstance") (rIsG X.K) := CallRi call_isi fun xs H Q h => by
  unfold rIsG at h
  split at h
  · obtain ⟨b, ⟨t, u, h1, h2, h3⟩, q⟩ := h
    exact ⟨_, _, t, u, b, rfl, h1, h2, h3, q⟩
  · exact h.elim
section
variable {K : PySem.W.Frag} {H : Hp}
theorem is_ii {i : Int} : IsT K H (.int i) (.ty "int") true := ⟨_, _, .ty _, .base (.int i), kit_ty (by decide +kernel)⟩
theorem is_ib {i : Int} : IsT K H (.int i) (.ty "bool") false := ⟨_, _, .ty _, .base (.int i), kit_ty (by decide +kernel)⟩
theorem is_ss {z : Str} : IsT K H (.str z) (.ty "str") true := ⟨_, _, .ty _, .base (.str z), kit_ty (by decide +kernel)⟩
theorem is_ll {a : Addr} {xs : List V} (e : H a = some (.lst xs)) : IsT K H (.ref a) (.ty "list") true := ⟨_, _, .ty _, .base (.lst e), kit_ty (by decide +kernel)⟩
theorem is_tt {a : Addr} {xs : List V} (e : H a = some (.tup xs)) : IsT K H (.ref a) (.ty "tuple") true := ⟨_, _, .ty _, .base (.tup e), kit_ty (by decide +kernel)⟩
theorem is_ts {a : Addr} {xs : List V} (e : H a = some (.tup xs)) : IsT K H (.ref a) (.ty "str") false := ⟨_, _, .ty _, .base (.tup e), kit_ty (by decide +kernel)⟩
end
/-! ### methods of lists, stores -/
def rAppG : V → List V → Hp → VK → Prop := fun x vs H Q => match x, vs with
  | .ref l, [y] => ∃ xs, H l = some (.lst xs) ∧ xs.length < sizeLine ∧ ∀ H', SameX l H H' → H' l = some (.lst (xs ++ [y])) → Q .non H'
  | _, _ => False
theorem m_append : MtR X "list.append" rAppG := fun pins s σ H x xs v us Q I rx r h => by
  unfold rAppG at h
  split at h
  · obtain ⟨ys, h1, h2, h3⟩ := h
    exact mt_append pins s σ H _ _ v us Q I rx r ⟨_, _, _, rfl, rfl, h1, h2, h3 _ SameX.upd upd_same⟩
  · exact h.elim
def rSetG : V → V → V → Hp → (Hp → Prop) → Prop := fun o i v H Q => match o, i with
  | .ref p, .int k => ∃ xs j, H p = some (.lst xs) ∧ ixN xs.length k = some j ∧ ∀ H', SameX p H H' → H' p = some (.lst (xs.set j v)) → Q H'
  | _, _ => False
theorem s_set : PSet X rSetG := fun pins s σ H o i v ov iv u Q I ro ri rv h => by
  unfold rSetG at h
  split at h
  · obtain ⟨xs, j, h1, h2, h3⟩ := h
    exact set_list pins s σ H _ _ v ov iv u Q I ro ri rv ⟨_, xs, _, j, rfl, rfl, h1, h2, h3 _ SameX.upd upd_same⟩
  · exact h.elim
/-- self.f = e on an instance -/
def gFldS (K : PySem.W.Frag) (ta tv : TE) (f : Str) : TS := fun D σ H => tv σ H fun y H1 => ta σ H1 fun x H2 => match x with
  | .ref a => ∃ C dx fs, H2 a = some (.ins C dx fs) ∧ Cls K C ∧ NoAttr K C f ∧ fs.length < 1000 ∧ ∀ H', SameX a H2 H' → H' a = some (.ins C dx (putF f y fs)) → D.nx σ H'
  | _ => False
theorem g_fldS {o value : Expr} {f : Str} {ta tv : TE} {pos pos' : Pos} (ha : PE X o ta) (hv : PE X value tv) (hs : swapsWith value (some (.Attribute o f pos')) pos.line X.env = pure false) : PS X (.Assign [.Attribute o f pos'] value pos) (gFldS X.K ta tv f) :=
  PSi (ps_fld (PEm ha) (PEm hv) hs) fun D σ H q => ⟨_, fun y H1 r1 => ⟨_, fun x H2 r2 => by
    split at r2
    · obtain ⟨C, dx, fs, h1, h2, h3, h4, h5⟩ := r2
      exact ⟨_, C, dx, fs, rfl, h1, h2, h3, h4, h5 _ SameX.upd upd_same⟩
    · exact r2.elim, r1⟩, q⟩
end
end GG
namespace GG
open PySem PySem.Spec L2
/-! ### own defs by name, methods, classes -/
section
variable (P : Program) (w : World) (K : PySem.W.Frag) (mg : Str → Option Value) (base : Heap)
structure FnN (k : Nat) (x : Str) (dvs : List V) (sp : Sp) : Prop where
  ex : ∃ (f : Addr) (fd : FuncData) (ps : List Str) (ds : List Value), FnOk P w K mg base CX0 k f fd ps sp ∧ mg x = some (.ref f) ∧ PySem.W.keepIn K (.ref f) = true ∧ Binds K fd ps ds ∧ Vals dvs ds
structure MtN (k : Nat) (C : Addr) (m : Str) (dvs : List V) (sp : Sp) : Prop where
  ex : ∃ (f : Addr) (fd : FuncData) (ps : List Str) (ds : List Value), Cls K C ∧ Meth K C m f ∧ FnOk P w K mg base CX0 k f fd ps sp ∧ Binds K fd ps ds ∧ Vals dvs ds
structure MkN (k : Nat) (x : Str) (sp : Sp) : Prop where
  ex : ∃ (C f : Addr) (fd : FuncData) (ps : List Str) (ds : List Value) (dvs : List V) (sp0 : Sp), Mk K C f ∧ FnOk P w K mg base CX0 k f fd ps sp0 ∧ mg x = some (.ref C) ∧ Binds K fd ps ds ∧ Vals dvs ds ∧
    ∀ vs H Q, sp vs H Q E0 → ∀ y dy, H y = none → H dy = none → dy ≠ y → sp0 (.ref y :: (vs ++ dvs)) (upd (upd H dy (.own y)) y (.ins C dy [])) (fun v H2 => v = .non ∧ Q (.ref y) H2) E0
structure PrN (k : Nat) (C : Addr) (f : Str) (sp : Sp) : Prop where
  ex : ∃ (p g : Addr) (fd : FuncData) (ps : List Str), Cls K C ∧ PropOf K C f p g ∧ FnOk P w K mg base CX0 k g fd ps sp ∧ Binds K fd ps []
end
section
variable {X : Cx} {k j : Nat} {x m : Str} {p pos apos : Pos} {e o : Expr} {es : List Expr} {t : TA} {ta : TE} {sp sp2 : Sp} {dvs : List V} {C C2 : Addr}
theorem g_call (c : FnN X.prog X.w X.K X.mg X.base k x dvs sp) (hr : Room j X.A) (hg : Gl X x) (hk : k ≤ j) (ha : PA X (e :: es) t)
    (hdb : (x == ("__debug__" : Str)) = false := by decide) (he : starEach (e :: es) X.env = (false, eval e X.env) :: starEach es X.env := by rfl) (hpl : (backTo pos (starEach es X.env)).any (·.1) = false := by rfl) :
    PE X (.Call (.Name x p) (e :: es) [] pos) (tCall sp dvs E0 t) := by
  obtain ⟨f, fd, ps, ds, F, hm, kp, b, d⟩ := c.ex
  exact pe_call F (hr.mono hk) hg hm kp b d pass0 ha hdb he hpl
theorem g_make (c : MkN X.prog X.w X.K X.mg X.base k x sp) (hr : Room j X.A) (hg : Gl X x) (hk : k + 1 ≤ j) (ha : PA X (e :: es) t)
    (hdb : (x == ("__debug__" : Str)) = false := by decide) (he : starEach (e :: es) X.env = (false, eval e X.env) :: starEach es X.env := by rfl) (hpl : (backTo pos (starEach es X.env)).any (·.1) = false := by rfl) :
    PE X (.Call (.Name x p) (e :: es) [] pos) (fun σ H Q => t σ H fun vs H1 => sp vs H1 Q E0) := by
  obtain ⟨C, f, fd, ps, ds, dvs, sp0, M, F, hm, b, d, i⟩ := c.ex
  exact PEi (pe_make M F (hr.mono hk) hg hm b d pass0 (PAm ha) hdb he hpl) fun σ H Q q => ⟨_, fun vs H1 r => i vs H1 Q r, q⟩
def gMeth (C : Addr) (m : Str) (sp : Sp) (dvs : List V) (ta : TE) (t : TA) : TE := fun σ H Q => ta σ H fun x H1 => match x with
  | .ref a => ∃ dx fs, H1 a = some (.ins C dx fs) ∧ fs.lookup m = none ∧ t σ H1 fun vs H2 => sp (.ref a :: (vs ++ dvs)) H2 Q E0
  | _ => False
theorem g_meth {pl : Sem Bool} (c : MtN X.prog X.w X.K X.mg X.base k C m dvs sp) (hr : Room j X.A) (hk : k ≤ j) (he : PE X o ta) (ha : PA X (e :: es) t)
    (hst : starEach (e :: es) X.env = (false, eval e X.env) :: starEach es X.env := by rfl) (hpl : (backTo pos (starEach es X.env)).any (·.1) = false := by rfl)
    (ht : eval (.Call (.Attribute o m apos) (e :: es) [] pos) X.env = (do
      let ov ← eval o X.env
      standAt apos.atName
      let (f, first) ← holding [ov] (getMethod ov m pl)
      callWith pos f first (backTo pos (starEach (e :: es) X.env)) (backToKw pos (keywordEach [] X.env))) := by rfl) :
    PE X (.Call (.Attribute o m apos) (e :: es) [] pos) (gMeth C m sp dvs ta t) := by
  obtain ⟨f, fd, ps, ds, hc, hm, F, b, d⟩ := c.ex
  exact PEi (pe_meth (pl := pl) (PEm he) hc hm F (hr.mono hk) b d pass0 ha hst hpl ht) fun σ H Q q => ⟨_, fun x H1 r => by
    split at r
    · obtain ⟨dx, fs, r⟩ := r
      exact ⟨_, dx, fs, rfl, r⟩
    · exact r.elim, q⟩
theorem g_meth0 {pl : Sem Bool} (c : MtN X.prog X.w X.K X.mg X.base k C m dvs sp) (hr : Room j X.A) (hk : k ≤ j) (he : PE X o ta)
    (ht : eval (.Call (.Attribute o m apos) [] [] pos) X.env = (do
      let ov ← eval o X.env
      standAt apos.atName
      let (f, first) ← holding [ov] (getMethod ov m pl)
      callWith pos f first (backTo pos (starEach [] X.env)) (backToKw pos (keywordEach [] X.env))) := by rfl) :
    PE X (.Call (.Attribute o m apos) [] [] pos) (gMeth C m sp dvs ta tNil) := by
  obtain ⟨f, fd, ps, ds, hc, hm, F, b, d⟩ := c.ex
  exact PEi (pe_meth0 (pl := pl) (PEm he) hc hm F (hr.mono hk) b d pass0 ht) fun σ H Q q => ⟨_, fun x H1 r => by
    split at r
    · obtain ⟨dx, fs, r⟩ := r
      exact ⟨_, dx, fs, rfl, r⟩
    · exact r.elim, q⟩
def gProp (C : Addr) (sp : Sp) (ta : TE) : TE := fun σ H Q => ta σ H fun x H1 => match x with
  | .ref a => ∃ dx fs, H1 a = some (.ins C dx fs) ∧ sp [.ref a] H1 Q E0
  | _ => False
theorem g_prop {f : Str} (c : PrN X.prog X.w X.K X.mg X.base k C f sp) (hr : Room j X.A) (hk : k + 1 ≤ j) (he : PE X e ta)
    (hab : attributeBase e f X.env (eval e X.env) = eval e X.env) : PE X (.Attribute e f pos) (gProp C sp ta) := by
  obtain ⟨p, g, fd, ps, hc, hp, F, b⟩ := c.ex
  exact PEi (pe_prop (E := E0) (PEm he) hc hp F (hr.mono hk) b .nil pass0 hab) fun σ H Q q => ⟨_, fun x H1 r => by
    split at r
    · obtain ⟨dx, fs, r⟩ := r
      exact ⟨_, dx, fs, rfl, r⟩
    · exact r.elim, q⟩
end
/-! ### comprehensions: one clause, the target a name -/
section
/-- what is asked of a comprehension over the walk J from the heap H1 on -/
@[irreducible] def Comp (J : It) (j : Nat) (tt : TT) (te : TE) (vs : List Nat) (σ : L2.St) (Q : VK) (H1 : Hp) : Prop := ∀ D, H1 D = none → ∃ W : Nat → Nat → Hp → Prop, (∃ m, W 0 m (upd H1 D (.lst []))) ∧ ∀ i m H, W i m H →
  (J.stop i H ∧ Q (.ref D) H) ∨ (J.go i H ∧ ∃ Nx : Hp → Prop, (∀ H', Nx H' → ∃ m', m' < m ∧ W (i + 1) m' H') ∧ ∀ x H', J.yld i H x H' → wipe ((wipe σ vs).set j (some x)) vs = wipe σ vs ∧ tt ((wipe σ vs).set j (some x)) H' fun b H3 =>
    if b = true then te ((wipe σ vs).set j (some x)) H3 fun y H4 => ∃ acc, H4 D = some (.lst acc) ∧ acc.length < sizeLine ∧ Nx (upd H4 D (.lst (acc ++ [y]))) else Nx H3)
variable {J : It} {n : Nat} {Gd : Hp → Prop} {Y : Nat → V → Prop} {j : Nat} {tt : TT} {te : TE} {vs : List Nat} {σ : L2.St} {Q : VK} {H1 : Hp}
/-- F: what holds behind i items of the list acc that was made so far, of the heap without the list that is being made -/
theorem comp_by (w : Walk J n Gd (fun i H x H' => H' = H ∧ Y i x)) (F : Nat → List V → Hp → Prop) (hn : n < sizeLine) (h0 : F 0 [] H1) (hG : ∀ i acc H G, i ≤ n → F i acc G → Same G H → Gd H)
    (hs : ∀ D i x acc H', i < n → Y i x → H1 D = none → H' D = some (.lst acc) → acc.length ≤ i → F i acc (off D H') → wipe ((wipe σ vs).set j (some x)) vs = wipe σ vs ∧
      tt ((wipe σ vs).set j (some x)) H' fun b H3 => way b (te ((wipe σ vs).set j (some x)) H3 fun y H4 => H4 D = some (.lst acc) ∧ F (i + 1) (acc ++ [y]) (off D H4)) (H3 D = some (.lst acc) ∧ F (i + 1) acc (off D H3)))
    (hd : ∀ D H' acc, H1 D = none → H' D = some (.lst acc) → acc.length ≤ n → F n acc (off D H') → Q (.ref D) H')
    (mt : ∀ σ H (Q Q' : Bool → Hp → Prop), (∀ b H1, Q b H1 → Q' b H1) → tt σ H Q → tt σ H Q') (me : ∀ σ H (Q Q' : VK), (∀ v H1, Q v H1 → Q' v H1) → te σ H Q → te σ H Q') : Comp J j tt te vs σ Q H1 := by
  unfold Comp
  intro D hD
  refine lc_it (g := gName j) w (fun i H => ∃ acc, H D = some (.lst acc) ∧ acc.length ≤ i ∧ F i acc (off D H)) ⟨[], upd_same, Nat.le_refl _, by rw [off_upd, off_free hD]; exact h0⟩ (fun i H hi ⟨acc, _, _, f⟩ => hG i acc H _ hi f off_same) ?_
    (fun H ⟨acc, e, l, f⟩ => hd D H acc hD e l f)
  rintro i x H H' hi ⟨acc, e, l, f⟩ ⟨rfl, hy⟩
  obtain ⟨z, r⟩ := hs D i x acc H' hi hy hD e l f
  refine ⟨z, mt _ _ _ _ (fun b H3 q => ?_) r⟩
  rw [way_eq] at q
  split at q
  · rename_i hb
    rw [if_pos hb]
    exact me _ _ _ _ (fun y H4 ⟨e4, f4⟩ => ⟨acc, e4, by omega, acc ++ [y], upd_same, by rw [List.length_append]; simp; omega, by rw [off_upd]; exact f4⟩) q
  · rename_i hb
    rw [if_neg hb]
    exact ⟨acc, q.1, by omega, q.2⟩
end
section
variable {X : Cx} {K : PySem.W.Frag} {j : Nat} {tt : TT} {te : TE} {vs : List Nat} {σ : L2.St} {Q : VK} {H1 : Hp} {F : Nat → List V → Hp → Prop}
theorem mcT_m : ∀ σ H (Q Q' : Bool → Hp → Prop), (∀ b H1, Q b H1 → Q' b H1) → mcT tt σ H Q → mcT tt σ H Q' := fun σ H Q Q' i ⟨R, h, q⟩ => ⟨R, fun b H1 r => i b H1 (h b H1 r), q⟩
theorem mcE_m : ∀ σ H (Q Q' : VK), (∀ b H1, Q b H1 → Q' b H1) → mcE te σ H Q → mcE te σ H Q' := fun σ H Q Q' i ⟨R, h, q⟩ => ⟨R, fun b H1 r => i b H1 (h b H1 r), q⟩
/-- over a list -/
theorem comp_list {a : Addr} {xs : List V} (F : Nat → List V → Hp → Prop) (hn : xs.length < sizeLine) (h0 : F 0 [] H1) (hG : ∀ i acc G, F i acc G → SqL K G a xs)
    (hs : ∀ D i x acc H', xs[i]? = some x → H1 D = none → H' D = some (.lst acc) → acc.length ≤ i → F i acc (off D H') → wipe ((wipe σ vs).set j (some x)) vs = wipe σ vs ∧
      tt ((wipe σ vs).set j (some x)) H' fun b H3 => way b (te ((wipe σ vs).set j (some x)) H3 fun y H4 => H4 D = some (.lst acc) ∧ F (i + 1) (acc ++ [y]) (off D H4)) (H3 D = some (.lst acc) ∧ F (i + 1) acc (off D H3)))
    (hd : ∀ D H' acc, H1 D = none → H' D = some (.lst acc) → acc.length ≤ xs.length → F xs.length acc (off D H') → Q (.ref D) H') : (∃ ys, SqL K H1 a ys) ∧ Comp (Itl K a) j (mcT tt) (mcE te) vs σ Q H1 :=
  ⟨⟨xs, hG _ _ _ h0⟩, comp_by walk_list F hn h0 (fun i acc H G _ f s => s.seq (hG i acc G f)) (fun D i x acc H' _ hx a b c d => ⟨(hs D i x acc H' hx a b c d).1, _, fun _ _ r => by
    rw [way_eq] at r ⊢
    split at r
    · rename_i hb
      rw [if_pos hb]
      exact ⟨_, fun _ _ z => z, r⟩
    · rename_i hb
      rw [if_neg hb]
      exact r, (hs D i x acc H' hx a b c d).2⟩) hd mcT_m mcE_m⟩
theorem SqT_same {K : PySem.W.Frag} {H H' : Hp} {a : Addr} {xs : List V} (h : SqT K H a xs) (e : Same H H') : SqT K H' a xs :=
  h.elim (fun h => .inl (h.elim (fun h => .inl (e _ _ h)) fun ⟨o, h⟩ => .inr ⟨o, e _ _ h⟩)) fun h => .inr h
/-- over a tuple -/
theorem comp_tup {a : Addr} {xs : List V} (F : Nat → List V → Hp → Prop) (hn : xs.length < sizeLine) (h0 : F 0 [] H1) (hG : ∀ i acc G, F i acc G → SqT K G a xs)
    (hs : ∀ D i x acc H', xs[i]? = some x → H1 D = none → H' D = some (.lst acc) → acc.length ≤ i → F i acc (off D H') → wipe ((wipe σ vs).set j (some x)) vs = wipe σ vs ∧
      tt ((wipe σ vs).set j (some x)) H' fun b H3 => way b (te ((wipe σ vs).set j (some x)) H3 fun y H4 => H4 D = some (.lst acc) ∧ F (i + 1) (acc ++ [y]) (off D H4)) (H3 D = some (.lst acc) ∧ F (i + 1) acc (off D H3)))
    (hd : ∀ D H' acc, H1 D = none → H' D = some (.lst acc) → acc.length ≤ xs.length → F xs.length acc (off D H') → Q (.ref D) H') : (∃ ys, SqT K H1 a ys) ∧ Comp (Itt K a) j (mcT tt) (mcE te) vs σ Q H1 :=
  ⟨⟨xs, hG _ _ _ h0⟩, comp_by walk_tup F hn h0 (fun i acc H G _ f s => SqT_same (hG i acc G f) s) (fun D i x acc H' _ hx a b c d => ⟨(hs D i x acc H' hx a b c d).1, _, fun _ _ r => by
    rw [way_eq] at r ⊢
    split at r
    · rename_i hb
      rw [if_pos hb]
      exact ⟨_, fun _ _ z => z, r⟩
    · rename_i hb
      rw [if_neg hb]
      exact r, (hs D i x acc H' hx a b c d).2⟩) hd mcT_m mcE_m⟩
/-- over range(lo, lo + n) -/
theorem comp_range {lo : Int} {n : Nat} (F : Nat → List V → Hp → Prop) (hn : n < sizeLine) (h0 : F 0 [] H1)
    (hs : ∀ D i acc H', i < n → H1 D = none → H' D = some (.lst acc) → acc.length ≤ i → F i acc (off D H') → wipe ((wipe σ vs).set j (some (.int (lo + i)))) vs = wipe σ vs ∧
      tt ((wipe σ vs).set j (some (.int (lo + i)))) H' fun b H3 => way b (te ((wipe σ vs).set j (some (.int (lo + i)))) H3 fun y H4 => H4 D = some (.lst acc) ∧ F (i + 1) (acc ++ [y]) (off D H4)) (H3 D = some (.lst acc) ∧ F (i + 1) acc (off D H3)))
    (hd : ∀ D H' acc, H1 D = none → H' D = some (.lst acc) → acc.length ≤ n → F n acc (off D H') → Q (.ref D) H') : Comp (Itr lo n) j (mcT tt) (mcE te) vs σ Q H1 :=
  comp_by walk_range F hn h0 (fun _ _ _ _ _ _ _ => trivial) (fun D i x acc H' hi hx a b c d => by
    subst hx
    exact ⟨(hs D i acc H' hi a b c d).1, _, fun _ _ r => by
      rw [way_eq] at r ⊢
      split at r
      · rename_i hb
        rw [if_pos hb]
        exact ⟨_, fun _ _ z => z, r⟩
      · rename_i hb
        rw [if_neg hb]
        exact r, (hs D i acc H' hi a b c d).2⟩) hd mcT_m mcE_m
/-- over a text -/
theorem comp_str {z : Str} (F : Nat → List V → Hp → Prop) (hn : z.length < sizeLine) (h0 : F 0 [] H1)
    (hs : ∀ D i c acc H', z.cps[i]? = some c → H1 D = none → H' D = some (.lst acc) → acc.length ≤ i → F i acc (off D H') → wipe ((wipe σ vs).set j (some (.str ⟨#[c]⟩))) vs = wipe σ vs ∧
      tt ((wipe σ vs).set j (some (.str ⟨#[c]⟩))) H' fun b H3 => way b (te ((wipe σ vs).set j (some (.str ⟨#[c]⟩))) H3 fun y H4 => H4 D = some (.lst acc) ∧ F (i + 1) (acc ++ [y]) (off D H4)) (H3 D = some (.lst acc) ∧ F (i + 1) acc (off D H3)))
    (hd : ∀ D H' acc, H1 D = none → H' D = some (.lst acc) → acc.length ≤ z.length → F z.length acc (off D H') → Q (.ref D) H') : Comp (Its z) j (mcT tt) (mcE te) vs σ Q H1 :=
  comp_by (n := z.cps.size) (Y := fun i v => ∃ c, z.cps[i]? = some c ∧ v = .str ⟨#[c]⟩) walk_str F hn h0 (fun _ _ _ _ _ _ _ => trivial) (fun D i x acc H' hi hx a b c d => by
    obtain ⟨ch, hc, rfl⟩ := hx
    exact ⟨(hs D i ch acc H' hc a b c d).1, _, fun _ _ r => by
      rw [way_eq] at r ⊢
      split at r
      · rename_i hb
        rw [if_pos hb]
        exact ⟨_, fun _ _ z => z, r⟩
      · rename_i hb
        rw [if_neg hb]
        exact r, (hs D i ch acc H' hc a b c d).2⟩) hd mcT_m mcE_m
end
end GG
namespace GG
open PySem PySem.Spec L2
section
variable {X : Cx} {elt tg iter : Expr} {ifs : List Expr} {scope : Scope} {own : List (Str × Nat)} {pos : Pos} {tl te : TE} {ta : TA} {tt : TT} {j : Nat}
theorem PTsm {cs : List Expr} {t : TT} (h : PTs X cs t) : PTs X cs (mcT t) := ⟨fun pins s σ H K I ⟨Q, i, q⟩ => thn (h.run pins s σ H Q I q) fun b s' ⟨H', I', q'⟩ => ⟨H', I', i b H' q'⟩⟩
theorem PIi {tg iter : Expr} {wi wi' : TI} (h : PI X tg iter wi) (i : ∀ σ H R, wi' σ H R → wi σ H R) : PI X tg iter wi' := ⟨fun pins s σ H R I q => h.run pins s σ H R I (i σ H R q)⟩
/-- what a for, a comprehension walks: a list, a tuple, a range, a text -/
def wL (K : PySem.W.Frag) (tl : TE) : TI := fun σ H R => tl σ H fun x H1 => match x with
  | .ref a => (∃ xs, SqL K H1 a xs) ∧ R (Itl K a) H1
  | _ => False
def wT (K : PySem.W.Frag) (tl : TE) : TI := fun σ H R => tl σ H fun x H1 => match x with
  | .ref a => (∃ xs, SqT K H1 a xs) ∧ R (Itt K a) H1
  | _ => False
def wR1 (ta : TA) : TI := fun σ H R => ta σ H fun vs H1 => match vs with
  | [.int j] => (-(2 ^ 62) ≤ j ∧ j < 2 ^ 62) ∧ R (Itr 0 j.toNat) H1
  | _ => False
def wR2 (ta : TA) : TI := fun σ H R => ta σ H fun vs H1 => match vs with
  | [.int i, .int j] => (-(2 ^ 62) ≤ i ∧ i < 2 ^ 62 ∧ -(2 ^ 62) ≤ j ∧ j < 2 ^ 62) ∧ R (Itr i (j - i).toNat) H1
  | _ => False
def wS (te : TE) : TI := fun σ H R => te σ H fun x H1 => match x with
  | .str z => z.length ≤ sizeLine ∧ R (Its z) H1
  | _ => False
def mcI (wi : TI) : TI := fun σ H K => ∃ R : It → Hp → Prop, (∀ J H1, R J H1 → K J H1) ∧ wi σ H R
theorem PIm {wi : TI} (h : PI X tg iter wi) : PI X tg iter (mcI wi) := ⟨fun pins s σ H K I ⟨R, i, q⟩ => thn (h.run pins s σ H R I q) fun v s1 h1 => thn h1 fun itv s2 h2 => by
  obtain ⟨it, fp, tn, J, H2, e, I2, T, st2, f2, r⟩ := h2
  exact ⟨it, fp, tn, J, H2, e, I2, T, st2, f2, i _ _ r⟩⟩
theorem w_list (h : PE X iter tl) : PI X tg iter (wL X.K tl) := PIi (pi_list (PEm h)) fun σ H R q => ⟨_, fun x H1 r => by
  split at r
  · exact ⟨_, rfl, r⟩
  · exact r.elim, q⟩
theorem w_tup (h : PE X iter tl) : PI X tg iter (wT X.K tl) := PIi (pi_tup (PEm h)) fun σ H R q => ⟨_, fun x H1 r => by
  split at r
  · exact ⟨_, rfl, r⟩
  · exact r.elim, q⟩
theorem w_str (h : PE X iter te) : PI X tg iter (wS te) := PIi (pi_str (PEm h)) fun σ H R q => ⟨_, fun x H1 r => by
  split at r
  · exact ⟨_, rfl, r.2⟩
  · exact r.elim, q⟩
theorem w_range1 {a : Expr} {p : Pos} (hg : Gl X "range") (hm : X.mg "range" = none) (ha : PA X [a] ta) (hs : starEach [a] X.env = [(false, eval a X.env)] := by rfl) : PI X tg (.Call (.Name "range" p) [a] [] pos) (wR1 ta) :=
  PIi (pi_range1 hg hm (PAm ha) hs) fun σ H R q => ⟨_, fun vs H1 r => by
    split at r
    · exact ⟨_, rfl, r.1.1, r.1.2, r.2⟩
    · exact r.elim, q⟩
theorem w_range2 {a b : Expr} {p : Pos} (hg : Gl X "range") (hm : X.mg "range" = none) (ha : PA X [a, b] ta) (hs : starEach [a, b] X.env = [(false, eval a X.env), (false, eval b X.env)] := by rfl) (hs2 : starEach [b] X.env = [(false, eval b X.env)] := by rfl) :
    PI X tg (.Call (.Name "range" p) [a, b] [] pos) (wR2 ta) :=
  PIi (pi_range2 hg hm (PAm ha) hs hs2) fun σ H R q => ⟨_, fun vs H1 r => by
    split at r
    · exact ⟨_, _, rfl, r.1, r.2⟩
    · exact r.elim, q⟩
/-- a list made by a comprehension of one clause, the target a name -/
def gLc (wi : TI) (j : Nat) (tt : TT) (te : TE) (vs : List Nat) : TE := fun σ H Q => wi σ H fun J H1 => Comp J j (mcT tt) (mcE te) vs σ Q H1
theorem g_lc {wi : TI} (hc : X.calm = true) (hN : X.N.Nodup) (hi : PI X tg iter wi) (ok : BlkOk X.N X.env.scope scope own)
    (hg : ∀ (s : Shared) (H : Hp) (C : Addr) (cl : List (Str × Addr)) (fp : List Addr), PG (X.blk s H scope (compEnvC scope cl C X.env) fp) tg (gName j))
    (ht : ∀ (s : Shared) (H : Hp) (C : Addr) (cl : List (Str × Addr)) (fp : List Addr), PTs (X.blk s H scope (compEnvC scope cl C X.env) fp) ifs tt)
    (he : ∀ (s : Shared) (H : Hp) (C : Addr) (cl : List (Str × Addr)) (fp : List Addr), PE (X.blk s H scope (compEnvC scope cl C X.env) fp) elt te) (hs : ∀ x, foldedSetIterable iter X.env x = pure x := by intro _; rfl) :
    PE X (.ListComp elt [⟨tg, iter, ifs, 0⟩] scope pos) (gLc wi j tt te (own.map (·.2))) :=
  PEi (pe_lc hc hN (PIm hi) ok hg (fun s H C cl fp => PTsm (ht s H C cl fp)) (fun s H C cl fp => PEm (he s H C cl fp)) hs) fun σ H Q q => ⟨_, fun J H1 r => by
    unfold Comp at r
    exact r, q⟩
theorem g_setLc {wi : TI} {i : Nat} {y : Str} {py spos : Pos} (hc : X.calm = true) (hN : X.N.Nodup) (hy : X.N[i]? = some y) (hyl : X.env.scope.names.lookup y = some .local)
    (hsw : swapsWith (.ListComp elt [⟨tg, iter, ifs, 0⟩] scope pos) (some (.Name y py)) spos.line X.env = pure true) (hi : PI X tg iter wi) (ok : BlkOk X.N X.env.scope scope own)
    (hg : ∀ (s : Shared) (H : Hp) (C : Addr) (cl : List (Str × Addr)) (fp : List Addr), PG (X.blk s H scope (compEnvC scope cl C X.env) fp) tg (gName j))
    (ht : ∀ (s : Shared) (H : Hp) (C : Addr) (cl : List (Str × Addr)) (fp : List Addr), PTs (X.blk s H scope (compEnvC scope cl C X.env) fp) ifs tt)
    (he : ∀ (s : Shared) (H : Hp) (C : Addr) (cl : List (Str × Addr)) (fp : List Addr), PE (X.blk s H scope (compEnvC scope cl C X.env) fp) elt te) (hs : ∀ x, foldedSetIterable iter X.env x = pure x := by intro _; rfl) :
    PS X (.Assign [.Name y py] (.ListComp elt [⟨tg, iter, ifs, 0⟩] scope pos) spos) (tAsg (gLc wi j tt te (own.map (·.2))) (gName i)) :=
  PSi (ps_setLc hc hN hy hyl hsw (PIm hi) ok hg (fun s H C cl fp => PTsm (ht s H C cl fp)) (fun s H C cl fp => PEm (he s H C cl fp)) hs) fun D σ H q => ⟨_, fun J H1 r => by
    unfold Comp at r
    exact r, q⟩
end
/-! ### loops -/
@[irreducible] def ForW (J : It) (g : TG) (tb : TS) (D : Ends) (σ : L2.St) (H : Hp) : Prop := ∃ W : Nat → Nat → L2.St → Hp → Prop, (∃ m, W 0 m σ H) ∧ ∀ i m σ H, W i m σ H →
  (J.stop i H ∧ D.nx σ H) ∨ (J.go i H ∧ ∃ N : L2.St → Hp → Prop, (∀ σ' H', N σ' H' → ∃ m', m' < m ∧ W (i + 1) m' σ' H') ∧ ∀ x H', J.yld i H x H' → g x σ H' fun σ2 H2 => tb { D with nx := N, ct := N, bk := D.nx } σ2 H2)
def gFor (wi : TI) (g : TG) (tb : TS) : TS := fun D σ H => wi σ H fun J H1 => ForW J g tb D σ H1
section
variable {X : Cx} {tg iter : Expr} {wi : TI} {g : TG} {tb : TS} {body : List Stmt} {pos : Pos}
theorem g_for (hp : PassesOwn (model X.prog X.w) X.A X.env X.xe) (hc : X.calm = true) (hi : PI X tg iter wi) (hg : PG X tg g) (hb : PSs X body tb)
    (hs : ∀ x, foldedSetIterable iter X.env x = pure x := by intro _; rfl) : PS X (.For tg iter body [] pos) (gFor wi g tb) :=
  PSi (ps_for hp hc (PIm hi) hg hb hs) fun D σ H q => ⟨_, fun J H1 r => by
    unfold ForW at r
    exact r, q⟩
end
section
variable {K : PySem.W.Frag} {g : TG} {tb : TS} {D : Ends} {σ : L2.St} {H : Hp}
theorem forw_list {a : Addr} {xs : List V} (Pv : Nat → L2.St → Hp → Prop) (h0 : Pv 0 σ H) (hl : ∀ i σ H, i ≤ xs.length → Pv i σ H → SqL K H a xs)
    (hs : ∀ i x σ H, xs[i]? = some x → Pv i σ H → g x σ H fun σ2 H2 => tb { D with nx := Pv (i + 1), ct := Pv (i + 1), bk := D.nx } σ2 H2) (hd : ∀ σ H, Pv xs.length σ H → D.nx σ H) : (∃ ys, SqL K H a ys) ∧ ForW (Itl K a) g tb D σ H := by
  refine ⟨⟨xs, hl 0 _ _ (Nat.zero_le _) h0⟩, ?_⟩
  unfold ForW
  exact for_list Pv h0 hl hs hd
theorem forw_range {lo : Int} {n : Nat} (Pv : Nat → L2.St → Hp → Prop) (h0 : Pv 0 σ H)
    (hs : ∀ i σ H, i < n → Pv i σ H → g (.int (lo + i)) σ H fun σ2 H2 => tb { D with nx := Pv (i + 1), ct := Pv (i + 1), bk := D.nx } σ2 H2) (hd : ∀ σ H, Pv n σ H → D.nx σ H) : ForW (Itr lo n) g tb D σ H := by
  unfold ForW
  exact for_range Pv h0 hs hd
end
end GG
namespace GG
open PySem PySem.Spec L2
section
variable {X : Cx}
/-! ### products, powers -/
def rMulG : R2 := fun x y H Q => match x, y with
  | .int i, .int j => CMul i j ∧ Q (.int (i * j)) H
  | .str z, .int n => MulOk z n ∧ Q (.str (Txt.mul z n)) H
  | .ref l, .int k => ∃ xs, H l = some (.lst xs) ∧ -(2 ^ 63) ≤ k ∧ k < 2 ^ 63 ∧ xs.length * k.toNat ≤ sizeLine ∧ ∀ p H', H p = none → Same H H' → H' p = some (.lst (List.replicate k.toNat xs).flatten) → Q (.ref p) H'
  | _, _ => False
theorem op_mulG : OpR X (binaryOp .Mult) rMulG := fun pins s σ H x y u v Q I rx ry h => by
  unfold rMulG at h
  split at h
  · exact op_mul pins s σ H _ _ u v Q I rx ry ⟨_, _, rfl, rfl, h.1, h.2⟩
  · obtain ⟨t, rfl⟩ := rx
    obtain ⟨t', rfl⟩ := ry
    exact SB.mul h.1 fun t k => ⟨.str _, H, I.tok k, ⟨_, rfl⟩, h.2⟩
  · obtain ⟨xs, h1, h2, h3, h4, h5⟩ := h
    exact op_rep pins s σ H _ _ u v Q I rx ry ⟨_, _, xs, rfl, rfl, h1, h2, h3, h4, fun p hp => h5 p _ hp (Sm.new hp) upd_same⟩
  · exact h.elim
def rPowG : R2 := fun x y H Q => match x, y with
  | .int i, .int j => (0 ≤ j ∧ (Builtin.Int.intBits i : Int) * j ≤ 2 ^ 27) ∧ Q (.int (i ^ j.toNat)) H
  | _, _ => False
theorem op_powW : OpR X (binaryOp .Pow) rPowG := fun pins s σ H x y u v Q I rx ry h => by
  unfold rPowG at h
  split at h
  · obtain ⟨t, rfl⟩ := rx
    obtain ⟨t', rfl⟩ := ry
    exact PyProof.Rows.pow_int h.1.1 h.1.2 ⟨.int _, H, I.tok _, ⟨_, rfl⟩, h.2⟩
  · exact h.elim
/-! ### in, is -/
def rInG (K : PySem.W.Frag) (neg : Bool) : R2 := fun x y H Q => match x, y with
  | .str a, .str z => ∃ c, a = ⟨#[c]⟩ ∧ Q (.bl (if neg then !decide (c ∈ z.cps.toList) else decide (c ∈ z.cps.toList))) H
  | x, .ref p => ∃ xs, (SqL K H p xs ∨ SqT K H p xs) ∧ flatV x = true ∧ xs.all flatV = true ∧ Q (.bl (if neg then !inV x xs else inV x xs)) H
  | _, _ => False
theorem op_inG : OpR X (compareOp .In) (rInG X.K false) := fun pins s σ H x y u v Q I rx ry h => by
  unfold rInG at h
  split at h
  · obtain ⟨c, rfl, q⟩ := h
    exact op_in_sign pins s σ H _ _ u v Q I rx ry ⟨c, _, rfl, rfl, q⟩
  · obtain ⟨xs, h1, h2, h3, q⟩ := h
    exact op_in_seq pins s σ H _ _ u v Q I rx ry ⟨_, xs, rfl, h1, h2, h3, q⟩
  · exact h.elim
theorem op_ninG : OpR X (compareOp .NotIn) (rInG X.K true) := fun pins s σ H x y u v Q I rx ry h => by
  unfold rInG at h
  split at h
  · obtain ⟨c, rfl, q⟩ := h
    exact op_notIn_sign pins s σ H _ _ u v Q I rx ry ⟨c, _, rfl, rfl, q⟩
  · obtain ⟨xs, h1, h2, h3, q⟩ := h
    exact op_notIn_seq pins s σ H _ _ u v Q I rx ry ⟨_, xs, rfl, h1, h2, h3, q⟩
  · exact h.elim
def rIsN (f : Bool → Bool) : R2 := fun x y H Q => match x, y with
  | .non, .non => Q (.bl (f true)) H
  | .int _, .non => Q (.bl (f false)) H
  | .ref _, .non => Q (.bl (f false)) H
  | .str _, .non => Q (.bl (f false)) H
  | .bl _, .non => Q (.bl (f false)) H
  | _, _ => False
theorem op_isG : OpR X (compareOp .Is) (rIsN fun b => b) := fun pins s σ H x y u v Q I rx ry h => by
  unfold rIsN at h
  split at h <;> first
    | exact op_isN pins s σ H _ _ u v Q I rx ry ⟨rfl, h⟩
    | exact h.elim
theorem op_isnG : OpR X (compareOp .IsNot) (rIsN fun b => !b) := fun pins s σ H x y u v Q I rx ry h => by
  unfold rIsN at h
  split at h <;> first
    | exact op_notN pins s σ H _ _ u v Q I rx ry ⟨rfl, h⟩
    | exact h.elim
/-! ### a call at some place below the body -/
theorem call_at {A : Around} {k : Nat} {f : Addr} {fd : FuncData} {ps : List Str} {sp : Sp} {pins : List (Addr × Obj)} {σ : L2.St} {H : Hp} {s : Shared} {us : List Value} {vs : List V} {Q : VK} {E : Value → Shared → Prop} (sb : Sub X k A) (F : FnOk X.prog X.w X.K X.mg X.base CX0 k f fd ps sp) (b : Binds X.K fd ps [])
    (I : L2.Inv X pins σ H s) (r : Vals vs us) (h : sp vs H Q E0) : wpAny (model X.prog X.w) A (call (.ref f) us) (EP X pins σ Q) E s := by
  have e0 : Env0 X.prog X.w X.K X.mg X.base A X.stack s H := by
    have e := I.env0
    exact ⟨by rw [sb.fr]; exact e.frames, e.mod, e.bs, e.bsz, e.funs, e.frf, e.hok, e.bare⟩
  have hl := F.len _ _ _ _ h
  refine wpAny_call (codeAny_mono (F.run A X.stack s H ⟨us, []⟩ us vs Q E0 sb.room e0 (by
    have z := b s us I.kIn (by rw [List.append_nil, ← r.length]; exact hl)
    rw [List.append_nil] at z
    exact z) r h) fun r s' hq => ?_)
  cases r with
  | error e => exact False.elim hq
  | ok fl =>
    cases fl with
    | ret u => exact I.after hq
    | next => exact False.elim hq
    | brk => exact False.elim hq
    | cont => exact False.elim hq
/-! ### len of an own instance -/
/-- the class at C has the special method m at f, which keeps sp -/
structure SpN (P : Program) (w : World) (K : PySem.W.Frag) (mg : Str → Option Value) (base : Heap) (k : Nat) (C : Addr) (m : Str) (sp : Sp) : Prop where
  ex : ∃ (f : Addr) (fd : FuncData) (ps : List Str), PySem.W.findIn K (.ref C) m = some (some (.ref f)) ∧ PySem.W.isFn K (.ref f) = true ∧ FnOk P w K mg base CX0 k f fd ps sp ∧ Binds K fd ps []
end
end GG
namespace GG
open PySem PySem.Spec L2
open PyProof.Rows (envOfC)
/-! ### what the top has left, one def at a time -/
def FnF (K : PySem.W.Frag) (mg : Str → Option Value) (x : Str) (st : Stmt) (ps : List Str) : Prop :=
  ∃ (f : Addr) (fd : FuncData), FunD K x x (defArgs st) (defBody st) (defScope st) [] [] f fd ∧ mg x = some (.ref f) ∧ Binds K fd ps []
def MtF (K : PySem.W.Frag) (C : Addr) (m q : Str) (st : Stmt) (ps : List Str) : Prop :=
  ∃ (f : Addr) (fd : FuncData), FunD K m q (defArgs st) (defBody st) (defScope st) [] [] f fd ∧ Cls K C ∧ Meth K C m f ∧ Binds K fd ps []
def PrF (K : PySem.W.Frag) (C : Addr) (m q : Str) (st : Stmt) (ps : List Str) : Prop :=
  ∃ (p g : Addr) (fd : FuncData), FunD K m q (defArgs st) (defBody st) (defScope st) [] [] g fd ∧ Cls K C ∧ PropOf K C m p g ∧ Binds K fd ps []
/-- what isinstance asks of an instance's class -/
structure InsF (K : PySem.W.Frag) (C : Addr) : Prop where
  cl : Cls K C
  ha : PySem.W.findIn K (.ref C) "__class__" = some (some (.builtin "object.__class__"))
  hn : PySem.W.specialIn K (.builtin "object.__class__") "__get__" = some (some (.builtin "getset_descriptor.__get__"))
  htk : PySem.W.takesIn K (.builtin "object.__class__") = some true
  hm : PySem.W.mroIn K C (.type "object") = some true
theorem is_own {K : PySem.W.Frag} {H : Hp} {a C D dx : Addr} {fs : List (Str × V)} {b : Bool} (e : H a = some (.ins C dx fs)) (i : InsF K C) (k : PySem.W.kitOne K (.ref C) (.ref D) = some b) : IsT K H (.ref a) (.ref D) b :=
  ⟨_, _, .own D, .base (.ins e i.cl i.ha i.hn i.htk i.hm), k⟩
section
variable {P : Program} {w : World} {K : PySem.W.Frag} {mg : Str → Option Value} {base : Heap} {k : Nat} {sp : Sp} {N ps : List Str} {st : Stmt}
/-- a def by its body -/
theorem fn_by {x : Str} (F : FnF K mg x st ps) (S : FnScope N ps (defScope st)) (len : ∀ vs H Q E, sp vs H Q E → vs.length = ps.length)
    (hbody : ∀ (f : Addr) (cdv : Value) (A : Around) (outer : List Env) (s : Shared) (H : Hp) (vs : List V) (Q : VK) (E : XK), Room k (A.deeper (envOfC x (defScope st) s.heap.objs.size f cdv)) → sp vs H Q E →
      ∃ t, PSs (cxOf CX0 P w K mg base N x (defScope st) f cdv A outer s H E).nox (defBody st) t ∧ t { nx := fun _ H' => Q .non H', rt := Q } (start N vs) H) : FnN P w K mg base (k + 1) x [] sp := by
  obtain ⟨f, fd, F, hm, b⟩ := F
  exact ⟨f, fd, ps, [], F.ok S len fun cdv A outer s H vs Q E hr h => (hbody f cdv A outer s H vs Q E hr h).imp fun t q => ⟨q.1.nox, q.2⟩, hm, F.kp, b, .nil⟩
theorem mt_by {C : Addr} {m q : Str} (F : MtF K C m q st ps) (S : FnScope N ps (defScope st)) (len : ∀ vs H Q E, sp vs H Q E → vs.length = ps.length)
    (hbody : ∀ (f : Addr) (cdv : Value) (A : Around) (outer : List Env) (s : Shared) (H : Hp) (vs : List V) (Q : VK) (E : XK), Room k (A.deeper (envOfC q (defScope st) s.heap.objs.size f cdv)) → sp vs H Q E →
      ∃ t, PSs (cxOf CX0 P w K mg base N q (defScope st) f cdv A outer s H E).nox (defBody st) t ∧ t { nx := fun _ H' => Q .non H', rt := Q } (start N vs) H) : MtN P w K mg base (k + 1) C m [] sp := by
  obtain ⟨f, fd, F, c, hm, b⟩ := F
  exact ⟨f, fd, ps, [], c, hm, F.ok S len fun cdv A outer s H vs Q E hr h => (hbody f cdv A outer s H vs Q E hr h).imp fun t q => ⟨q.1.nox, q.2⟩, b, .nil⟩
theorem pr_by {C : Addr} {m q : Str} (F : PrF K C m q st ps) (S : FnScope N ps (defScope st)) (len : ∀ vs H Q E, sp vs H Q E → vs.length = ps.length)
    (hbody : ∀ (f : Addr) (cdv : Value) (A : Around) (outer : List Env) (s : Shared) (H : Hp) (vs : List V) (Q : VK) (E : XK), Room k (A.deeper (envOfC q (defScope st) s.heap.objs.size f cdv)) → sp vs H Q E →
      ∃ t, PSs (cxOf CX0 P w K mg base N q (defScope st) f cdv A outer s H E).nox (defBody st) t ∧ t { nx := fun _ H' => Q .non H', rt := Q } (start N vs) H) : PrN P w K mg base (k + 1) C m sp := by
  obtain ⟨p, f, fd, F, c, hm, b⟩ := F
  exact ⟨p, f, fd, ps, c, hm, F.ok S len fun cdv A outer s H vs Q E hr h => (hbody f cdv A outer s H vs Q E hr h).imp fun t q => ⟨q.1.nox, q.2⟩, b⟩
/-- a special method (__len__, __eq__ ..) -/
theorem MtN.sp' {C : Addr} {m : Str} (c : MtN P w K mg base k C m [] sp) : SpN P w K mg base k C m sp := by
  obtain ⟨f, fd, ps, ds, hc, hm, F, b, d⟩ := c.ex
  cases d
  exact ⟨f, fd, ps, hm.at_, hm.fn, F, b⟩
theorem mk_by {x q : Str} {C : Addr} {sp0 : Sp} (F : MtF K C "__init__" q st ps) (M : PySem.W.makesIn K C = true) (kp : PySem.W.keepIn K (.ref C) = true) (hm : mg x = some (.ref C)) (S : FnScope N ps (defScope st)) (len : ∀ vs H Q E, sp0 vs H Q E → vs.length = ps.length)
    (i : ∀ vs H Q, sp vs H Q E0 → ∀ y dy, H y = none → H dy = none → dy ≠ y → sp0 (.ref y :: vs) (upd (upd H dy (.own y)) y (.ins C dy [])) (fun v H2 => v = .non ∧ Q (.ref y) H2) E0)
    (hbody : ∀ (f : Addr) (cdv : Value) (A : Around) (outer : List Env) (s : Shared) (H : Hp) (vs : List V) (Q : VK) (E : XK), Room k (A.deeper (envOfC q (defScope st) s.heap.objs.size f cdv)) → sp0 vs H Q E →
      ∃ t, PSs (cxOf CX0 P w K mg base N q (defScope st) f cdv A outer s H E).nox (defBody st) t ∧ t { nx := fun _ H' => Q .non H', rt := Q } (start N vs) H) : MkN P w K mg base (k + 1) x sp := by
  obtain ⟨f, fd, F, c, hme, b⟩ := F
  exact ⟨C, f, fd, ps, [], [], sp0, ⟨M, hme.at_, hme.fn, kp⟩, F.ok S len fun cdv A outer s H vs Q E hr h => (hbody f cdv A outer s H vs Q E hr h).imp fun t q => ⟨q.1.nox, q.2⟩, hm, b, .nil, fun vs H Q h y dy h1 h2 h3 => by
    rw [List.append_nil]
    exact i vs H Q h y dy h1 h2 h3⟩
end
end GG
/-! len(set(texts)) -/
namespace GG
open PySem PySem.Spec PyProof.Rows
/-- the different ones, first come first -/
def dd {κ : Type} [DecidableEq κ] (l : List κ) : List κ := l.foldl (fun a x => if x ∈ a then a else a ++ [x]) []
theorem dd_snoc {κ : Type} [DecidableEq κ] (l : List κ) (x : κ) : dd (l ++ [x]) = if x ∈ dd l then dd l else dd l ++ [x] := by
  unfold dd
  rw [List.foldl_append]
  rfl
theorem dd_le {κ : Type} [DecidableEq κ] : ∀ (n : Nat) (l : List κ), l.length = n → (dd l).length ≤ n
  | 0, l, h => by
    have e : l = [] := List.length_eq_zero_iff.mp h
    subst e; exact Nat.le_refl _
  | n + 1, l, h => by
    obtain ⟨m, x, e⟩ : ∃ m x, l = m ++ [x] := ⟨l.dropLast, l.getLast (by intro z; rw [z] at h; simp at h), (List.dropLast_concat_getLast _).symm⟩
    subst e
    rw [List.length_append] at h
    have ih := dd_le n m (by simp at h; omega)
    rw [dd_snoc]
    split
    · omega
    · rw [List.length_append]; simp; omega
theorem dd_nodup_eq {κ : Type} [DecidableEq κ] : ∀ (n : Nat) (l : List κ), l.length = n → l.Nodup → dd l = l
  | 0, l, h, _ => by
    have e : l = [] := List.length_eq_zero_iff.mp h
    subst e; rfl
  | n + 1, l, h, nd => by
    obtain ⟨m, y, e⟩ : ∃ m y, l = m ++ [y] := ⟨l.dropLast, l.getLast (by intro z; rw [z] at h; simp at h), (List.dropLast_concat_getLast _).symm⟩
    subst e
    rw [List.length_append] at h
    have q := List.nodup_append.mp nd
    have ih := dd_nodup_eq n m (by simp at h; omega) q.1
    rw [dd_snoc, ih, if_neg]
    intro hm
    exact q.2.2 y hm y (List.mem_singleton.mpr rfl) rfl
section
variable {prog : Program} {w : World} {A : Around} {R : Result → Shared → Prop} {I : Addr} {fp wr : List Addr} {G : Array GenState → Array GenState → Prop} {P : Nat → Value → Prop} {St : Nat → Shared → Prop}
  {κ : Type} [DecidableEq κ] {knd : KeyKind prog w κ}
/-- set.update's loop over any walk, the keys of any kind -/
theorem upd_loop {keys : List κ} (W : WalksS prog w A.in1 I fp wr G keys.length P St) (S : Addr) (hSf : S ∉ fp) (hval : ∀ i v, P i v → ∃ k, keys[i]? = some k ∧ knd.is k v = true ∧ v.scannable = true) (hb : keys.length + 1 < scanBound) :
    ∀ (k i : Nat) (s : Shared), keys.length - i = k → i ≤ keys.length → St i s → s.heap.SetOf knd S (fun z => decide (z ∈ dd (keys.take i))) (dd (keys.take i)).length →
      (∀ s', Moved (S :: wr) G s s' → s'.heap.SetOf knd S (fun z => decide (z ∈ dd keys)) (dd keys).length → R (.ok (.ret .none)) s') →
      codeAny (model prog w) A (.builtin "set.update.loop" ⟨[.ref S, .ref I], []⟩) R s := by
  have nwr : S ∉ wr := fun h => hSf (W.sub _ h)
  have grow : ∀ b ∈ wr, b ∈ S :: wr := fun b hb => List.mem_cons_of_mem _ hb
  have stays : ∀ {s s' : Shared} {T : κ → Bool} {n : Nat}, Moved wr G s s' → s.heap.SetOf knd S T n → s'.heap.SetOf knd S T n := fun hm ⟨o, es, ep, t, ho, r⟩ => ⟨o, es, ep, t, hm.heap S _ nwr ho, r⟩
  intro k
  induction k with
  | zero =>
    intro i s hk hi hst hS hR
    have e : i = keys.length := by omega
    subst e
    rw [List.take_length] at hS
    refine codeAny_builtin PyProof.Rows.F.entry_set_update_loop ?_
    rw [Around.under_plainId PyProof.Rows.F.plain_set_update_loop _]
    show wpAny _ A.in1 (pyNext (.ref I) >>= _) _ _ s
    refine wpAny_bind (W.done s _ _ hst fun s' hm => ?_)
    exact wpAny_pure (hR s' (hm.mono grow) (stays hm hS))
  | succ k ih =>
    intro i s hk hi hst hS hR
    have hlt : i < keys.length := by omega
    refine codeAny_builtin PyProof.Rows.F.entry_set_update_loop ?_
    rw [Around.under_plainId PyProof.Rows.F.plain_set_update_loop _]
    show wpAny _ A.in1 (pyNext (.ref I) >>= _) _ _ s
    refine wpAny_bind (W.item i s _ _ hlt hst fun v s' hP hst' hm => ?_)
    obtain ⟨key, hkey, his, hsc⟩ := hval i v hP
    have hS' := stays hm hS
    have tk : keys.take (i + 1) = keys.take i ++ [key] := by
      rw [List.take_add_one, hkey]
      rfl
    have hlen : (dd (keys.take i)).length + 1 < scanBound := by
      have := dd_le _ (keys.take i) rfl
      rw [List.length_take] at this
      omega
    show wpAny _ A.in1 (holding [v] (setAdd S v) >>= _) _ _ s'
    refine wpAny_bind (wpAny_holding ?_)
    unfold setAdd
    refine wpAny_holding ?_
    refine wpAny_bind (knd.pyHash (k := key) his ?_)
    refine wpAny_setAddHashed_of (knd := knd) (s := { s' with toks := s'.toks + 1 }) his hsc hS' hlen fun h' hsb hS2 => ?_
    have hnext : h'.SetOf knd S (fun z => decide (z ∈ dd (keys.take (i + 1)))) (dd (keys.take (i + 1))).length := by
      rw [tk, dd_snoc]
      by_cases hin : key ∈ dd (keys.take i)
      · rw [if_pos hin]
        refine SetOf_congr hS2 (fun z => ?_) (by simp [hin])
        by_cases hz : z = key
        · subst hz; simp [hin]
        · simp [hz]
      · rw [if_neg hin]
        refine SetOf_congr hS2 (fun z => ?_) (by simp [hin])
        simp [List.mem_append, Bool.decide_or]
    refine wpAny_pure ⟨plainId_quiet PyProof.Rows.F.plain_set_update_loop _, ih (i + 1) _ (by omega) hlt (W.frame _ s' _ _ hst' (Nat.le_succ _) fun b hb o e => ?_) hnext fun s2 hm2 hS3 => ?_⟩
    · rw [hsb.2 b (fun z : b = S => hSf (by rw [← z]; exact hb))]; exact e
    · refine hR s2 (Moved.trans W.gtrans ((hm.mono grow).then_heap (Nat.le_succ _) fun b o hb e => ?_) hm2) hS3
      rw [hsb.2 b (fun z : b = S => hb (by rw [z]; exact List.mem_cons_self))]; exact e
/-- set(l), l a list whose items are keys -/
theorem set_list_keys {keys : List κ} {l : Addr} {items : Array Value} {E : Value → Shared → Prop} {s : Shared} {Q : Value → Shared → Prop} (hh : A.handled = none) (hl : s.heap.IsList l items) (hsz : items.size = keys.length)
    (hi : ∀ (i : Nat) (v : Value), items[i]? = some v → ∃ k, keys[i]? = some k ∧ knd.is k v = true ∧ v.scannable = true) (hb : keys.length + 1 < scanBound)
    (h : ∀ (h' : Heap) (tk : Nat), h'.SetOf knd s.heap.objs.size (fun z => decide (z ∈ dd keys)) (dd keys).length → (∀ b o, b < s.heap.objs.size → s.heap.get? b = some o → h'.get? b = some o) → Q (.ref s.heap.objs.size) { s with heap := h', toks := tk }) :
    wpAny (model prog w) A (call (.type "set") [.ref l]) Q E s := by
  obtain ⟨c, tl, hmro⟩ := PySem.F.called_set.mro
  have hmade := PySem.F.called_set.made
  have hsub := PySem.F.called_set.sub
  have h1 := PySem.F.called_set.notType
  have h2 := PySem.F.called_set.canCreate
  have hct := PySem.F.typeCall_set_1 (.ref l)
  refine wpAny_call (codeAny_of_tree ?_)
  show wpAny _ _ (callAny (.type "set") _) _ _ _
  refine wpAny_pure ⟨Code.quiet_builtin _ (by decide +kernel), codeAny_builtin PySem.F.entry_type_call ?_⟩
  rw [Around.under_plain (weight_type_call_type "set" [.ref l] []) rfl]
  repeat (any_goals (first | assumption | wp_step))
  let newSet : Bool → Obj := fun led => { cls := .type "set", dict := none, data := .set #[] 0 (.fresh 0 0 led) }
  refine codeAny_mono (code_set_new_1 (.ref l) (E := E) (Q₁ := fun obj s1 => ∃ led : Bool, obj = .ref s.heap.objs.size ∧ s1 = { s with heap := s.heap.push (newSet led) }) fun led => ⟨led, rfl, rfl⟩) fun r s1 hr => ?_
  match r, hr with
  | .error e, hr => exact hr
  | .ok (.ret obj), hr =>
    obtain ⟨led, rfl, rfl⟩ := hr
    have hS : (s.heap.push (newSet led)).get? s.heap.objs.size = some (newSet led) := Heap.get?_push_size _ rfl
    have hT : Shared.TypeIs { s with heap := s.heap.push (newSet led) } (.ref s.heap.objs.size) "set" := ⟨_, hS, rfl⟩
    have hli := PySem.F.called_set.init.lookup
    have hbi := PySem.F.called_set.init.bind (.ref s.heap.objs.size)
    repeat (any_goals (first | assumption | wp_step))
    refine codeAny_mono (codeAny_call_builtin (R := wants (fun r s2 => r = .none ∧ ∃ h' tk, s2 = { s with heap := h', toks := tk } ∧
        h'.SetOf knd s.heap.objs.size (fun z => decide (z ∈ dd keys)) (dd keys).length ∧ ∀ b o, b < s.heap.objs.size → s.heap.get? b = some o → h'.get? b = some o) E) PySem.F.called_set.init.plain PySem.F.entry_set_init (check_set_init_1 hT ?_)) fun r2 s2 hr2 => ?_
    · obtain ⟨⟨ocls, odict, odata, oslots⟩, hol, hcl, nl, hdl⟩ := hl
      simp only at hcl hdl
      subst hcl; subst hdl
      have hol' : (s.heap.push (newSet led)).get? l = some { cls := .type "list", dict := odict, data := .seq items nl, slots := oslots } := Heap.get?_push_of_some _ hol
      have hsls := PySem.F.sub_list_set
      have hslf := PySem.F.sub_list_frozenset
      have hne : (Value.type "list" == Value.type "dict") = false := by decide
      have hl1 : (s.heap.push (newSet led)).IsList l items := ⟨_, hol', rfl, nl, rfl⟩
      unfold Builtin.«set.__init__» noKeywords Builtin.Frozenset.updateFrom
      generalize hPI : pyIter = PI
      wp_walk
      subst hPI
      refine wpAny_pyIter_list hl1 ?_
      refine wpAny_bind (wpAny_runValue ?_)
      have hlS : l < s.heap.objs.size := Heap.lt_size hol
      have hh3 : A.in1.in1.in1.handled = none := by simp [hh]
      have hneI : l ≠ (s.heap.push (newSet led)).objs.size := by rw [Heap.size_push]; exact Nat.ne_of_lt (Nat.lt_succ_of_lt hlS)
      have hSf : s.heap.objs.size ∉ [(s.heap.push (newSet led)).objs.size, l] := by
        rw [Heap.size_push]
        simp only [List.mem_cons, List.not_mem_nil, or_false, not_or]
        exact ⟨Nat.ne_of_lt (Nat.lt_succ_self _), Nat.ne_of_gt hlS⟩
      have W0 := (Walks.list (prog := prog) (w := w) hh3 _ l hneI items).toS
      rw [hsz] at W0
      refine upd_loop (keys := keys) (knd := knd) W0 s.heap.objs.size hSf hi hb (keys.length - 0) 0 _ (by omega) (Nat.zero_le _) ⟨⟨_, Heap.get?_push_size _ rfl, rfl, rfl⟩, (hl1.push _)⟩ ?_ ?_
      · have hget : ((s.heap.push (newSet led)).push { cls := .type "list_iterator", data := .fields #[.ref l, .int 0 0] }).get? s.heap.objs.size = some (newSet led) := Heap.get?_push_of_some _ hS
        exact SetOf_congr ((setObjOf_fresh (knd := knd) led).setOf hget (by unfold scanBound; omega)) (fun _ => rfl) rfl
      · intro s' hm hS'
        obtain ⟨h', g', d', tk', os'⟩ := s'
        have eg : g' = s.gens := hm.gens
        have ed : d' = s.drawn := hm.drawn
        have eo : os' = s.os := hm.os
        subst eg; subst ed; subst eo
        refine wpAny_pure ?_
        refine wpAny_pure ⟨rfl, h', tk', rfl, hS', fun b o hb e => ?_⟩
        refine hm.heap b o ?_ (Heap.get?_push_of_some _ (Heap.get?_push_of_some _ e))
        rw [Heap.size_push]
        simp only [List.mem_cons, List.not_mem_nil, or_false, not_or]
        exact ⟨Nat.ne_of_lt hb, Nat.ne_of_lt (Nat.lt_succ_of_lt hb)⟩
    · match r2, hr2 with
      | .error e, hr2 => exact hr2
      | .ok (.ret r), hr2 =>
        obtain ⟨rfl, h', tk, rfl, hS', hk'⟩ := hr2
        repeat (any_goals (first | assumption | wp_step))
        exact h _ _ hS' hk'
end
section
open L2
variable {X : Cx}
/-- len(set(xs)), xs a list of texts -/
def gLenSet (K : PySem.W.Frag) (ta : TE) : TE := fun σ H Q => ta σ H fun x H1 => match x with
  | .ref l => ∃ xs : List Str, SqL K H1 l (xs.map V.str) ∧ xs.length ≤ 4000 ∧ Q (.int (dd xs).length) H1
  | _ => False
theorem strs_item : ∀ {us : List Value} {xs : List Str}, Vals (xs.map V.str) us → ∀ (i : Nat) (v : Value), us[i]? = some v → ∃ z t, xs[i]? = some z ∧ v = .str z t
  | us, [], r, i, v, h => by cases r; simp at h
  | us, x :: xs, r, i, v, h => by
    cases r with
    | cons r0 rs =>
      obtain ⟨t, e⟩ := r0
      cases i with
      | zero => simp at h; subst h; exact ⟨x, t, rfl, e⟩
      | succ i =>
        obtain ⟨z, t, h1, h2⟩ := strs_item rs i v (by simpa using h)
        exact ⟨z, t, by simpa using h1, h2⟩
theorem g_lenSet {a : Expr} {ta : TE} {p p2 q pos : Pos} (hg : Gl X "len") (hm : X.mg "len" = none) (hg2 : Gl X "set") (hm2 : X.mg "set" = none) (ha : PE X a ta) (hc : X.calm = true)
    (na : starEach [a] X.env = (false, eval a X.env) :: starEach [] X.env := by rfl) : PE X (.Call (.Name "len" p) [.Call (.Name "set" p2) [a] [] q] [] pos) (gLenSet X.K ta) := by
  refine ⟨fun pins s σ H Q I h => ?_⟩
  refine Call_ (ld_blt I hg hm boot_len ?_)
  refine PyProof.Rows.callWith_builtin1 (PyProof.Rows.args_cons ?_ rfl) rfl rfl
  refine Call_ (ld_blt I hg2 hm2 boot_set ?_)
  refine PyProof.Rows.callWith_type1 (PyProof.Rows.args_cons (thn (ha.run pins s σ H _ I h) fun v s1 ⟨x, H1, I1, r1, q1⟩ => PyProof.Rows.args_nil ?_) na) na rfl
  dsimp only at q1
  split at q1
  · obtain ⟨xs, hq, hl, q1⟩ := q1
    cases r1
    obtain ⟨its, r, pl, hz⟩ := I1.list hq
    have hlen : its.length = xs.length := by rw [← r.length, List.length_map]
    refine set_list_keys (keys := xs) (knd := strKind X.prog X.w) (I1.ok.hd hc) pl.isList (by rw [List.size_toArray, hlen]) (fun i v hv => ?_) (by unfold scanBound; omega) fun h' tk hS hk => ?_
    · obtain ⟨z, t, h1, h2⟩ := strs_item r i v (by simpa using hv)
      subst h2
      exact ⟨z, h1, strKind_is _ _ _ _, rfl⟩
    · refine PyProof.Rows.args_nil ?_
      obtain ⟨o, es, ep, t, ho, hex, hd, _, _, _, hf, hn⟩ := hS
      have I2 : L2.Inv X pins σ H1 { s1 with heap := h', toks := tk } := I1.kept fun b o e => hk b o (Heap.lt_size e) e
      have le := dd_le _ xs rfl
      exact call_len_set ho hex hd hf (by rw [hn] <;> omega) ⟨.int (dd xs).length, H1, I2.tok _, ⟨_, by rw [hn]⟩, q1⟩
  · exact q1.elim
end
end GG
/-! the rules that read the written part, with it said -/
namespace GG
open PySem PySem.Spec L2
section
variable {X : Cx} (K : PySem.W.Frag) (h : X.K = K)
include h
theorem k_eqG (hu : X.A.units + 64 < cLine) : OpR X (compareOp .Eq) (rEqG K fun b => b) := by subst h; exact op_eqG hu
theorem k_neG (hu : X.A.units + 64 < cLine) : OpR X (compareOp .NotEq) (rEqG K fun b => !b) := by subst h; exact op_neG hu
theorem k_inG : OpR X (compareOp .In) (rInG K false) := by subst h; exact op_inG
theorem k_ninG : OpR X (compareOp .NotIn) (rInG K true) := by subst h; exact op_ninG
theorem k_ix : IxR X (rIxG K) := by subst h; exact ix_G
theorem k_sl : SlR X (rSlG K) := by subst h; exact sl_G
theorem k_len : CallR X (.builtin "len") (rLenG K) := by subst h; exact c_len
theorem k_sum (hc : X.calm = true) : CallR X (.builtin "sum") (rSumG K) := by subst h; exact c_sum hc
theorem k_sorted : CallR X (.builtin "sorted") (rSortG K) := by subst h; exact c_sorted
theorem k_list : CallR X (.type "list") (rListG K) := by subst h; exact c_list
theorem k_tuple : CallR X (.type "tuple") (rTupleG K) := by subst h; exact c_tuple
theorem k_isi : CallR X (.builtin "isinstance") (rIsG K) := by subst h; exact c_isi
theorem k_fld {e : Expr} {f : Str} {ta : TE} {pos : Pos} (he : PE X e ta) (hb : attributeBase e f X.env (eval e X.env) = eval e X.env) : PE X (.Attribute e f pos) (gFld K ta f) := by subst h; exact g_fld he hb
theorem k_fldS {o value : Expr} {f : Str} {ta tv : TE} {pos pos' : Pos} (ha : PE X o ta) (hv : PE X value tv) (hs : swapsWith value (some (.Attribute o f pos')) pos.line X.env = pure false) : PS X (.Assign [.Attribute o f pos'] value pos) (gFldS K ta tv f) := by subst h; exact g_fldS ha hv hs
theorem kw_list {tg iter : Expr} {tl : TE} (he : PE X iter tl) : PI X tg iter (wL K tl) := by subst h; exact w_list he
theorem kw_tup {tg iter : Expr} {tl : TE} (he : PE X iter tl) : PI X tg iter (wT K tl) := by subst h; exact w_tup he
theorem k_lenSet {a : Expr} {ta : TE} {p p2 q pos : Pos} (hg : Gl X "len") (hm : X.mg "len" = none) (hg2 : Gl X "set") (hm2 : X.mg "set" = none) (ha : PE X a ta) (hc : X.calm = true)
    (na : starEach [a] X.env = (false, eval a X.env) :: starEach [] X.env := by rfl) : PE X (.Call (.Name "len" p) [.Call (.Name "set" p2) [a] [] q] [] pos) (gLenSet K ta) := by subst h; exact g_lenSet hg hm hg2 hm2 ha hc na
end
section
variable {P : Program} {w : World} {K : PySem.W.Frag} {mg : Str → Option Value} {base : Heap} {k j : Nat} {sp : Sp}
theorem MtN.up {C : Addr} {m : Str} {dvs : List V} (c : MtN P w K mg base k C m dvs sp) (h : k ≤ j) : MtN P w K mg base j C m dvs sp := by
  obtain ⟨f, fd, ps, ds, a, b, F, r⟩ := c.ex
  exact ⟨f, fd, ps, ds, a, b, F.mono h, r⟩
theorem FnN.up {x : Str} {dvs : List V} (c : FnN P w K mg base k x dvs sp) (h : k ≤ j) : FnN P w K mg base j x dvs sp := by
  obtain ⟨f, fd, ps, ds, F, r⟩ := c.ex
  exact ⟨f, fd, ps, ds, F.mono h, r⟩
theorem PrN.up {C : Addr} {m : Str} (c : PrN P w K mg base k C m sp) (h : k ≤ j) : PrN P w K mg base j C m sp := by
  obtain ⟨p, g, fd, ps, a, b, F, r⟩ := c.ex
  exact ⟨p, g, fd, ps, a, b, F.mono h, r⟩
end
end GG
/-! comprehensions of two clauses without tests, the targets names; len of own instances by K; reversed slices -/
namespace GG
open PySem PySem.Spec L2
@[irreducible] def Comp2 (J : It) (j : Nat) (wi1 : TI) (j1 : Nat) (te : TE) (vs vs1 : List Nat) (σ : L2.St) (Q : VK) (H1 : Hp) : Prop :=
  ∀ D, H1 D = none → ∃ W : Nat → Nat → Hp → Prop, (∃ m, W 0 m (upd H1 D (.lst []))) ∧ ∀ i m H, W i m H →
  (J.stop i H ∧ Q (.ref D) H) ∨ (J.go i H ∧ ∃ Nx : Hp → Prop, (∀ H', Nx H' → ∃ m', m' < m ∧ W (i + 1) m' H') ∧ ∀ x H', J.yld i H x H' → wipe ((wipe σ vs).set j (some x)) vs = wipe σ vs ∧
    wi1 ((wipe σ vs).set j (some x)) H' fun J1 H4 => ∃ W1 : Nat → Nat → Hp → Prop, (∃ m, W1 0 m H4) ∧ ∀ j' k H, W1 j' k H →
      (J1.stop j' H ∧ Nx H) ∨ (J1.go j' H ∧ ∃ Nx1 : Hp → Prop, (∀ H', Nx1 H' → ∃ k', k' < k ∧ W1 (j' + 1) k' H') ∧ ∀ z H', J1.yld j' H z H' →
        wipe ((wipe ((wipe σ vs).set j (some x)) vs1).set j1 (some z)) vs1 = wipe ((wipe σ vs).set j (some x)) vs1 ∧
        te ((wipe ((wipe σ vs).set j (some x)) vs1).set j1 (some z)) H' fun y H7 => ∃ acc, H7 D = some (.lst acc) ∧ acc.length < sizeLine ∧ Nx1 (upd H7 D (.lst (acc ++ [y])))))
def gLc2 (wi : TI) (j : Nat) (wi1 : TI) (j1 : Nat) (te : TE) (vs vs1 : List Nat) : TE := fun σ H Q => wi σ H fun J H1 => Comp2 J j (mcI wi1) j1 (mcE te) vs vs1 σ Q H1
section
variable {X : Cx} {elt tg iter tg1 iter1 : Expr} {scope : Scope} {own : List (Str × Nat)} {pos : Pos} {te : TE} {wi wi1 : TI} {j j1 : Nat} {vs1 : List Nat}
theorem g_lc2 (hc : X.calm = true) (hN : X.N.Nodup) (hi : PI X tg iter wi) (ok : BlkOk X.N X.env.scope scope own) (hv : ∀ i ∈ vs1, i ∈ own.map (·.2))
    (hg : ∀ (s : Shared) (H : Hp) (C : Addr) (cl : List (Str × Addr)) (fp : List Addr), PG (X.blk s H scope (compEnvC scope cl C X.env) fp) tg (gName j))
    (hi1 : ∀ (s : Shared) (H : Hp) (C : Addr) (cl : List (Str × Addr)) (fp : List Addr), PI (X.blk s H scope (compEnvC scope cl C X.env) fp) tg1 iter1 wi1)
    (hg1 : ∀ (s : Shared) (H : Hp) (C : Addr) (cl : List (Str × Addr)) (fp : List Addr), PG (X.blk s H scope (compEnvC scope cl C X.env) fp) tg1 (gName j1))
    (he : ∀ (s : Shared) (H : Hp) (C : Addr) (cl : List (Str × Addr)) (fp : List Addr), PE (X.blk s H scope (compEnvC scope cl C X.env) fp) elt te)
    (hs : ∀ x, foldedSetIterable iter X.env x = pure x := by intro _; rfl) (hs1 : ∀ env x, foldedSetIterable iter1 env x = pure x := by intro _ _; rfl) :
    PE X (.ListComp elt [⟨tg, iter, [], 0⟩, ⟨tg1, iter1, [], 0⟩] scope pos) (gLc2 wi j wi1 j1 te (own.map (·.2)) vs1) :=
  PEi (pe_lc2 (tt := tYes) (tt1 := tYes) (vs1 := vs1) hc hN (PIm hi) ok hv hg (fun _ _ _ _ _ => pts_nil) (fun s H C cl fp => PIm (hi1 s H C cl fp)) hg1 (fun _ _ _ _ _ => pts_nil) (fun s H C cl fp => PEm (he s H C cl fp)) hs hs1) fun σ H Q q => ⟨_, fun J H1 r => by
    unfold Comp2 at r
    exact r, q⟩
theorem g_setLc2 {i : Nat} {y : Str} {py spos : Pos} (hc : X.calm = true) (hN : X.N.Nodup) (hy : X.N[i]? = some y) (hyl : X.env.scope.names.lookup y = some .local)
    (hsw : swapsWith (.ListComp elt [⟨tg, iter, [], 0⟩, ⟨tg1, iter1, [], 0⟩] scope pos) (some (.Name y py)) spos.line X.env = pure true) (hi : PI X tg iter wi) (ok : BlkOk X.N X.env.scope scope own) (hv : ∀ i ∈ vs1, i ∈ own.map (·.2))
    (hg : ∀ (s : Shared) (H : Hp) (C : Addr) (cl : List (Str × Addr)) (fp : List Addr), PG (X.blk s H scope (compEnvC scope cl C X.env) fp) tg (gName j))
    (hi1 : ∀ (s : Shared) (H : Hp) (C : Addr) (cl : List (Str × Addr)) (fp : List Addr), PI (X.blk s H scope (compEnvC scope cl C X.env) fp) tg1 iter1 wi1)
    (hg1 : ∀ (s : Shared) (H : Hp) (C : Addr) (cl : List (Str × Addr)) (fp : List Addr), PG (X.blk s H scope (compEnvC scope cl C X.env) fp) tg1 (gName j1))
    (he : ∀ (s : Shared) (H : Hp) (C : Addr) (cl : List (Str × Addr)) (fp : List Addr), PE (X.blk s H scope (compEnvC scope cl C X.env) fp) elt te)
    (hs : ∀ x, foldedSetIterable iter X.env x = pure x := by intro _; rfl) (hs1 : ∀ env x, foldedSetIterable iter1 env x = pure x := by intro _ _; rfl) :
    PS X (.Assign [.Name y py] (.ListComp elt [⟨tg, iter, [], 0⟩, ⟨tg1, iter1, [], 0⟩] scope pos) spos) (tAsg (gLc2 wi j wi1 j1 te (own.map (·.2)) vs1) (gName i)) :=
  PSi (ps_setLc2 (tt := tYes) (tt1 := tYes) (vs1 := vs1) hc hN hy hyl hsw (PIm hi) ok hv hg (fun _ _ _ _ _ => pts_nil) (fun s H C cl fp => PIm (hi1 s H C cl fp)) hg1 (fun _ _ _ _ _ => pts_nil) (fun s H C cl fp => PEm (he s H C cl fp)) hs hs1) fun D σ H q => ⟨_, fun J H1 r => by
    unfold Comp2 at r
    exact r, q⟩
end
section
variable {J : It} {n : Nat} {Gd : Hp → Prop} {Y : Nat → V → Prop} {j j1 : Nat} {wi1 : TI} {te : TE} {vs vs1 : List Nat} {σ : L2.St} {Q : VK} {H1 : Hp}
/-- what the inner clause is to give: F1 behind k of its items -/
def Inner (j1 : Nat) (te : TE) (vs1 : List Nat) (σ2 : L2.St) (D : Addr) (acc0 : List V) (Fend : List V → Hp → Prop) (J1 : It) (H4 : Hp) : Prop :=
  H4 D = some (.lst acc0) ∧ ∃ (m : Nat) (G1 : Hp → Prop) (Y1 : Nat → V → Prop) (F1 : Nat → List V → Hp → Prop), Walk J1 m G1 (fun i H x H' => H' = H ∧ Y1 i x) ∧ F1 0 acc0 (off D H4) ∧ (∀ k acc H G, k ≤ m → F1 k acc G → Same G H → G1 H) ∧
    (∀ k z acc H5, k < m → Y1 k z → H5 D = some (.lst acc) → F1 k acc (off D H5) → wipe ((wipe σ2 vs1).set j1 (some z)) vs1 = wipe σ2 vs1 ∧
      te ((wipe σ2 vs1).set j1 (some z)) H5 fun y H6 => H6 D = some (.lst acc) ∧ acc.length < sizeLine ∧ F1 (k + 1) (acc ++ [y]) (off D H6)) ∧ ∀ acc G, F1 m acc G → Fend acc G
theorem comp2_by (w : Walk J n Gd (fun i H x H' => H' = H ∧ Y i x)) (F : Nat → List V → Hp → Prop) (h0 : F 0 [] H1) (hG : ∀ i acc H G, i ≤ n → F i acc G → Same G H → Gd H)
    (hs : ∀ D i x acc H', i < n → Y i x → H1 D = none → H' D = some (.lst acc) → F i acc (off D H') → wipe ((wipe σ vs).set j (some x)) vs = wipe σ vs ∧
      wi1 ((wipe σ vs).set j (some x)) H' (Inner j1 te vs1 ((wipe σ vs).set j (some x)) D acc (F (i + 1))))
    (hd : ∀ D H' acc, H1 D = none → H' D = some (.lst acc) → F n acc (off D H') → Q (.ref D) H') : Comp2 J j (mcI wi1) j1 (mcE te) vs vs1 σ Q H1 := by
  unfold Comp2
  intro D hD
  refine ⟨fun i m H => m = n - i ∧ i ≤ n ∧ ∃ acc, H D = some (.lst acc) ∧ F i acc (off D H), ⟨n, by simp, Nat.zero_le _, [], upd_same, by rw [off_upd, off_free hD]; exact h0⟩, ?_⟩
  rintro i m H ⟨rfl, hi, acc, e, f⟩
  have g := hG i acc H _ hi f off_same
  by_cases hlt : i < n
  · refine .inr ⟨w.goes i H hlt g, fun H' => ∃ acc, H' D = some (.lst acc) ∧ F (i + 1) acc (off D H'), fun H' ⟨acc, e, f⟩ => ⟨n - (i + 1), by omega, rfl, hlt, acc, e, f⟩, fun x H' y => ?_⟩
    obtain ⟨rfl, hy⟩ := w.yields i H x H' hlt g y
    obtain ⟨hw, hr⟩ := hs D i x acc _ hlt hy hD e f
    refine ⟨hw, _, fun J1 H4 r => ?_, hr⟩
    obtain ⟨e4, m, G1, Y1, F1, w1, f0, hG1, hs1, hend⟩ := r
    refine ⟨fun k mm H => mm = m - k ∧ k ≤ m ∧ ∃ acc, H D = some (.lst acc) ∧ F1 k acc (off D H), ⟨m, by simp, Nat.zero_le _, acc, e4, f0⟩, ?_⟩
    rintro k mm H5 ⟨rfl, hk, acc5, e5, f5⟩
    have g5 := hG1 k acc5 H5 _ hk f5 off_same
    by_cases hkt : k < m
    · refine .inr ⟨w1.goes k H5 hkt g5, fun H' => ∃ acc, H' D = some (.lst acc) ∧ F1 (k + 1) acc (off D H'), fun H' ⟨acc, e, f⟩ => ⟨m - (k + 1), by omega, rfl, hkt, acc, e, f⟩, fun z H6 y6 => ?_⟩
      obtain ⟨rfl, hy6⟩ := w1.yields k H5 z H6 hkt g5 y6
      obtain ⟨hw6, hr6⟩ := hs1 k z acc5 _ hkt hy6 e5 f5
      exact ⟨hw6, _, fun y H7 ⟨e7, l7, f7⟩ => ⟨acc5, e7, l7, acc5 ++ [y], upd_same, by rw [off_upd]; exact f7⟩, hr6⟩
    · have ek : k = m := by omega
      subst ek
      exact .inl ⟨w1.stops H5 g5, acc5, e5, hend _ _ f5⟩
  · have ei : i = n := by omega
    subst ei
    exact .inl ⟨w.stops H g, hd D H acc hD e f⟩
end
section
variable {K : PySem.W.Frag} {j j1 : Nat} {wi1 : TI} {te : TE} {vs vs1 : List Nat} {σ σ2 : L2.St} {Q : VK} {H1 : Hp}
theorem comp2_list {a : Addr} {xs : List V} (F : Nat → List V → Hp → Prop) (h0 : F 0 [] H1) (hG : ∀ i acc G, F i acc G → SqL K G a xs)
    (hs : ∀ D i x acc H', xs[i]? = some x → H1 D = none → H' D = some (.lst acc) → F i acc (off D H') → wipe ((wipe σ vs).set j (some x)) vs = wipe σ vs ∧
      wi1 ((wipe σ vs).set j (some x)) H' (Inner j1 te vs1 ((wipe σ vs).set j (some x)) D acc (F (i + 1))))
    (hd : ∀ D H' acc, H1 D = none → H' D = some (.lst acc) → F xs.length acc (off D H') → Q (.ref D) H') : (∃ ys, SqL K H1 a ys) ∧ Comp2 (Itl K a) j (mcI wi1) j1 (mcE te) vs vs1 σ Q H1 :=
  ⟨⟨xs, hG _ _ _ h0⟩, comp2_by walk_list F h0 (fun i acc H G _ f s => s.seq (hG i acc G f)) (fun D i x acc H' _ hx a b c => hs D i x acc H' hx a b c) hd⟩
theorem comp2_tup {a : Addr} {xs : List V} (F : Nat → List V → Hp → Prop) (h0 : F 0 [] H1) (hG : ∀ i acc G, F i acc G → SqT K G a xs)
    (hs : ∀ D i x acc H', xs[i]? = some x → H1 D = none → H' D = some (.lst acc) → F i acc (off D H') → wipe ((wipe σ vs).set j (some x)) vs = wipe σ vs ∧
      wi1 ((wipe σ vs).set j (some x)) H' (Inner j1 te vs1 ((wipe σ vs).set j (some x)) D acc (F (i + 1))))
    (hd : ∀ D H' acc, H1 D = none → H' D = some (.lst acc) → F xs.length acc (off D H') → Q (.ref D) H') : (∃ ys, SqT K H1 a ys) ∧ Comp2 (Itt K a) j (mcI wi1) j1 (mcE te) vs vs1 σ Q H1 :=
  ⟨⟨xs, hG _ _ _ h0⟩, comp2_by walk_tup F h0 (fun i acc H G _ f s => SqT_same (hG i acc G f) s) (fun D i x acc H' _ hx a b c => hs D i x acc H' hx a b c) hd⟩
/-- the inner clause walks a list and keeps its items -/
theorem inner_flat {b D : Addr} {zs acc0 : List V} {Fend : List V → Hp → Prop} {H4 : Hp} (hD : H4 D = some (.lst acc0)) (hb : SqL K (off D H4) b zs) (hz : acc0.length + zs.length < sizeLine) (hw : ∀ z, wipe ((wipe σ2 vs1).set j1 (some z)) vs1 = wipe σ2 vs1)
    (hv : ∀ z, ((wipe σ2 vs1).set j1 (some z))[j1]? = some (some z)) (he : ∀ G, Same (off D H4) G → Fend (acc0 ++ zs) G) : (∃ ys, SqL K H4 b ys) ∧ Inner j1 (gVar j1) vs1 σ2 D acc0 Fend (Itl K b) H4 := by
  refine ⟨⟨zs, off_same.seq hb⟩, hD, zs.length, fun H => SqL K H b zs, fun i x => zs[i]? = some x, fun k acc G => Same (off D H4) G ∧ acc = acc0 ++ zs.take k, walk_list, ⟨Same.refl _, by simp⟩, fun k acc H G _ f s => s.seq (f.1.seq hb), fun k z acc H5 hk hz5 e5 f5 => ⟨hw z, ?_⟩, fun acc G f => ?_⟩
  · unfold gVar
    rw [hv z]
    dsimp only
    refine ⟨e5, ?_, f5.1, ?_⟩
    · rw [f5.2, List.length_append, List.length_take]; omega
    · rw [f5.2, List.append_assoc, List.take_add_one, hz5]; rfl
  · obtain ⟨s, rfl⟩ := f
    rw [List.take_length]
    exact he G s
end
/-! ### xs[::-1] -/
end GG
/-! t[::-1] of a tuple, xs[::-1] of a list -/
namespace GG
open PySem PySem.Spec L2 PyProof.Rows
section
variable {X : Cx} {e : Expr} {te : TE} {k : Nat} {p1 p2 p3 pos : Pos}
def rNegG : V → Hp → VK → Prop := fun x H Q => match x with
  | .int i => Q (.int (-i)) H
  | _ => False
theorem un_negG : UnR X (unaryOp .USub) rNegG := fun pins s σ H x v Q I rx h => by
  unfold rNegG at h
  split at h
  · exact un_neg pins s σ H _ v Q I rx ⟨_, rfl, h⟩
  · exact h.elim
end
end GG
namespace GG
open PySem PySem.Spec L2
open PyProof.Rows (envOfC)
section
variable {P : Program} {w : World} {K : PySem.W.Frag} {mg : Str → Option Value} {base : Heap} {k : Nat} {sp : Sp} {N ps : List Str} {st : Stmt}
/-- a def by its body, the function object said -/
theorem fo_by {x : Str} {f : Addr} {fd : FuncData} (F : FunD K x x (defArgs st) (defBody st) (defScope st) [] [] f fd) (S : FnScope N ps (defScope st)) (len : ∀ vs H Q E, sp vs H Q E → vs.length = ps.length)
    (hb : ∀ (g : Addr) (cdv : Value) (A : Around) (outer : List Env) (s : Shared) (H : Hp) (vs : List V) (Q : VK) (E : XK), Room k (A.deeper (envOfC x (defScope st) s.heap.objs.size g cdv)) → sp vs H Q E →
      ∃ t, PSs (cxOf CX0 P w K mg base N x (defScope st) g cdv A outer s H E).nox (defBody st) t ∧ t { nx := fun _ H' => Q .non H', rt := Q } (start N vs) H) : FnOk P w K mg base CX0 (k + 1) f fd ps sp :=
  F.ok S len fun cdv A outer s H vs Q E hr h => (hb f cdv A outer s H vs Q E hr h).imp fun t q => ⟨q.1.nox, q.2⟩
end
end GG
/-! comprehensions clause by clause: one loop for a clause of any comprehension, whatever its body -/
namespace GG
open PySem PySem.Spec L2 PyProof.Rows
def turnOf (p : Pos) (it : Value) (t0 : Expr) (ifs : List Expr) (env : Env) (go : Sem PySem.Fin → Sem PySem.Fin) (k : Sem PySem.Fin) : Sem PySem.Fin := do
  standAt p
  match ← pyNext it with
  | none => pure (.done .next)
  | some v =>
    letOwnedTupleGo t0 it v
    assign t0 env v
    let mut ok := true
    for c in ifs do
      if ok then ok ← isTrue c env (eval c env)
    if ok then go k else k
abbrev TB := L2.St → Hp → (Hp → Prop) → Prop
/-- a clause's body leaves, for what comes behind it, a heap with N; the slots ws may have been stored -/
def Body (Y : Cx) (ws : List Nat) (go : Sem PySem.Fin → Sem PySem.Fin) (tb : TB) : Prop :=
  ∀ (pins : List (Addr × Obj)) (s : Shared) (σ : L2.St) (H : Hp) (N : Hp → Prop) (k : Sem PySem.Fin) (QF : PySem.Fin → Shared → Prop) (E : Value → Shared → Prop), Inv Y pins σ H s → tb σ H N →
    (∀ s' H', Inv Y pins (wipe σ ws) H' s' → N H' → wpAny (model Y.prog Y.w) Y.A k QF E s') → wpAny (model Y.prog Y.w) Y.A (go k) QF E s
/-- what one clause is asked, from H0 on, so that F holds behind its loop -/
def Cl (J : It) (g : TG) (tt : TT) (tb : TB) (vs : List Nat) (σ : L2.St) (H0 : Hp) (F : Hp → Prop) : Prop :=
  ∃ W : Nat → Nat → Hp → Prop, (∃ m, W 0 m H0) ∧ ∀ i m H, W i m H → (J.stop i H ∧ F H) ∨ (J.go i H ∧ ∃ Nx : Hp → Prop, (∀ H', Nx H' → ∃ m', m' < m ∧ W (i + 1) m' H') ∧
    ∀ x H', J.yld i H x H' → g x (wipe σ vs) H' fun σ2 H2 => wipe σ2 vs = wipe σ vs ∧ tt σ2 H2 fun b H3 => if b = true then tb σ2 H3 Nx else Nx H3)
section
variable {Y : Cx} {e t0 : Expr} {idx : Nat} {it : Addr} {acc : Value} {p : Pos} {ifs : List Expr} {go : Sem PySem.Fin → Sem PySem.Fin} {fp : List Addr} {tn : Nat → Heap → Prop} {J : It} {g : TG} {tt : TT} {tb : TB} {vs ws : List Nat} {σ : L2.St} {H0 : Hp} {F : Hp → Prop} {pins : List (Addr × Obj)} {R : Result → Shared → Prop} {s : Shared}
theorem thnX {α : Type} {t : Sem α} {M : Model} {A : Around} {X E : Value → Shared → Prop} {Q Q' : α → Shared → Prop} (hx : ∀ e s, X e s → False) (h : wpAny M A t Q X s) (hQ : ∀ a s, Q a s → Q' a s) : wpAny M A t Q' E s := wpAny_mono h hQ fun e s z => (hx e s z).elim
theorem clause_loop (hu : Y.A.under (.compLoop e idx (.ref it) acc Y.env) = Y.A) (hd : (model Y.prog Y.w).den (.compLoop e idx (.ref it) acc Y.env) = (compTurn e idx (.ref it) acc Y.env).onRaise fun x => do noteFrame x Y.env; theTreesLotGoes x) (hc : Y.calm = true) (hx : ∀ e s, Y.xe e s → False) (turn : compTurn e idx (.ref it) acc Y.env = turnOf p (.ref it) t0 ifs Y.env go (again (.compLoop e idx (.ref it) acc Y.env)))
    (T : Turn Y.prog Y.w Y.K t0 J fp it tn) (pg : PG Y t0 g) (pt : PTs Y ifs tt) (pb : Body Y ws go tb) (hw : ∀ i ∈ ws, i ∈ vs) (stat : ∀ H' : Hp, (∀ b ∈ fp, H' b = none) → ∀ b ∈ fp, FpOk Y pins H' b)
    (I : Inv Y pins (wipe σ vs) H0 s) (st : tn 0 s.heap) (nf : ∀ b ∈ fp, H0 b = none) (h : Cl J g tt tb vs σ H0 F) (fin : ∀ s' H', Inv Y pins (wipe σ vs) H' s' → F H' → R (.ok .next) s') :
    codeAny (model Y.prog Y.w) Y.A (.compLoop e idx (.ref it) acc Y.env) R s := by
  obtain ⟨W, ⟨m0, w0⟩, step⟩ := h
  refine codeAny_loop rfl (fun n s' => ∃ i H', Inv Y pins (wipe σ vs) H' s' ∧ tn i s'.heap ∧ (∀ b ∈ fp, H' b = none) ∧ W i n H') (fun n s5 ⟨i, H5, I5, st5, n5, w5⟩ => ?_) m0 ⟨0, H0, I, st, nf, w0⟩
  rw [hu, hd, turn]
  refine wpAny_noted ?_
  unfold turnOf
  refine wpAny_bind (wpAny_standAt (wpAny_bind ?_))
  rcases step i n H5 w5 with ⟨stop, fq⟩ | ⟨goes, Nx, hN, stp⟩
  · refine thnF (T.done Y rfl rfl rfl hc i pins s5 _ H5 (fun _ _ => False) I5 (stat H5 n5) st5 stop) fun r s6 ⟨hr, I6⟩ => ?_
    subst hr; exact wpAny_pure (fin s6 H5 I6 fq)
  · refine thnF (T.item Y rfl rfl rfl hc i pins s5 _ H5 (fun _ _ => False) I5 (stat H5 n5) st5 goes) fun r s6 ⟨u, hr, h6⟩ => ?_
    subst hr
    refine wpAny_bind (thnF h6 fun _ s7 ⟨x, H7, I7, r7, y7, st7, n7⟩ => ?_)
    refine wpAny_bind (thnX hx (pg.run _ s7 _ H7 x u _ (I7.pinned (stat H7 n7) (T.obj _ _ st7)) r7 (stp x H7 y7)) fun _ s8 ⟨σ8, H8, I8, hw8, q8⟩ => ?_)
    refine wpAny_bind (thnX hx (pt.run _ s8 σ8 H8 _ I8 q8) fun b s9 ⟨H9, I9, q9⟩ => ?_)
    have back : ∀ {σ9 : L2.St} {s' : Shared} {H' : Hp}, Inv Y (pins ++ pinsAt fp s7.heap) σ9 H' s' → (wipe σ vs).length = σ9.length → (∀ (j : Nat) v, (wipe σ vs)[j]? = some (some v) → σ9[j]? = some (some v)) → Nx H' →
        ∃ m, m < n ∧ ∃ i H', Inv Y pins (wipe σ vs) H' s' ∧ tn i s'.heap ∧ (∀ b ∈ fp, H' b = none) ∧ W i m H' := fun {σ9 s' H'} I' hl hk nx => by
      obtain ⟨m', hm, w'⟩ := hN H' nx
      have there : ∀ b ∈ fp, ∀ o, s7.heap.get? b = some o → s'.heap.get? b = some o ∧ H' b = none := fun b hb o eo =>
        ⟨(I'.pin (b, o) (List.mem_append_right _ (List.mem_append_right _ (mem_pinsAt hb eo)))).1, (I'.pin (b, o) (List.mem_append_right _ (List.mem_append_right _ (mem_pinsAt hb eo)))).2.1⟩
      exact ⟨m', hm, i + 1, H', (I'.unpinned (pins := pins)).weak hl hk, T.keep _ _ _ st7 fun b hb o eo => (there b hb o eo).1, fun b hb => let ⟨o, eo, _⟩ := T.obj _ _ st7 b hb; (there b hb o eo).2, w'⟩
    have l8 : (wipe σ vs).length = σ8.length := by rw [← hw8, wipe_length]
    have k8 : ∀ (j : Nat) v, (wipe σ vs)[j]? = some (some v) → σ8[j]? = some (some v) ∧ j ∉ vs := fun j v ej => by rw [← hw8] at ej; exact wipe_some ej
    have lp : ∀ (s' : Shared), (∃ m, m < n ∧ ∃ i H', Inv Y pins (wipe σ vs) H' s' ∧ tn i s'.heap ∧ (∀ b ∈ fp, H' b = none) ∧ W i m H') → wpAny (model Y.prog Y.w) Y.A (again (.compLoop e idx (.ref it) acc Y.env))
        (fun fin s' => match fin with | .done f => R (.ok f) s' | .again c' => c' = .compLoop e idx (.ref it) acc Y.env ∧ ∃ m, m < n ∧ ∃ i H', Inv Y pins (wipe σ vs) H' s' ∧ tn i s'.heap ∧ (∀ b ∈ fp, H' b = none) ∧ W i m H') (notedBy (model Y.prog Y.w) Y.A Y.env fun e s' => R (.error e) s') s' := fun s' z => wpAny_pure ⟨rfl, z⟩
    cases b with
    | false => exact lp s9 (back I9 l8 (fun j v ej => (k8 j v ej).1) (by simpa using q9))
    | true =>
      refine pb _ s9 σ8 H9 Nx _ _ _ I9 (by simpa using q9) fun s' H' I' nx => lp s' (back I' (l8.trans (wipe_length σ8 ws).symm) (fun j v ej => ?_) nx)
      obtain ⟨e1, e2⟩ := k8 j v ej
      rw [wipe_out fun z => e2 (hw j z)]; exact e1
end
end GG
/-! sets made by comprehensions, items ints -/
namespace GG
open PySem PySem.Spec L2 PyProof.Rows
/-- the set at a with one more member -/
def moreO (w : World) (a : Addr) (S : Int → Bool) (n : Nat) (c : Int) : HO := SetO w a (fun j => S j || decide (j = c)) (if S c = true then n else n + 1)
section
variable {Y : Cx} {D : Addr} {elt i1 t1 : Expr} {ws vs1 : List Nat} {te : TE} {env : Env}
theorem set_more {pins : List (Addr × Obj)} {σ : L2.St} {H : Hp} {s : Shared} {E : Value → Shared → Prop} {S : Int → Bool} {n : Nat} {c : Int} {v : Value} {Q : Value → Shared → Prop} (I : Inv Y pins σ H s) (hD : H D = some (SetO Y.w D S n)) (room : n + 1 < scanBound) (r : RelV (.int c) v)
    (h : ∀ s', Inv Y pins σ (upd H D (moreO Y.w D S n c)) s' → Q .none s') : wpAny (model Y.prog Y.w) Y.A (call (.builtin "set.add") [.ref D, v]) Q E s := by
  obtain ⟨tk, rfl⟩ := r
  refine setR_add (setO_get I hD) room fun h' sb new => h _ (I.write (e := D) (t' := s.toks + 1) (by rw [hD]; trivial) (.inl rfl) (fun b u hb hu => (sb.2 b hb).trans hu) ?_ (setO_new new))
  obtain ⟨o, _, _, _, ho, _⟩ := new
  exact ⟨o, ho⟩
/-- the last clause's body: the item goes in -/
def tAdd (w : World) (D : Addr) (te : TE) : TB := fun σ H N => te σ H fun y H1 => match y with
  | .int c => ∃ S n, H1 D = some (SetO w D S n) ∧ n + 1 < scanBound ∧ ∀ H2, SameX D H1 H2 → H2 D = some (moreO w D S n c) → N H2
  | _ => False
def goAdd (elt : Expr) (acc : Value) (env : Env) (k : Sem PySem.Fin) : Sem PySem.Fin := (do let v ← eval elt env; standAt elt.pos; let _ ← call (.builtin "set.add") [acc, v]) >>= fun (_ : Unit) => k
theorem body_add (hx : ∀ e s, Y.xe e s → False) (he : PE Y elt te) : Body Y [] (goAdd elt (.ref D) Y.env) (tAdd Y.w D te) := by
  intro pins s σ H N k QF E I h hk
  unfold goAdd
  refine wpAny_bind (wpAny_bind (thnX hx (he.run pins s σ H _ I h) fun v s1 ⟨y, H1, I1, r1, q1⟩ => ?_))
  refine wpAny_bind (wpAny_standAt (wpAny_bind ?_))
  dsimp only at q1
  split at q1
  next c =>
    obtain ⟨S, n, hD, room, q⟩ := q1
    exact set_more I1 hD room r1 fun s2 I2 => wpAny_pure (hk s2 _ I2 (q _ SameX.upd upd_same))
  next => exact q1.elim
end
end GG
/-! the set as a value -/
namespace GG
open PySem PySem.Spec L2 PyProof.Rows
/-- {.. for tg in iter if .. (for ..)} -/
def tSet (w : World) (wi : TI) (g : TG) (tt : TT) (tb : Addr → TB) (vs : List Nat) : TE := fun σ H Q => wi σ H fun J H1 => ∀ D H2, H1 D = none → Same H1 H2 → off D H2 = H1 → H2 D = some (SetO w D (fun _ => false) 0) → Cl J g tt (tb D) vs σ H2 fun H3 => Q (.ref D) H3
section
variable {X : Cx} {elt tg iter : Expr} {ifs : List Expr} {rest : List Comprehension} {scope : Scope} {own : List (Str × Nat)} {pos : Pos} {wi : TI} {g : TG} {tt : TT} {tb : Addr → TB} {ws : List Nat}
theorem pe_set (go : Env → Value → Sem PySem.Fin → Sem PySem.Fin) (hc : X.calm = true) (hN : X.N.Nodup) (hi : PI X tg iter wi) (ok : BlkOk X.N X.env.scope scope own) (hw : ∀ i ∈ ws, i ∈ own.map (·.2))
    (hg : ∀ (s : Shared) (H : Hp) (C : Addr) (cl : List (Str × Addr)) (fp : List Addr), PG (X.blk s H scope (compEnvC scope cl C X.env) fp) tg g)
    (ht : ∀ (s : Shared) (H : Hp) (C : Addr) (cl : List (Str × Addr)) (fp : List Addr), PTs (X.blk s H scope (compEnvC scope cl C X.env) fp) ifs tt)
    (hb : ∀ (s : Shared) (H : Hp) (C : Addr) (cl : List (Str × Addr)) (fp : List Addr) (D : Addr), Body (X.blk s H scope (compEnvC scope cl C X.env) fp) ws (go (compEnvC scope cl C X.env) (.ref D)) (tb D))
    (turn : ∀ (env : Env) (it acc : Value), compTurn (.SetComp elt (⟨tg, iter, ifs, 0⟩ :: rest) scope pos) 0 it acc env = turnOf iter.pos it tg ifs env (go env acc) (again (.compLoop (.SetComp elt (⟨tg, iter, ifs, 0⟩ :: rest) scope pos) 0 it acc env)))
    (hs : ∀ x, foldedSetIterable iter X.env x = pure x := by intro _; rfl) : PE X (.SetComp elt (⟨tg, iter, ifs, 0⟩ :: rest) scope pos) (tSet X.w wi g tt tb (own.map (·.2))) := by
  refine ⟨fun pins s σ H Q I h => ?_⟩
  rw [PpSet.eval_SetComp]
  have free : ∀ y ∈ scope.names, y.2 = .free → ∃ c, X.env.cells.lookup y.1 = some c := fun y hy ey => (ok.free y hy ey).elim (fun k => I.ok.has _ (.inl k)) fun k => I.ok.has _ (.inr k)
  refine wpAny_comprehension_free (use := none) rfl hs (closure_ok free) ok.kind (fun y hy ey => (ok.uniq y hy).trans (congrArg some ey)) (thn (hi.run pins s σ H _ I h) fun xv s1 h1 => thn h1 fun itv s2 h2 => ?_)
  obtain ⟨it, fp, tn, J, H2, ei, I2, T, st2, f2, q⟩ := h2
  subst ei
  refine PpSet.newSet_ok (newEnv_comp ?_)
  have hDn : H2 s2.heap.objs.size = none := I2.hok.fresh (Nat.le_refl _)
  have q := q s2.heap.objs.size (upd H2 s2.heap.objs.size (SetO X.w s2.heap.objs.size (fun _ => false) 0)) hDn (Sm.new hDn) (by rw [off_upd, off_free hDn]) upd_same
  have up : ∀ b o, s2.heap.get? b = some o → (s2.heap.push { cls := .type "set", dict := none, data := .set #[] 0 (.fresh 0 0 (!X.w.params.followText "set-order")) }).get? b = some o := fun b o eo => Heap.get?_push_of_some _ eo
  have I3 : Inv X pins σ (upd H2 s2.heap.objs.size (SetO X.w s2.heap.objs.size (fun _ => false) 0)) { s2 with heap := s2.heap.push { cls := .type "set", dict := none, data := .set #[] 0 (.fresh 0 0 (!X.w.params.followText "set-order")) } } :=
    I2.laid (t' := s2.toks) up (Nat.le_refl _) (setO_new (setR_fresh X.w))
  have lt : ∀ b ∈ fp, b < s2.heap.objs.size := fun b hb => let ⟨o, eo, _⟩ := T.obj _ _ st2 b hb; Heap.lt_size eo
  generalize hO : SetO X.w s2.heap.objs.size (fun _ => false) 0 = o0 at q I3
  generalize hD : s2.heap.objs.size = D at q I3 hDn lt hO ⊢
  generalize hS3 : ({ s2 with heap := s2.heap.push { cls := .type "set", dict := none, data := .set #[] 0 (.fresh 0 0 (!X.w.params.followText "set-order")) } } : Shared) = s3 at I3
  have e3 : s3.heap = s2.heap.push { cls := .type "set", dict := none, data := .set #[] 0 (.fresh 0 0 (!X.w.params.followText "set-order")) } := by rw [← hS3]
  have f3 : ∀ b ∈ fp, FpOk X pins (upd H2 D o0) b ∧ b < s3.heap.objs.size := fun b hb =>
    ⟨⟨by rw [upd_ne (Nat.ne_of_lt (lt b hb))]; exact (f2 b hb).1, (f2 b hb).2⟩, by rw [e3, Heap.size_push, hD]; exact Nat.lt_succ_of_lt (lt b hb)⟩
  have B := block_start I3 ok hN f3
  have st4 : tn 0 (pushCells (s3.heap.push { cls := .type "dict", data := .dict #[] }) scope.names) := T.keep _ _ _ st2 fun b _ o eo => pushCells_keeps _ _ _ _ (Heap.get?_push_of_some _ (by rw [e3]; exact up b o eo))
  have gg := hg s3 (upd H2 D o0) s3.heap.objs.size (cellsFrom (s3.heap.objs.size + 1) scope.names (cloFrom X.env.cells scope.names [])) fp
  have tt' := ht s3 (upd H2 D o0) s3.heap.objs.size (cellsFrom (s3.heap.objs.size + 1) scope.names (cloFrom X.env.cells scope.names [])) fp
  have bb := hb s3 (upd H2 D o0) s3.heap.objs.size (cellsFrom (s3.heap.objs.size + 1) scope.names (cloFrom X.env.cells scope.names [])) fp D
  have stat : ∀ H' : Hp, (∀ b ∈ fp, H' b = none) → ∀ b ∈ fp, FpOk (X.blk s3 (upd H2 D o0) scope (compEnvC scope (cellsFrom (s3.heap.objs.size + 1) scope.names (cloFrom X.env.cells scope.names [])) s3.heap.objs.size X.env) fp) [] H' b := fun H' hn b hb =>
    ⟨hn b hb, (B.ok.exf b hb).1, B.ok.exfs b hb, .inl hb, fun x c eo => (B.ok.exf b hb).2 x c eo, fun p hp => absurd (show p ∈ ([] : List (Addr × Obj)) ++ [] from hp) (by simp)⟩
  have loop := clause_loop (Y := X.blk s3 (upd H2 D o0) scope (compEnvC scope (cellsFrom (s3.heap.objs.size + 1) scope.names (cloFrom X.env.cells scope.names [])) s3.heap.objs.size X.env) fp) (pins := []) (R := compPost (model X.prog X.w) X.A X.xe none (EP X pins σ Q) (.ref D) s3.heap.objs.size) rfl rfl hc (fun _ _ z => z) (turn _ _ _) T gg tt' bb hw stat B st4 (fun b hb => (f3 b hb).1.1) q fun s6 H6 I6 qq => by
    have back : Inv X pins σ H6 s6 := I3.call' (ch := fp) I6.os I6.base I6.hok I6.bare fun b hb => ⟨(f3 b hb).1.2.2.2.1, (f3 b hb).1.2.1, (f3 b hb).1.2.2.2.2.1, (f3 b hb).1.2.2.2.2.2⟩
    obtain ⟨m, hn, _⟩ := I6.loc
    have fr : FpOk X pins H6 s3.heap.objs.size := I3.fpOk (Nat.le_refl _) I6.free
    refine ⟨m, hn, fun h'' sb => ?_⟩
    obtain ⟨f0, f1, f2, f3, f4, f5⟩ := fr
    exact ⟨.ref D, H6, back.turned (t' := s6.toks) (fun b o hb eo => (sb.2 b hb).trans eo) f0 f1 f3 f4 f5, rfl, qq⟩
  exact PpSet.codeAny_compStart_set loop (T.self X.A 0 _ _ _ st4 loop)
end
end GG
namespace GG
open PySem PySem.Spec L2 PyProof.Rows
section
variable {X : Cx} {elt tg iter tg1 iter1 : Expr} {ifs ifs1 : List Expr} {scope : Scope} {own : List (Str × Nat)} {pos : Pos} {wi wi1 : TI} {g g1 : TG} {tt tt1 : TT} {te : TE} {vs1 : List Nat}
/-- {elt for tg in iter if ..} -/
theorem k_set1 (w : World) (hw : X.w = w) (hc : X.calm = true) (hN : X.N.Nodup) (hi : PI X tg iter wi) (ok : BlkOk X.N X.env.scope scope own)
    (hg : ∀ (s : Shared) (H : Hp) (C : Addr) (cl : List (Str × Addr)) (fp : List Addr), PG (X.blk s H scope (compEnvC scope cl C X.env) fp) tg g)
    (ht : ∀ (s : Shared) (H : Hp) (C : Addr) (cl : List (Str × Addr)) (fp : List Addr), PTs (X.blk s H scope (compEnvC scope cl C X.env) fp) ifs tt)
    (he : ∀ (s : Shared) (H : Hp) (C : Addr) (cl : List (Str × Addr)) (fp : List Addr), PE (X.blk s H scope (compEnvC scope cl C X.env) fp) elt te) (hs : ∀ x, foldedSetIterable iter X.env x = pure x := by intro _; rfl) :
    PE X (.SetComp elt [⟨tg, iter, ifs, 0⟩] scope pos) (tSet w wi g (mcT tt) (fun D => tAdd w D te) (own.map (·.2))) := by
  subst hw
  exact pe_set (ws := []) (goAdd elt |> fun f env acc => f acc env) hc hN hi ok (fun i z => by simp at z) hg (fun s H C cl fp => PTsm (ht s H C cl fp)) (fun s H C cl fp D => body_add (fun _ _ z => z) (he s H C cl fp)) (fun env it acc => by rfl) hs
end
end GG
/-! list comprehensions with any target; dicts with text keys; sorted sets -/
namespace GG
open PySem PySem.Spec L2
section
variable {J : It} {n : Nat} {Gd : Hp → Prop} {Y : Nat → V → Prop} {g : TG} {tt : TT} {te : TE} {vs : List Nat} {σ : L2.St} {Q : VK} {H1 : Hp}
/-- the target's reading is closed upwards -/
def UpG (g : TG) : Prop := ∀ v σ H (Q Q' : L2.St → Hp → Prop), (∀ σ H, Q σ H → Q' σ H) → g v σ H Q → g v σ H Q'
/-- (a, b) as a target -/
def tg2 (K : PySem.W.Frag) (i j : Nat) : TG := gTup K 2 (gCons (gName i) (gCons (gName j) gNil))
theorem tg2_up {K : PySem.W.Frag} {i j : Nat} : UpG (tg2 K i j) := fun v σ H Q Q' h q => by
  obtain ⟨a, xs, e, hs, hl, v1, r1, e1, v2, r2, e2, e3, q⟩ := q
  exact ⟨a, xs, e, hs, hl, v1, r1, e1, v2, r2, e2, e3, h _ _ q⟩
theorem tg2_of {K : PySem.W.Frag} {i j : Nat} {a : Addr} {u v : V} {σ : L2.St} {H : Hp} {Q : L2.St → Hp → Prop} (h : H a = some (.tup [u, v])) (q : Q ((σ.set i (some u)).set j (some v)) H) : tg2 K i j (.ref a) σ H Q :=
  ⟨a, [u, v], rfl, SqT.of h, rfl, u, [v], rfl, v, [], rfl, rfl, q⟩
end
/-! ### dicts -/
section
variable {X : Cx} {o i : Expr} {td ty : TE} {pos : Pos}
def gDGet (td ty : TE) : TE := fun σ H Q => td σ H fun x H1 => ty σ H1 fun y H2 => match x, y with
  | .ref a, .str z => ∃ kvs v, H2 a = some (.dK kvs) ∧ valV kvs (.inr z) = some v ∧ Q v H2
  | _, _ => False
theorem g_dget (hu : X.A.units + 1 < cLine) (ho : PE X o td) (hi : PE X i ty) (hs : NoSl i := by intro _ _; rfl) : PE X (.Subscript o i pos) (gDGet td ty) :=
  PEi (pe_dget hu (PEm ho) (PEm hi) hs) fun σ H Q q => ⟨_, fun x H1 r => ⟨_, fun y H2 r2 => by
    split at r2
    · obtain ⟨kvs, v, h1, h2, q⟩ := r2
      exact ⟨_, v, rfl, .inl ⟨kvs, .inr _, .inl h1, rfl, h2.symm⟩, q⟩
    · exact r2.elim, r⟩, q⟩
def gDNew : TE := fun _ H Q => ∀ p H', H p = none → Same H H' → H' p = some (.dK []) → Q (.ref p) H'
theorem g_dnew : PE X (.Dict [] [] pos) gDNew := PEi pe_dnewK fun σ H Q q => fun p hp => q p _ hp (Sm.new hp) upd_same
def rDSet : V → V → V → Hp → (Hp → Prop) → Prop := fun o i v H Q => match o, i with
  | .ref a, .str z => ∃ kvs, H a = some (.dK kvs) ∧ kvs.length < sizeLine ∧ ∀ H', SameX a H H' → H' a = some (.dK (putK kvs (.inr z) v)) → Q H'
  | _, _ => False
theorem s_dict (hu : X.A.units + 1 < cLine) : PSet X rDSet := fun pins s σ H o i v ov iv u Q I ro ri rv h => by
  unfold rDSet at h
  split at h
  · obtain ⟨kvs, h1, h2, h3⟩ := h
    exact set_dict hu pins s σ H _ _ v ov iv u Q I ro ri rv ⟨_, _, rfl, .inl ⟨kvs, .inr _, h1, rfl, h2, rfl⟩, h3 _ SameX.upd upd_same⟩
  · exact h.elim
end
/-! ### sets of ints, sorted -/
def SetL (w : World) (H : Hp) (D : Addr) (l : List Int) : Prop := ∃ S n, H D = some (SetO w D S n) ∧ (∀ k, S k = true ↔ k ∈ l) ∧ n ≤ l.length
theorem SetL.nil {w : World} {H : Hp} {D : Addr} (h : H D = some (SetO w D (fun _ => false) 0)) : SetL w H D [] := ⟨_, 0, h, fun k => by simp, Nat.le_refl _⟩
def rSortSet (w : World) : List V → Hp → VK → Prop := fun vs H Q => match vs with
  | [.ref a] => ∃ l, SetL w H a l ∧ l.length < 64 ∧ ∀ (ns : List Int) p H', ns.Pairwise (· < ·) → (∀ k, k ∈ ns ↔ k ∈ l) → H p = none → Same H H' → H' p = some (.lst (ns.map V.int)) → Q (.ref p) H'
  | _ => False
theorem c_sortSet {X : Cx} (w : World) (hw : X.w = w) (hc : X.calm = true) : CallR X (.builtin "sorted") (rSortSet w) := by
  subst hw
  exact CallRi (cr_sortedSet hc) fun xs H Q h => by
    unfold rSortSet at h
    split at h
    · obtain ⟨l, ⟨S, n, h1, h2, h3⟩, h4, h5⟩ := h
      exact ⟨_, S, n, rfl, h1, by omega, fun ns p a b c d => h5 ns p _ a (fun k => (b k).trans (h2 k)) d (Sm.new d) upd_same⟩
    · exact h.elim
/-- a clause's loop over something that stays -/
theorem cl_by {J : It} {n : Nat} {Gd : Hp → Prop} {Y : Nat → V → Prop} {g : TG} {tt : TT} {tb : TB} {vs : List Nat} {σ : L2.St} {H1 : Hp} {F : Hp → Prop} (ug : UpG g) (w : Walk J n Gd (fun i H x H' => H' = H ∧ Y i x)) (Pv : Nat → Hp → Prop) (h0 : Pv 0 H1) (hG : ∀ i H, i ≤ n → Pv i H → Gd H)
    (hs : ∀ i x H, i < n → Y i x → Pv i H → g x (wipe σ vs) H fun σ2 H2 => wipe σ2 vs = wipe σ vs ∧ tt σ2 H2 fun b H3 => way b (tb σ2 H3 (Pv (i + 1))) (Pv (i + 1) H3)) (hd : ∀ H, Pv n H → F H) : Cl J g (mcT tt) tb vs σ H1 F := by
  refine ⟨fun i m H => m = n - i ∧ i ≤ n ∧ Pv i H, ⟨n, by simp, Nat.zero_le _, h0⟩, ?_⟩
  rintro i m H ⟨rfl, hi, p⟩
  have gd := hG i H hi p
  by_cases hlt : i < n
  · refine .inr ⟨w.goes i H hlt gd, Pv (i + 1), fun H' p' => ⟨n - (i + 1), by omega, rfl, hlt, p'⟩, fun x H' y => ?_⟩
    obtain ⟨rfl, hy⟩ := w.yields i H x H' hlt gd y
    exact ug _ _ _ _ _ (fun σ2 H2 ⟨q1, q2⟩ => ⟨q1, _, fun b H3 r => by rw [way_eq] at r; exact r, q2⟩) (hs i x _ hlt hy p)
  · have ei : i = n := by omega
    subst ei
    exact .inl ⟨w.stops H gd, hd H p⟩
theorem gName_up {j : Nat} : UpG (gName j) := fun v σ H Q Q' h q => h _ _ q
theorem cl_list {K : PySem.W.Frag} {a : Addr} {xs : List V} {g : TG} {tt : TT} {tb : TB} {vs : List Nat} {σ : L2.St} {H1 : Hp} {F : Hp → Prop} (ug : UpG g) (Pv : Nat → Hp → Prop) (h0 : Pv 0 H1) (hG : ∀ i H, i ≤ xs.length → Pv i H → SqL K H a xs)
    (hs : ∀ i x H, xs[i]? = some x → Pv i H → g x (wipe σ vs) H fun σ2 H2 => wipe σ2 vs = wipe σ vs ∧ tt σ2 H2 fun b H3 => way b (tb σ2 H3 (Pv (i + 1))) (Pv (i + 1) H3)) (hd : ∀ H, Pv xs.length H → F H) : (∃ ys, SqL K H1 a ys) ∧ Cl (Itl K a) g (mcT tt) tb vs σ H1 F :=
  ⟨⟨xs, hG 0 H1 (Nat.zero_le _) h0⟩, cl_by ug walk_list Pv h0 hG (fun i x H _ hx p => hs i x H hx p) hd⟩
end GG
namespace GG
open PySem PySem.Spec L2
theorem k_tg2 {X : Cx} (K : PySem.W.Frag) (h : X.K = K) {a b : Expr} {k : Nat} {pos : Pos} {i j : Nat} (hc : X.calm = true) (h1 : PG X a (gName i)) (h2 : PG X b (gName j)) (hs : (assignEach [a, b] X.env).map (·.2) = assign a X.env :: (assignEach [b] X.env).map (·.2) := by rfl)
    (hs2 : (assignEach [b] X.env).map (·.2) = assign b X.env :: (assignEach [] X.env).map (·.2) := by rfl) (hn : (assignEach [a, b] X.env).length = 2 := by rfl) (hst : (assignEach [a, b] X.env).findIdx? (·.1) = none := by rfl) : PG X (.Tuple [a, b] k pos) (tg2 K i j) := by
  subst h; exact pg_tup hc (pgs_cons h1 (pgs_cons h2 pgs_nil hs2) hs) hn hst
end GG
namespace GG
open PySem PySem.Spec L2
end GG
namespace GG
open PySem PySem.Spec PyProof.Rows L2
section
variable {prog : Program} {w : World} {A : Around}
/-- set(l), l a list whose items are keys -/
theorem set_list_ints {keys : List Int} {l : Addr} {items : Array Value} {E : Value → Shared → Prop} {s : Shared} {Q : Value → Shared → Prop} (hh : A.handled = none) (hl : s.heap.IsList l items) (hsz : items.size = keys.length)
    (hi : ∀ (i : Nat) (v : Value), items[i]? = some v → ∃ k t, keys[i]? = some k ∧ v = .int k t) (hb : keys.length + 1 < scanBound)
    (h : ∀ (h' : Heap) (tk c : Nat), SetR w h' s.heap.objs.size (fun z => decide (z ∈ keys)) c → c ≤ keys.length → (∀ b o, b < s.heap.objs.size → s.heap.get? b = some o → h'.get? b = some o) → Q (.ref s.heap.objs.size) { s with heap := h', toks := tk }) :
    wpAny (model prog w) A (call (.type "set") [.ref l]) Q E s := by
  obtain ⟨c, tl, hmro⟩ := PySem.F.called_set.mro
  have hmade := PySem.F.called_set.made
  have hsub := PySem.F.called_set.sub
  have h1 := PySem.F.called_set.notType
  have h2 := PySem.F.called_set.canCreate
  have hct := PySem.F.typeCall_set_1 (.ref l)
  refine wpAny_call (codeAny_of_tree ?_)
  show wpAny _ _ (callAny (.type "set") _) _ _ _
  refine wpAny_pure ⟨Code.quiet_builtin _ (by decide +kernel), codeAny_builtin PySem.F.entry_type_call ?_⟩
  rw [Around.under_plain (weight_type_call_type "set" [.ref l] []) rfl]
  repeat (any_goals (first | assumption | wp_step))
  let newSet : Bool → Obj := fun led => { cls := .type "set", dict := none, data := .set #[] 0 (.fresh 0 0 led) }
  generalize hled : (!w.params.followText "set-order") = led
  refine codeAny_mono (code_set_led1 (.ref l) (E := E) (Q₁ := fun obj s1 => obj = .ref s.heap.objs.size ∧ s1 = { s with heap := s.heap.push (newSet led) }) ⟨rfl, by rw [← hled]⟩) fun r s1 hr => ?_
  match r, hr with
  | .error e, hr => exact hr
  | .ok (.ret obj), hr =>
    obtain ⟨rfl, rfl⟩ := hr
    have hS : (s.heap.push (newSet led)).get? s.heap.objs.size = some (newSet led) := Heap.get?_push_size _ rfl
    have hT : Shared.TypeIs { s with heap := s.heap.push (newSet led) } (.ref s.heap.objs.size) "set" := ⟨_, hS, rfl⟩
    have hli := PySem.F.called_set.init.lookup
    have hbi := PySem.F.called_set.init.bind (.ref s.heap.objs.size)
    repeat (any_goals (first | assumption | wp_step))
    refine codeAny_mono (codeAny_call_builtin (R := wants (fun r s2 => r = .none ∧ ∃ h' tk c, s2 = { s with heap := h', toks := tk } ∧
        SetR w h' s.heap.objs.size (fun z => decide (z ∈ keys)) c ∧ c ≤ keys.length ∧ ∀ b o, b < s.heap.objs.size → s.heap.get? b = some o → h'.get? b = some o) E) PySem.F.called_set.init.plain PySem.F.entry_set_init (check_set_init_1 hT ?_)) fun r2 s2 hr2 => ?_
    · obtain ⟨⟨ocls, odict, odata, oslots⟩, hol, hcl, nl, hdl⟩ := hl
      simp only at hcl hdl
      subst hcl; subst hdl
      have hol' : (s.heap.push (newSet led)).get? l = some { cls := .type "list", dict := odict, data := .seq items nl, slots := oslots } := Heap.get?_push_of_some _ hol
      have hsls := PySem.F.sub_list_set
      have hslf := PySem.F.sub_list_frozenset
      have hne : (Value.type "list" == Value.type "dict") = false := by decide
      have hl1 : (s.heap.push (newSet led)).IsList l items := ⟨_, hol', rfl, nl, rfl⟩
      unfold Builtin.«set.__init__» noKeywords Builtin.Frozenset.updateFrom
      generalize hPI : pyIter = PI
      wp_walk
      subst hPI
      refine wpAny_pyIter_list hl1 ?_
      refine wpAny_bind (wpAny_runValue ?_)
      have hlS : l < s.heap.objs.size := Heap.lt_size hol
      have hh3 : A.in1.in1.in1.handled = none := by simp [hh]
      have hneI : l ≠ (s.heap.push (newSet led)).objs.size := by rw [Heap.size_push]; exact Nat.ne_of_lt (Nat.lt_succ_of_lt hlS)
      have hSf : s.heap.objs.size ∉ [(s.heap.push (newSet led)).objs.size, l] := by
        rw [Heap.size_push]
        simp only [List.mem_cons, List.not_mem_nil, or_false, not_or]
        exact ⟨Nat.ne_of_lt (Nat.lt_succ_self _), Nat.ne_of_gt hlS⟩
      have W0 := (Walks.list (prog := prog) (w := w) hh3 _ l hneI items).toS
      refine set_update_ints W0 s.heap.objs.size hSf keys hsz hb (fun i v hv => hi i v hv) (items.size - 0) 0 _ (by omega) (Nat.zero_le _) ⟨⟨_, Heap.get?_push_size _ rfl, rfl, rfl⟩, (hl1.push _)⟩ ?_ ?_
      · have hget : ((s.heap.push (newSet led)).push { cls := .type "list_iterator", data := .fields #[.ref l, .int 0 0] }).get? s.heap.objs.size = some (newSet led) := Heap.get?_push_of_some _ hS
        exact ⟨0, Nat.le_refl 0, setR_new_at (by rw [hget, ← hled])⟩
      · intro s' c' hm hc' hS'
        obtain ⟨h', g', d', tk', os'⟩ := s'
        have eg : g' = s.gens := hm.gens
        have ed : d' = s.drawn := hm.drawn
        have eo : os' = s.os := hm.os
        subst eg; subst ed; subst eo
        refine wpAny_pure ?_
        refine wpAny_pure ⟨rfl, h', tk', c', rfl, hS', by omega, fun b o hb e => ?_⟩
        refine hm.heap b o ?_ (Heap.get?_push_of_some _ (Heap.get?_push_of_some _ e))
        rw [Heap.size_push]
        simp only [List.mem_cons, List.not_mem_nil, or_false, not_or]
        exact ⟨Nat.ne_of_lt hb, Nat.ne_of_lt (Nat.lt_succ_of_lt hb)⟩
    · match r2, hr2 with
      | .error e, hr2 => exact hr2
      | .ok (.ret r), hr2 =>
        obtain ⟨rfl, h', tk, c', rfl, hS', hc', hk'⟩ := hr2
        repeat (any_goals (first | assumption | wp_step))
        exact h _ _ _ hS' hc' hk'
end
section
variable {X : Cx}
/-- set(l) of a list of ints -/
def rSetOf (K : PySem.W.Frag) (w : World) : List V → Hp → VK → Prop := fun vs H Q => match vs with
  | [.ref l] => ∃ xs : List Int, SqL K H l (xs.map V.int) ∧ xs.length < 4000 ∧ ∀ p H', H p = none → Same H H' → SetL w H' p xs → Q (.ref p) H'
  | _ => False
theorem k_setOf (K : PySem.W.Frag) (w : World) (hK : X.K = K) (hw : X.w = w) (hc : X.calm = true) : CallR X (.type "set") (rSetOf K w) := by
  subst hK; subst hw
  intro pins s σ H xs us Q I r h
  unfold rSetOf at h
  split at h
  next l =>
    obtain ⟨ns, hq, hl, q⟩ := h
    cases r with
    | cons r0 rs =>
      cases rs
      cases r0
      obtain ⟨its, rr, pl, hz⟩ := I.list hq
      have hI := Vals.ints rr
      have hlen : its.length = ns.length := by rw [← rr.length, List.length_map]
      refine set_list_ints (keys := ns) (I.ok.hd hc) pl.isList (by rw [List.size_toArray, hlen]) (fun i v hv => ?_) (by unfold scanBound; omega) fun h' tk c hS hcl hk => ?_
      · have hi : i < ns.length := by rw [← hlen]; rw [List.getElem?_toArray] at hv; rcases Nat.lt_or_ge i its.length with z | z; exact z; rw [List.getElem?_eq_none z] at hv; cases hv
        obtain ⟨t, e⟩ := PyProof.Rows.IntsAre.int_at hI i v (by simpa using hv)
        refine ⟨ns[i], t, List.getElem?_eq_getElem hi, ?_⟩
        rw [e, List.getD_eq_getElem?_getD, List.getElem?_eq_getElem hi]; rfl
      · have hn : H s.heap.objs.size = none := I.hok.fresh (Nat.le_refl _)
        refine ⟨.ref _, upd H s.heap.objs.size (SetO X.w s.heap.objs.size (fun z => decide (z ∈ ns)) c), I.laid (t' := tk) (fun b o e => hk b o (Heap.lt_size e) e) (Nat.le_refl _) (setO_new hS), rfl, q _ _ hn (Sm.new hn) ⟨_, c, upd_same, fun k => by simp, hcl⟩⟩
  next => exact h.elim
end
end GG
/-! x != x of an own instance whose class has no comparison of its own -/
namespace GG
open PySem PySem.Spec PyProof.Rows L2
end GG
/-! x in o, x not in o, o[x] by own special methods -/
namespace GG
open PySem PySem.Spec L2
section
variable {X : Cx} {k : Nat} {C : Addr} {sp : Sp}
/-- x in o -/
def rInO (C : Addr) (sp : Sp) (f : Bool → Bool) : R2 := fun x y H Q => match y with
  | .ref a => ∃ dx fs, H a = some (.ins C dx fs) ∧ sp [.ref a, x] H (fun v H' => ∃ b : Bool, v = .bl b ∧ Q (.bl (f b)) H') E0
  | _ => False
theorem op_inO (c : SpN X.prog X.w X.K X.mg X.base k C "__contains__" sp) (hr : Room k X.A) : OpR X (compareOp .In) (rInO C sp fun b => b) := fun pins s σ H x y u v Q I rx ry h => by
  unfold rInO at h
  split at h
  next a =>
    obtain ⟨dx, fs, ha, h⟩ := h
    obtain ⟨f, fd, ps, h1, h2, F, b⟩ := c.ex
    cases ry
    obtain ⟨mA, O, _⟩ := ins_get I.hok ha
    obtain ⟨od, J, _⟩ := O.look
    obtain ⟨m, hF⟩ := I.fr
    refine PySem.W.in_K hF I.ok.mod.kin J h1 h2 (wpAny_mono (call_at ⟨hr, rfl⟩ F b I (vs := [.ref _, _]) (.cons rfl (.cons rx .nil)) h) (fun r s' hu => ?_) fun _ _ z => z)
    obtain ⟨v', H', I', rv, b', rfl, q⟩ := hu
    obtain rfl : r = Value.bool b' := rv
    exact wpAny_truthy_bool ⟨.bl b', H', I', rfl, q⟩
  next => exact h.elim
theorem op_ninO (c : SpN X.prog X.w X.K X.mg X.base k C "__contains__" sp) (hr : Room k X.A) : OpR X (compareOp .NotIn) (rInO C sp fun b => !b) := fun pins s σ H x y u v Q I rx ry h => by
  unfold rInO at h
  split at h
  next a =>
    obtain ⟨dx, fs, ha, h⟩ := h
    obtain ⟨f, fd, ps, h1, h2, F, b⟩ := c.ex
    cases ry
    obtain ⟨mA, O, _⟩ := ins_get I.hok ha
    obtain ⟨od, J, _⟩ := O.look
    obtain ⟨m, hF⟩ := I.fr
    refine PySem.W.notIn_K hF I.ok.mod.kin J h1 h2 (wpAny_mono (call_at ⟨hr, rfl⟩ F b I (vs := [.ref _, _]) (.cons rfl (.cons rx .nil)) h) (fun r s' hu => ?_) fun _ _ z => z)
    obtain ⟨v', H', I', rv, b', rfl, q⟩ := hu
    obtain rfl : r = Value.bool b' := rv
    exact wpAny_truthy_bool ⟨.bl (!b'), H', I', rfl, q⟩
  next => exact h.elim
/-- o[x], as an operation -/
def rGetO (C : Addr) (sp : Sp) : R2 := fun x y H Q => match x with
  | .ref a => ∃ dx fs, H a = some (.ins C dx fs) ∧ sp [.ref a, y] H Q E0
  | _ => False
end
end GG
namespace GG
open PySem PySem.Spec L2 PyProof.Rows
section
variable {X : Cx} {k : Nat} {C : Addr} {sp : Sp} {o i : Expr} {to ti : TE} {pos : Pos}
/-- o[x] by own __getitem__ -/
def gGetO (C : Addr) (sp : Sp) (to ti : TE) : TE := fun σ H Q => to σ H fun x H1 => ti σ H1 fun y H2 => rGetO C sp x y H2 Q
theorem g_getO (c : SpN X.prog X.w X.K X.mg X.base k C "__getitem__" sp) (hf : ∀ f, PySem.W.findIn X.K (.ref C) "__getitem__" = some (some (.ref f)) → PySem.W.fnIn X.K f = true) (hr : Room (k + 1) X.A) (ho : PE X o to) (hi : PE X i ti)
    (hs : ∀ ov iv, subscripted i true ov iv = runValue (.builtin "lifetime.subscript" ⟨[ov, iv], []⟩) := by intro _ _; rfl) : PE X (.Subscript o i pos) (gGetO C sp to ti) := by
  refine ⟨fun pins s σ H Q I h => ?_⟩
  refine Subscript_ (thn (ho.run pins s σ H _ I h) fun v s1 ⟨x, H1, I1, r1, q1⟩ => thn (hi.run pins s1 σ H1 _ I1 q1) fun u s2 ⟨y, H2, I2, r2, q2⟩ => ?_)
  unfold rGetO at q2
  split at q2
  next a =>
    obtain ⟨dx, fs, ha, q⟩ := q2
    obtain ⟨f, fd, ps, h1, h2, F, b⟩ := c.ex
    cases r1
    obtain ⟨mA, O, _⟩ := ins_get I2.hok ha
    obtain ⟨od, J, _⟩ := O.look
    obtain ⟨m, hF⟩ := I2.fr
    exact PySem.W.sub_K hF I2.ok.mod.kin J h1 (hf f h1) h2 (call_at ⟨hr.in1, rfl⟩ F b I2 (vs := [.ref _, _]) (.cons rfl (.cons r2 .nil)) q) (hs _ _)
  next => exact q2.elim
end
end GG
namespace GG
open PySem PySem.Spec L2
section
variable {X : Cx} {k : Nat} {C : Addr} {sp : Sp}
/-- o[x] = y by own __setitem__ -/
def rPutO (C : Addr) (sp : Sp) : V → V → V → Hp → (Hp → Prop) → Prop := fun o i v H Q => match o with
  | .ref a => ∃ dx fs, H a = some (.ins C dx fs) ∧ sp [.ref a, i, v] H (fun _ H' => Q H') E0
  | _ => False
theorem s_putO (c : SpN X.prog X.w X.K X.mg X.base k C "__setitem__" sp) (hq : PySem.W.noSeq X.K C = true) (hr : Room k X.A) : PSet X (rPutO C sp) := fun pins s σ H o i v ov iv u Q I ro ri rv h => by
  unfold rPutO at h
  split at h
  next a =>
    obtain ⟨dx, fs, ha, h⟩ := h
    obtain ⟨f, fd, ps, h1, h2, F, b⟩ := c.ex
    cases ro
    obtain ⟨mA, O, _⟩ := ins_get I.hok ha
    obtain ⟨od, J, _⟩ := O.look
    obtain ⟨m, hF⟩ := I.fr
    refine PySem.W.ksp_setItem hF I.ok.mod.kin J hq h1 h2 (wpAny_mono (call_at (Q := fun _ H' => Q H') ⟨hr, rfl⟩ F b I (vs := [.ref _, _, _]) (.cons rfl (.cons ri (.cons rv .nil))) h) (fun r s' hu => ?_) fun _ _ z => z)
    obtain ⟨v', H', I', rv', q⟩ := hu
    exact ⟨H', I', q⟩
  next => exact h.elim
end
end GG
/-! dicts: in, comprehensions, items; lists of pairs, sorted; == and != by own __eq__; x += e; xs.pop() -/
namespace GG
open PySem PySem.Spec L2
section
variable {X : Cx}
/-! ### one rule or the other -/
theorem OpRor {f : Value → Value → Sem Value} {r r' : R2} (h : OpR X f r) (h' : OpR X f r') : OpR X f (fun x y H Q => r x y H Q ∨ r' x y H Q) := fun pins s σ H x y u v Q I rx ry q =>
  q.elim (h pins s σ H x y u v Q I rx ry) (h' pins s σ H x y u v Q I rx ry)
/-! ### x in d -/
def rDIn (f : Bool → Bool) : R2 := fun x y H Q => match x, y with
  | .str z, .ref a => ∃ kvs, H a = some (.dK kvs) ∧ Q (.bl (f (valV kvs (.inr z)).isSome)) H
  | _, _ => False
theorem k_din (hu : X.A.units + 1 < cLine) : OpR X (compareOp .In) (rDIn fun b => b) := fun pins s σ H x y u v Q I rx ry h => by
  unfold rDIn at h
  split at h
  next z a =>
    obtain ⟨kvs, h1, q⟩ := h
    cases ry
    exact d_in hu I (DGet.k (k := .inr z) h1) rx fun s3 I3 => ⟨.bl _, H, I3, rfl, q⟩
  next => exact h.elim
theorem k_ndin (hu : X.A.units + 1 < cLine) : OpR X (compareOp .NotIn) (rDIn fun b => !b) := fun pins s σ H x y u v Q I rx ry h => by
  unfold rDIn at h
  split at h
  next z a =>
    obtain ⟨kvs, h1, q⟩ := h
    cases ry
    exact d_notIn hu I (DGet.k (k := .inr z) h1) rx fun s3 I3 => ⟨.bl _, H, I3, rfl, q⟩
  next => exact h.elim
/-! ### x += e -/
def gAug (i : Nat) (te : TE) : TS := fun D σ H => match σ[i]? with
  | some (some (.int a)) => te σ H fun y H1 => match y with
    | .int b => D.nx (σ.set i (some (.int (a + b)))) H1
    | _ => False
  | _ => False
theorem g_aug {i : Nat} {x : Str} {e : Expr} {te : TE} {pos pos' : Pos} (hN : X.N.Nodup) (hi : X.N[i]? = some x) (hx : Loc X.env.scope x) (he : PE X e te) (hf : X.fn x = true ∨ X.env.scope.names.lookup x = some .local := by first | exact .inl rfl | exact .inr rfl | assumption) :
    PS X (.AugAssign (.Name x pos') .Add e pos) (gAug i te) :=
  PSi (ps_aug hN hi hx (PEm he) ip_add hf) fun D σ H q => by
    unfold gAug at q
    split at q
    next a e0 =>
      refine ⟨_, e0, _, fun y H1 r => ?_, q⟩
      split at r
      next b => exact ⟨_, _, rfl, rfl, r⟩
      next => exact r.elim
    next => exact q.elim
/-! ### xs.pop() -/
/-! ### == and != by own __eq__ -/
end
end GG
/-! dict comprehensions; walks over d.items() -/
namespace GG
open PySem PySem.Spec L2
theorem putK_le {κ : Type} [DecidableEq κ] (kvs : List (κ × V)) (k : κ) (v : V) : (putK kvs k v).length ≤ kvs.length + 1 := by
  unfold putK
  split
  · rw [List.length_map]; omega
  · rw [List.length_append]; simp
/-! ### walks that make things -/
/-- F stays while the heap grows -/
def Stays {α : Type} (F : Nat → α → Hp → Prop) : Prop := ∀ i acc G G', Same G G' → F i acc G → F i acc G'
abbrev WalkS (J : It) (n : Nat) (Gd : Hp → Prop) (Y : Nat → V → Hp → Prop) : Prop := Walk J n Gd (fun i H x H' => Same H H' ∧ Y i x H')
theorem walkS_of {J : It} {n : Nat} {Gd : Hp → Prop} {Y : Nat → V → Prop} (w : Walk J n Gd (fun i H x H' => H' = H ∧ Y i x)) : WalkS J n Gd (fun i x _ => Y i x) :=
  w.mono (fun _ h => h) fun i H x H' _ _ y => by obtain ⟨rfl, y⟩ := y; exact ⟨Same.refl _, y⟩
/-! ### dict comprehensions -/
@[irreducible] def DcG (J : It) (g : TG) (tt : TT) (tk tv : TE) (vs : List Nat) (σ : L2.St) (Q : VK) (H1 : Hp) : Prop := ∀ D, H1 D = none → ∃ W : Nat → Nat → Hp → Prop, (∃ m, W 0 m (upd H1 D (.dK []))) ∧ ∀ i m H, W i m H →
  (J.stop i H ∧ Q (.ref D) H) ∨ (J.go i H ∧ ∃ Nx : Hp → Prop, (∀ H', Nx H' → ∃ m', m' < m ∧ W (i + 1) m' H') ∧ ∀ x H', J.yld i H x H' → g x (wipe σ vs) H' fun σ2 H2 => wipe σ2 vs = wipe σ vs ∧ tt σ2 H2 fun b H3 =>
    if b = true then tk σ2 H3 fun y H4 => tv σ2 H4 fun z H5 => ∃ kvs k, y = kV k ∧ H5 D = some (.dK kvs) ∧ kvs.length < sizeLine ∧ Nx (upd H5 D (.dK (putK kvs k z))) else Nx H3)
def gDc (wi : TI) (g : TG) (tt : TT) (tk tv : TE) (vs : List Nat) : TE := fun σ H Q => wi σ H fun J H1 => DcG J g (mcT tt) (mcE tk) (mcE tv) vs σ Q H1
section
variable {X : Cx} {kx vx tg iter : Expr} {ifs : List Expr} {scope : Scope} {own : List (Str × Nat)} {pos : Pos} {wi : TI} {g : TG} {tt : TT} {tk tv : TE}
theorem g_dc (hc : X.calm = true) (hN : X.N.Nodup) (hi : PI X tg iter wi) (ok : BlkOk X.N X.env.scope scope own)
    (hg : ∀ (s : Shared) (H : Hp) (C : Addr) (cl : List (Str × Addr)) (fp : List Addr), PG (X.blk s H scope (compEnvC scope cl C X.env) fp) tg g) (ht : ∀ (s : Shared) (H : Hp) (C : Addr) (cl : List (Str × Addr)) (fp : List Addr), PTs (X.blk s H scope (compEnvC scope cl C X.env) fp) ifs tt)
    (hk : ∀ (s : Shared) (H : Hp) (C : Addr) (cl : List (Str × Addr)) (fp : List Addr), PE (X.blk s H scope (compEnvC scope cl C X.env) fp) kx tk)
    (he : ∀ (s : Shared) (H : Hp) (C : Addr) (cl : List (Str × Addr)) (fp : List Addr), PE (X.blk s H scope (compEnvC scope cl C X.env) fp) vx tv) (hs : ∀ x, foldedSetIterable iter X.env x = pure x := by intro _; rfl) :
    PE X (.DictComp kx vx [⟨tg, iter, ifs, 0⟩] scope pos) (gDc wi g tt tk tv (own.map (·.2))) :=
  PEi (pe_dc hc hN (PIm hi) ok hg (fun s H C cl fp => PTsm (ht s H C cl fp)) (fun s H C cl fp => PEm (hk s H C cl fp)) (fun s H C cl fp => PEm (he s H C cl fp)) hs) fun σ H Q q => ⟨_, fun J H1 r => by
    unfold DcG at r
    exact r, q⟩
end
section
variable {J : It} {n : Nat} {Gd : Hp → Prop} {Y : Nat → V → Hp → Prop} {g : TG} {tt : TT} {te tk tv : TE} {vs : List Nat} {σ : L2.St} {Q : VK} {H1 : Hp}
theorem dcG_by (ug : UpG g) (w : WalkS J n Gd Y) (F : Nat → List (Key × V) → Hp → Prop) (hF : Stays F) (hn : n < sizeLine) (h0 : F 0 [] H1) (hG : ∀ i acc H G, i ≤ n → F i acc G → Same G H → Gd H)
    (hs : ∀ D i x acc H', i < n → Y i x H' → H1 D = none → H' D = some (.dK acc) → acc.length ≤ i → F i acc (off D H') → g x (wipe σ vs) H' fun σ2 H2 => wipe σ2 vs = wipe σ vs ∧
      tt σ2 H2 fun b H3 => way b (tk σ2 H3 fun y H4 => tv σ2 H4 fun z H5 => match y with
        | .str k => H5 D = some (.dK acc) ∧ F (i + 1) (putK acc (.inr k) z) (off D H5)
        | _ => False) (H3 D = some (.dK acc) ∧ F (i + 1) acc (off D H3)))
    (hd : ∀ D H' acc, H1 D = none → H' D = some (.dK acc) → acc.length ≤ n → F n acc (off D H') → Q (.ref D) H') : DcG J g (mcT tt) (mcE tk) (mcE tv) vs σ Q H1 := by
  unfold DcG
  intro D hD
  refine ⟨fun i m H => m = n - i ∧ i ≤ n ∧ ∃ acc, H D = some (.dK acc) ∧ acc.length ≤ i ∧ F i acc (off D H), ⟨n, by simp, Nat.zero_le _, [], upd_same, Nat.le_refl _, by rw [off_upd, off_free hD]; exact h0⟩, ?_⟩
  rintro i m H ⟨rfl, hi, acc, e, l, f⟩
  have gd := hG i acc H _ hi f off_same
  by_cases hlt : i < n
  · refine .inr ⟨w.goes i H hlt gd, fun H' => ∃ acc, H' D = some (.dK acc) ∧ acc.length ≤ i + 1 ∧ F (i + 1) acc (off D H'), fun H' ⟨acc, e, l, f⟩ => ⟨n - (i + 1), by omega, rfl, hlt, acc, e, l, f⟩, fun x H' y => ?_⟩
    obtain ⟨sm, hy⟩ := w.yields i H x H' hlt gd y
    refine ug _ _ _ _ _ (fun σ2 H2 ⟨q1, q2⟩ => ⟨q1, _, fun b H3 r => ?_, q2⟩) (hs D i x acc _ hlt hy hD (sm _ _ e) l (hF _ _ _ _ (off_mono sm) f))
    rw [way_eq] at r
    split at r
    · rename_i hb
      rw [if_pos hb]
      exact ⟨_, fun y H4 r4 => ⟨_, fun z H5 r5 => by
        split at r5
        · rename_i k
          exact ⟨acc, .inr k, rfl, r5.1, by omega, _, upd_same, Nat.le_trans (putK_le _ _ _) (by omega), by rw [off_upd]; exact r5.2⟩
        · exact r5.elim, r4⟩, r⟩
    · rename_i hb
      rw [if_neg hb]
      exact ⟨acc, r.1, by omega, r.2⟩
  · have ei : i = n := by omega
    subst ei
    exact .inl ⟨w.stops H gd, hd D H acc hD e l f⟩
end
/-! ### lists of pairs (text, int) -/
def PL (H : Hp) : List (Str × Int) → List V → Prop
  | [], vs => vs = []
  | p :: ps, vs => ∃ q r, vs = .ref q :: r ∧ H q = some (.tup [.str p.1, .int p.2]) ∧ PL H ps r
theorem PL.mono {H H' : Hp} (s : Same H H') : ∀ {ps : List (Str × Int)} {vs : List V}, PL H ps vs → PL H' ps vs
  | [], vs, h => h
  | p :: ps, vs, ⟨q, r, e, h1, h2⟩ => ⟨q, r, e, s _ _ h1, PL.mono s h2⟩
theorem PL.length {H : Hp} : ∀ {ps : List (Str × Int)} {vs : List V}, PL H ps vs → vs.length = ps.length
  | [], vs, h => by subst h; rfl
  | p :: ps, vs, ⟨q, r, e, _, h⟩ => by subst e; simp [PL.length h]
theorem PL.at_ {H : Hp} : ∀ {ps : List (Str × Int)} {vs : List V} {i : Nat} {v : V}, PL H ps vs → vs[i]? = some v → ∃ p q, ps[i]? = some p ∧ v = .ref q ∧ H q = some (.tup [.str p.1, .int p.2])
  | [], vs, i, v, h, e => by subst h; simp at e
  | p :: ps, vs, 0, v, ⟨q, r, u, h1, h2⟩, e => by subst u; simp at e; subst e; exact ⟨p, q, rfl, rfl, h1⟩
  | p :: ps, vs, i + 1, v, ⟨q, r, u, h1, h2⟩, e => by
    subst u
    obtain ⟨p', q', h3, h4⟩ := PL.at_ (i := i) h2 (by simpa using e)
    exact ⟨p', q', by simpa using h3, h4⟩
theorem PL.app {H : Hp} : ∀ {ps : List (Str × Int)} {vs : List V} {rs : List (Str × Int)} {ws : List V}, PL H ps vs → PL H rs ws → PL H (ps ++ rs) (vs ++ ws)
  | [], vs, rs, ws, h, h' => by subst h; exact h'
  | p :: ps, vs, rs, ws, ⟨q, r, e, h1, h2⟩, h' => by subst e; exact ⟨q, r ++ ws, rfl, h1, PL.app h2 h'⟩
theorem PL.one {H : Hp} {q : Addr} {z : Str} {c : Int} (h : H q = some (.tup [.str z, .int c])) : PL H [(z, c)] [.ref q] := ⟨q, [], rfl, h, rfl⟩
theorem PL.refs {H : Hp} : ∀ {ps : List (Str × Int)} {vs : List V}, PL H ps vs → ∃ qs : List Addr, vs = qs.map V.ref ∧ qs.length = ps.length ∧ ∀ b ∈ qs.zip ps, H b.1 = some (.tup [.str b.2.1, .int b.2.2])
  | [], vs, h => ⟨[], h, rfl, fun b hb => by simp at hb⟩
  | p :: ps, vs, ⟨q, r, e, h1, h2⟩ => by
    obtain ⟨qs, a, b, c⟩ := PL.refs h2
    refine ⟨q :: qs, by rw [e, a]; rfl, by rw [List.length_cons, List.length_cons, b], fun x hx => ?_⟩
    rcases List.mem_cons.mp (show x ∈ (q, p) :: qs.zip ps from hx) with z | z
    · subst z; exact h1
    · exact c x z
theorem PL.ofRefs {H : Hp} : ∀ {bs : List (Addr × Str × Int)}, (∀ b ∈ bs, H b.1 = some (.tup [.str b.2.1, .int b.2.2])) → PL H (bs.map (·.2)) (bs.map fun b => V.ref b.1)
  | [], _ => rfl
  | b :: bs, h => ⟨b.1, _, rfl, h b (List.mem_cons_self ..), PL.ofRefs fun x hx => h x (List.mem_cons_of_mem _ hx)⟩
def pLe (p q : Str × Int) : Bool := decide (p.1.cps.toList ≤ q.1.cps.toList)
end GG
/-! sorted of lists of pairs (text, int), the texts different -/
namespace GG
open PySem PySem.Spec L2
open PySem.W (EachIs)
def encP (b : Addr × Str × Int) : PyData := .tuple [.str b.2.1, .int b.2.2]
theorem leP_eq {a b : Addr × Str × Int} (h : a.2.1 = b.2.1 → a.2 = b.2) : PySem.W.dataLe false encP a b = pLe a.2 b.2 := by
  show (!PySem.W.dataLt (.tuple [.str b.2.1, .int b.2.2]) (.tuple [.str a.2.1, .int a.2.2])) = decide (a.2.1.cps.toList ≤ b.2.1.cps.toList)
  rw [PySem.W.dataLt_pair (by simp [PySem.W.alike]) (by simp [PySem.W.alike]), PySem.W.dataLt_str, PySem.W.dataLt_int]
  simp only [PyData.eqv, beq_iff_eq]
  by_cases c : b.2.1 = a.2.1
  · have e := h c.symm
    rw [if_pos c, if_pos (by rw [e]), c]
    simp
  · rw [if_neg c, PySem.W.not_lt_str]
theorem each_zip {H : Hp} : ∀ {qs : List Addr} {ps : List (Str × Int)}, qs.length = ps.length → (∀ b ∈ qs.zip ps, H b.1 = some (.tup [.str b.2.1, .int b.2.2])) →
    EachIs (fun (v : Value) (b : Addr × Str × Int) => v = .ref b.1 ∧ H b.1 = some (.tup [.str b.2.1, .int b.2.2])) (qs.map Value.ref) (qs.zip ps)
  | [], [], _, _ => .nil
  | [], _ :: _, h, _ => by simp at h
  | _ :: _, [], h, _ => by simp at h
  | q :: qs, p :: ps, h, k => .cons ⟨rfl, k (q, p) (List.mem_cons_self ..)⟩ (each_zip (by simpa using h) fun b hb => k b (List.mem_cons_of_mem _ hb))
theorem each_out {H : Hp} : ∀ {out : List Value} {bs : List (Addr × Str × Int)}, EachIs (fun (v : Value) (b : Addr × Str × Int) => v = .ref b.1 ∧ H b.1 = some (.tup [.str b.2.1, .int b.2.2])) out bs → Vals (bs.map fun b => V.ref b.1) out ∧ ∀ b ∈ bs, H b.1 = some (.tup [.str b.2.1, .int b.2.2])
  | _, _, .nil => ⟨.nil, fun b h => by simp at h⟩
  | _, _, .cons ⟨e, h⟩ t => by
    subst e
    obtain ⟨a, b⟩ := each_out t
    exact ⟨.cons rfl a, fun x hx => by
      rcases List.mem_cons.mp hx with z | z
      · subst z; exact h
      · exact b x z⟩
def rSortP (K : PySem.W.Frag) : List V → Hp → VK → Prop := fun vs H Q => match vs with
  | [.ref a] => ∃ xs ps, SqL K H a xs ∧ PL H ps xs ∧ (ps.map (·.1)).Nodup ∧ ∀ ys p H', H p = none → Same H H' → H' p = some (.lst ys) → PL H' (ps.mergeSort pLe) ys → Q (.ref p) H'
  | _ => False
theorem nd_fst {ps : List (Str × Int)} (nd : (ps.map (·.1)).Nodup) {a b : Str × Int} (ha : a ∈ ps) (hb : b ∈ ps) (e : a.1 = b.1) : a = b := by
  induction ps with
  | nil => simp at ha
  | cons p ps ih =>
    rw [List.map_cons, List.nodup_cons] at nd
    rcases List.mem_cons.mp ha with x | x <;> rcases List.mem_cons.mp hb with y | y
    · rw [x, y]
    · subst x; exact absurd (List.mem_map.mpr ⟨b, y, e.symm⟩) nd.1
    · subst y; exact absurd (List.mem_map.mpr ⟨a, x, e⟩) nd.1
    · exact ih nd.2 x y
theorem c_sortP {X : Cx} (hu : X.A.units + 64 < cLine) : CallR X (.builtin "sorted") (rSortP X.K) := fun pins s σ H xs us Q I r h => by
  unfold rSortP at h
  split at h
  next a =>
    obtain ⟨xs, ps, hs, pl, nd, q⟩ := h
    obtain ⟨its, rv, hl, hz⟩ := I.list hs
    cases r with
    | cons r0 rs =>
      cases rs
      cases r0
      obtain ⟨qs, rfl, lq, hq⟩ := pl.refs
      have e1 : its = qs.map Value.ref := by
        have key : ∀ {qs : List Addr} {its : List Value}, Vals (qs.map V.ref) its → its = qs.map Value.ref := by
          intro qs
          induction qs with
          | nil => intro its r; cases r; rfl
          | cons q qs ih => intro its r; cases r with
            | cons r1 r2 => rw [ih r2, r1]; rfl
        exact key rv
      subst e1
      have L : (qs.zip ps).length = ps.length := by rw [List.length_zip]; omega
      have eR := each_zip lq hq
      have eD : EachIs (fun (v : Value) (b : Addr × Str × Int) => ∃ as, Reads s.heap v (encP b) as) (qs.map Value.ref) (qs.zip ps) := eR.mono fun v b ⟨e, hb⟩ => by
        subst e
        obtain ⟨_, its2, r2, o, ho, hc, n, hd⟩ := I.hok _ _ hb
        obtain ⟨u1, u2, rfl, ri, rj⟩ := vals2 r2
        obtain ⟨t1, rfl⟩ := ri
        obtain ⟨t2, rfl⟩ := rj
        exact ⟨_, .tuple ho hc hd (.cons (.str _ _) (.cons (.int _ _) .nil))⟩
      have dep : ∀ b, PyData.depth (encP b) ≤ 2 := fun b => by simp only [encP, PyData.depth, PyData.depthAll]; omega
      refine PySem.W.sorted_data (enc := encP) hl.isList eR eD (PySem.W.AllAlike.of fun b b' => by simp [encP, PySem.W.alike, PySem.W.alikeAll]) (PySem.W.Sortable.tuples fun b => ⟨_, _, rfl⟩) (by rw [L, ← lq]; simpa using hz) (fun b _ => by have := dep b; omega) fun out ho eo => ?_
      obtain ⟨vo, mo⟩ := each_out eo
      obtain ⟨c, hc⟩ := PyProof.Rows.sortedAll_at s.heap (qs.map Value.ref) out.toArray
      have fr : H (s.heap.objs.size + 1) = none := I.hok.fresh (Nat.le_succ _)
      have eS : ((qs.zip ps).mergeSort (PySem.W.dataLe false encP)).map (·.2) = ps.mergeSort pLe := by
        have z := PySem.W.sort_maps (r := PySem.W.dataLe false encP) (s := pLe) (·.2) (l := qs.zip ps) fun a ha b hb => leP_eq fun e => nd_fst nd (List.of_mem_zip ha).2 (List.of_mem_zip hb).2 e
        rw [z]
        congr 1
        exact List.map_snd_zip (by omega)
      have pl2 := PL.ofRefs mo
      rw [eS] at pl2
      refine ⟨.ref _, upd H (s.heap.objs.size + 1) (.lst (((qs.zip ps).mergeSort (PySem.W.dataLe false encP)).map fun b => V.ref b.1)), I.laid (t' := s.toks) (fun b o e => PyProof.Rows.sortedAll_old e) (Nat.le_succ _) ⟨?_, out, c, vo, hc⟩, rfl, q _ _ _ fr (Sm.new fr) upd_same (pl2.mono (Sm.new fr))⟩
      rw [List.length_map, List.length_mergeSort, L, ← lq]
      simpa using hz
  next => exact h.elim
theorem k_sortP {X : Cx} (K : PySem.W.Frag) (h : X.K = K) (hu : X.A.units + 64 < cLine) : CallR X (.builtin "sorted") (rSortP K) := by subst h; exact c_sortP hu
end GG
/-! defs with defaults -/
namespace GG
open PySem PySem.Spec L2
open PyProof.Rows (envOfC)
def FnFd (K : PySem.W.Frag) (mg : Str → Option Value) (x : Str) (st : Stmt) (ps : List Str) (dvs : List V) : Prop :=
  ∃ (f : Addr) (fd : FuncData), FunD K x x (defArgs st) (defBody st) (defScope st) dvs [] f fd ∧ mg x = some (.ref f) ∧ Binds K fd ps [] ∧ ∃ ds, Vals dvs ds ∧ Binds K fd ps ds
def MtFd (K : PySem.W.Frag) (C : Addr) (m q : Str) (st : Stmt) (ps : List Str) (dvs : List V) : Prop :=
  ∃ (f : Addr) (fd : FuncData), FunD K m q (defArgs st) (defBody st) (defScope st) dvs [] f fd ∧ Cls K C ∧ Meth K C m f ∧ Binds K fd ps [] ∧ ∃ ds, Vals dvs ds ∧ Binds K fd ps ds
section
variable {P : Program} {w : World} {K : PySem.W.Frag} {mg : Str → Option Value} {base : Heap} {k : Nat} {sp : Sp} {N ps : List Str} {st : Stmt} {dvs : List V}
theorem fn_byD {x : Str} (F : FnFd K mg x st ps dvs) (S : FnScope N ps (defScope st)) (len : ∀ vs H Q E, sp vs H Q E → vs.length = ps.length)
    (hbody : ∀ (f : Addr) (cdv : Value) (A : Around) (outer : List Env) (s : Shared) (H : Hp) (vs : List V) (Q : VK) (E : XK), Room k (A.deeper (envOfC x (defScope st) s.heap.objs.size f cdv)) → sp vs H Q E →
      ∃ t, PSs (cxOf CX0 P w K mg base N x (defScope st) f cdv A outer s H E).nox (defBody st) t ∧ t { nx := fun _ H' => Q .non H', rt := Q } (start N vs) H) : FnN P w K mg base (k + 1) x [] sp ∧ FnN P w K mg base (k + 1) x dvs sp := by
  obtain ⟨f, fd, F, hm, b, ds, vd, bd⟩ := F
  have ok := F.ok (CX := CX0) (P := P) (w := w) (mg := mg) (base := base) S len fun cdv A outer s H vs Q E hr h => (hbody f cdv A outer s H vs Q E hr h).imp fun t q => ⟨q.1.nox, q.2⟩
  exact ⟨⟨f, fd, ps, [], ok, hm, F.kp, b, .nil⟩, ⟨f, fd, ps, ds, ok, hm, F.kp, bd, vd⟩⟩
/-- a class whose __init__ has defaults: all written, none written -/
theorem mk_byD {x q : Str} {C : Addr} {sp0 : Sp} (F : MtFd K C "__init__" q st ps dvs) (M : PySem.W.makesIn K C = true) (kp : PySem.W.keepIn K (.ref C) = true) (hm : mg x = some (.ref C)) (S : FnScope N ps (defScope st)) (len : ∀ vs H Q E, sp0 vs H Q E → vs.length = ps.length)
    (i : ∀ vs H Q, sp vs H Q E0 → ∀ y dy, H y = none → H dy = none → dy ≠ y → sp0 (.ref y :: vs) (upd (upd H dy (.own y)) y (.ins C dy [])) (fun v H2 => v = .non ∧ Q (.ref y) H2) E0)
    (hbody : ∀ (f : Addr) (cdv : Value) (A : Around) (outer : List Env) (s : Shared) (H : Hp) (vs : List V) (Q : VK) (E : XK), Room k (A.deeper (envOfC q (defScope st) s.heap.objs.size f cdv)) → sp0 vs H Q E →
      ∃ t, PSs (cxOf CX0 P w K mg base N q (defScope st) f cdv A outer s H E).nox (defBody st) t ∧ t { nx := fun _ H' => Q .non H', rt := Q } (start N vs) H) : MkN P w K mg base (k + 1) x sp ∧ MkN P w K mg base (k + 1) x (fun vs H Q E => sp (vs ++ dvs) H Q E) := by
  obtain ⟨f, fd, F, c, hme, b, ds, vd, bd⟩ := F
  have ok := F.ok (CX := CX0) (P := P) (w := w) (mg := mg) (base := base) S len fun cdv A outer s H vs Q E hr h => (hbody f cdv A outer s H vs Q E hr h).imp fun t q => ⟨q.1.nox, q.2⟩
  refine ⟨⟨C, f, fd, ps, [], [], sp0, ⟨M, hme.at_, hme.fn, kp⟩, ok, hm, b, .nil, fun vs H Q h y dy h1 h2 h3 => ?_⟩, ⟨C, f, fd, ps, ds, dvs, sp0, ⟨M, hme.at_, hme.fn, kp⟩, ok, hm, bd, vd, fun vs H Q h y dy h1 h2 h3 => i (vs ++ dvs) H Q h y dy h1 h2 h3⟩⟩
  rw [List.append_nil]
  exact i vs H Q h y dy h1 h2 h3
end
end GG
namespace GG
open PySem PySem.Spec L2
/-- a set's comprehension: the item goes in, each once -/
theorem tAdd_ofM {w : World} {D : Addr} {te : TE} {σ : L2.St} {H : Hp} {N : Hp → Prop} {l : List Int} (h : te σ H fun y H1 => match y with
    | .int c => SetL w H1 D l ∧ l.length < 4000 ∧ ∀ H2, SameX D H1 H2 → SetL w H2 D (if c ∈ l then l else l ++ [c]) → N H2
    | _ => False) : tAdd w D (mcE te) σ H N := by
  unfold tAdd mcE
  refine ⟨_, fun v H1 r => ?_, h⟩
  split at r
  next c =>
    obtain ⟨⟨S, n, h1, h2, h3⟩, hl, q⟩ := r
    refine ⟨S, n, h1, by unfold scanBound; omega, fun H2 s e => q H2 s ⟨_, _, e, fun k => ?_, ?_⟩⟩
    · have : (k ∈ (if c ∈ l then l else l ++ [c])) ↔ (k ∈ l ∨ k = c) := by
        by_cases m : c ∈ l
        · rw [if_pos m]; exact ⟨.inl, fun q => q.elim id fun q => q ▸ m⟩
        · rw [if_neg m, List.mem_append, List.mem_singleton]
      rw [this, ← h2 k]
      simp only [Bool.or_eq_true, decide_eq_true_eq]
    · by_cases m : c ∈ l
      · rw [if_pos m, if_pos ((h2 c).mpr m)]; exact h3
      · rw [if_neg m, if_neg (fun z => m ((h2 c).mp z)), List.length_append, List.length_singleton]; omega
  next => exact r.elim
end GG
namespace GG
open PySem PySem.Spec L2
/-- list(d) -/
def rListDG : List V → Hp → VK → Prop := fun vs H Q => match vs with
  | [.ref a] => ∃ kvs, H a = some (.dK kvs) ∧ ∀ p H', H p = none → Same H H' → H' p = some (.lst (kvs.map fun kv => kV kv.1)) → Q (.ref p) H'
  | _ => False
theorem c_listD {X : Cx} (hc : X.calm = true) : CallR X (.type "list") rListDG := CallRi (call_list_dK hc) fun xs H Q h => by
  unfold rListDG at h
  split at h
  · obtain ⟨kvs, h1, h2⟩ := h
    exact ⟨_, kvs, rfl, h1, fun p hp => h2 p _ hp (Sm.new hp) upd_same⟩
  · exact h.elim
end GG
/-! sorted of lists of pairs of ints, some of them written at the top -/
namespace GG
open PySem PySem.Spec L2
open PySem.W (EachIs)
def encI (b : Addr × Int × Int) : PyData := .tuple [.int b.2.1, .int b.2.2]
def iLe (p q : Int × Int) : Bool := decide (p.1 < q.1 ∨ (p.1 = q.1 ∧ p.2 ≤ q.2))
/-- a list of refs to pairs of ints -/
def PI2 (K : PySem.W.Frag) (H : Hp) : List (Int × Int) → List V → Prop
  | [], vs => vs = []
  | p :: ps, vs => ∃ q r, vs = .ref q :: r ∧ SqT K H q [.int p.1, .int p.2] ∧ PI2 K H ps r
theorem PI2.mono {K : PySem.W.Frag} {H H' : Hp} (s : Same H H') : ∀ {ps : List (Int × Int)} {vs : List V}, PI2 K H ps vs → PI2 K H' ps vs
  | [], vs, h => h
  | p :: ps, vs, ⟨q, r, e, h1, h2⟩ => ⟨q, r, e, SqT_same h1 s, PI2.mono s h2⟩
theorem PI2.length {K : PySem.W.Frag} {H : Hp} : ∀ {ps : List (Int × Int)} {vs : List V}, PI2 K H ps vs → vs.length = ps.length
  | [], vs, h => by subst h; rfl
  | p :: ps, vs, ⟨q, r, e, _, h⟩ => by subst e; simp [PI2.length h]
theorem PI2.at_ {K : PySem.W.Frag} {H : Hp} : ∀ {ps : List (Int × Int)} {vs : List V} {i : Nat} {p : Int × Int}, PI2 K H ps vs → ps[i]? = some p → ∃ q, vs[i]? = some (.ref q) ∧ SqT K H q [.int p.1, .int p.2]
  | [], vs, i, p, h, e => by simp at e
  | p :: ps, vs, 0, p', ⟨q, r, u, h1, h2⟩, e => by subst u; simp at e; subst e; exact ⟨q, rfl, h1⟩
  | p :: ps, vs, i + 1, p', ⟨q, r, u, h1, h2⟩, e => by
    subst u
    obtain ⟨q', h3, h4⟩ := PI2.at_ (i := i) h2 (by simpa using e)
    exact ⟨q', by simpa using h3, h4⟩
theorem PI2.app {K : PySem.W.Frag} {H : Hp} : ∀ {ps : List (Int × Int)} {vs : List V} {rs : List (Int × Int)} {ws : List V}, PI2 K H ps vs → PI2 K H rs ws → PI2 K H (ps ++ rs) (vs ++ ws)
  | [], vs, rs, ws, h, h' => by subst h; exact h'
  | p :: ps, vs, rs, ws, ⟨q, r, e, h1, h2⟩, h' => by subst e; exact ⟨q, r ++ ws, rfl, h1, PI2.app h2 h'⟩
theorem PI2.one {K : PySem.W.Frag} {H : Hp} {q : Addr} {p : Int × Int} (h : SqT K H q [.int p.1, .int p.2]) : PI2 K H [p] [.ref q] := ⟨q, [], rfl, h, rfl⟩
theorem PI2.refs {K : PySem.W.Frag} {H : Hp} : ∀ {ps : List (Int × Int)} {vs : List V}, PI2 K H ps vs → ∃ qs : List Addr, vs = qs.map V.ref ∧ qs.length = ps.length ∧ ∀ b ∈ qs.zip ps, SqT K H b.1 [.int b.2.1, .int b.2.2]
  | [], vs, h => ⟨[], h, rfl, fun b hb => by simp at hb⟩
  | p :: ps, vs, ⟨q, r, e, h1, h2⟩ => by
    obtain ⟨qs, a, b, c⟩ := PI2.refs h2
    refine ⟨q :: qs, by rw [e, a]; rfl, by rw [List.length_cons, List.length_cons, b], fun x hx => ?_⟩
    rcases List.mem_cons.mp (show x ∈ (q, p) :: qs.zip ps from hx) with z | z
    · subst z; exact h1
    · exact c x z
theorem PI2.ofRefs {K : PySem.W.Frag} {H : Hp} : ∀ {bs : List (Addr × Int × Int)}, (∀ b ∈ bs, SqT K H b.1 [.int b.2.1, .int b.2.2]) → PI2 K H (bs.map (·.2)) (bs.map fun b => V.ref b.1)
  | [], _ => rfl
  | b :: bs, h => ⟨b.1, _, rfl, h b (List.mem_cons_self ..), PI2.ofRefs fun x hx => h x (List.mem_cons_of_mem _ hx)⟩
theorem each_zipI {K : PySem.W.Frag} {H : Hp} : ∀ {qs : List Addr} {ps : List (Int × Int)}, qs.length = ps.length → (∀ b ∈ qs.zip ps, SqT K H b.1 [.int b.2.1, .int b.2.2]) →
    EachIs (fun (v : Value) (b : Addr × Int × Int) => v = .ref b.1 ∧ SqT K H b.1 [.int b.2.1, .int b.2.2]) (qs.map Value.ref) (qs.zip ps)
  | [], [], _, _ => .nil
  | [], _ :: _, h, _ => by simp at h
  | _ :: _, [], h, _ => by simp at h
  | q :: qs, p :: ps, h, k => .cons ⟨rfl, k (q, p) (List.mem_cons_self ..)⟩ (each_zipI (by simpa using h) fun b hb => k b (List.mem_cons_of_mem _ hb))
theorem each_outI {K : PySem.W.Frag} {H : Hp} : ∀ {out : List Value} {bs : List (Addr × Int × Int)}, EachIs (fun (v : Value) (b : Addr × Int × Int) => v = .ref b.1 ∧ SqT K H b.1 [.int b.2.1, .int b.2.2]) out bs → Vals (bs.map fun b => V.ref b.1) out ∧ ∀ b ∈ bs, SqT K H b.1 [.int b.2.1, .int b.2.2]
  | _, _, .nil => ⟨.nil, fun b h => by simp at h⟩
  | _, _, .cons ⟨e, h⟩ t => by
    subst e
    obtain ⟨a, b⟩ := each_outI t
    exact ⟨.cons rfl a, fun x hx => by
      rcases List.mem_cons.mp hx with z | z
      · subst z; exact h
      · exact b x z⟩
def rSortI2 (K : PySem.W.Frag) : List V → Hp → VK → Prop := fun vs H Q => match vs with
  | [.ref a] => ∃ xs ps, SqL K H a xs ∧ PI2 K H ps xs ∧ ∀ ys p H', H p = none → Same H H' → H' p = some (.lst ys) → PI2 K H' (ps.mergeSort iLe) ys → Q (.ref p) H'
  | _ => False
theorem c_sortI2 {X : Cx} (hu : X.A.units + 64 < cLine) : CallR X (.builtin "sorted") (rSortI2 X.K) := fun pins s σ H xs us Q I r h => by
  unfold rSortI2 at h
  split at h
  next a =>
    obtain ⟨xs, ps, hs, pl, q⟩ := h
    obtain ⟨its, rv, hl, hz⟩ := I.list hs
    cases r with
    | cons r0 rs =>
      cases rs
      cases r0
      obtain ⟨qs, rfl, lq, hq⟩ := pl.refs
      have e1 : its = qs.map Value.ref := by
        have key : ∀ {qs : List Addr} {its : List Value}, Vals (qs.map V.ref) its → its = qs.map Value.ref := by
          intro qs
          induction qs with
          | nil => intro its r; cases r; rfl
          | cons q qs ih => intro its r; cases r with
            | cons r1 r2 => rw [ih r2, r1]; rfl
        exact key rv
      subst e1
      have L : (qs.zip ps).length = ps.length := by rw [List.length_zip]; omega
      have eR := each_zipI lq hq
      have eD : EachIs (fun (v : Value) (b : Addr × Int × Int) => ∃ as, Reads s.heap v (encI b) as) (qs.map Value.ref) (qs.zip ps) := eR.mono fun v b ⟨e, hb⟩ => by
        subst e
        obtain ⟨its2, r2, ht, _⟩ := I.tuple hb
        obtain ⟨o, ho, hc, n, hd⟩ := ht
        obtain ⟨u1, u2, rfl, ri, rj⟩ := vals2 r2
        obtain ⟨t1, rfl⟩ := ri
        obtain ⟨t2, rfl⟩ := rj
        exact ⟨_, .tuple ho hc hd (.cons (.int _ _) (.cons (.int _ _) .nil))⟩
      have dep : ∀ b, PyData.depth (encI b) ≤ 2 := fun b => by simp only [encI, PyData.depth, PyData.depthAll]; omega
      refine PySem.W.sorted_data (enc := encI) hl.isList eR eD (PySem.W.AllAlike.of fun b b' => by simp [encI, PySem.W.alike, PySem.W.alikeAll]) (PySem.W.Sortable.tuples fun b => ⟨_, _, rfl⟩) (by rw [L, ← lq]; simpa using hz) (fun b _ => by have := dep b; omega) fun out ho eo => ?_
      obtain ⟨vo, mo⟩ := each_outI eo
      obtain ⟨c, hc⟩ := PyProof.Rows.sortedAll_at s.heap (qs.map Value.ref) out.toArray
      have fr : H (s.heap.objs.size + 1) = none := I.hok.fresh (Nat.le_succ _)
      have eS : ((qs.zip ps).mergeSort (PySem.W.dataLe false encI)).map (·.2) = ps.mergeSort iLe := by
        have z := PySem.W.sort_maps (r := PySem.W.dataLe false encI) (s := iLe) (·.2) (l := qs.zip ps) fun a ha b hb => by
          have := congrFun (congrFun (PySem.W.dataLe_ii (fun b : Addr × Int × Int => b.2.1) (fun b : Addr × Int × Int => b.2.2)) a) b
          exact this
        rw [z]
        congr 1
        exact List.map_snd_zip (by omega)
      have pl2 := PI2.ofRefs mo
      rw [eS] at pl2
      refine ⟨.ref _, upd H (s.heap.objs.size + 1) (.lst (((qs.zip ps).mergeSort (PySem.W.dataLe false encI)).map fun b => V.ref b.1)), I.laid (t' := s.toks) (fun b o e => PyProof.Rows.sortedAll_old e) (Nat.le_succ _) ⟨?_, out, c, vo, hc⟩, rfl, q _ _ _ fr (Sm.new fr) upd_same (pl2.mono (Sm.new fr))⟩
      rw [List.length_map, List.length_mergeSort, L, ← lq]
      simpa using hz
  next => exact h.elim
theorem k_sortI2 {X : Cx} (K : PySem.W.Frag) (h : X.K = K) (hu : X.A.units + 64 < cLine) : CallR X (.builtin "sorted") (rSortI2 K) := by subst h; exact c_sortI2 hu
end GG
/-! name = {k: v for ..} on one line, the name a local -/
namespace GG
open PySem PySem.Spec L2 PyProof.Rows
section
variable {X : Cx} {kx vx tg iter : Expr} {ifs : List Expr} {scope : Scope} {own : List (Str × Nat)} {pos spos py : Pos} {y : Str} {i : Nat} {wi : TI} {g : TG} {tt : TT} {tk tv : TE}
theorem sd_true {gs : List Comprehension} {l : Nat} {env : Env} (k1 : env.scope.kind = .function) (k2 : env.scope.names.lookup y = some .local) (k3 : (py.line == pos.line) = true)
    (k4 : (scope.names.any fun (n, k) => n == y && (k == .local || k == .cell)) = false) : swapsWith (.DictComp kx vx gs scope pos) (some (.Name y py)) l env = pure true := by
  have e1 : env.blockKind = .function := by unfold Env.blockKind; rw [k1]; rfl
  have e2 : env.kindOf y = some .local := k2
  unfold swapsWith
  simp only [e1, e2, k4, Expr.pos, k3]
  rfl
theorem g_setDc (hc : X.calm = true) (hN : X.N.Nodup) (hy : X.N[i]? = some y) (hyl : X.env.scope.names.lookup y = some .local)
    (hsw : swapsWith (.DictComp kx vx [⟨tg, iter, ifs, 0⟩] scope pos) (some (.Name y py)) spos.line X.env = pure true) (hi : PI X tg iter wi) (ok : BlkOk X.N X.env.scope scope own)
    (hg : ∀ (s : Shared) (H : Hp) (C : Addr) (cl : List (Str × Addr)) (fp : List Addr), PG (X.blk s H scope (compEnvC scope cl C X.env) fp) tg g)
    (ht : ∀ (s : Shared) (H : Hp) (C : Addr) (cl : List (Str × Addr)) (fp : List Addr), PTs (X.blk s H scope (compEnvC scope cl C X.env) fp) ifs tt)
    (hk : ∀ (s : Shared) (H : Hp) (C : Addr) (cl : List (Str × Addr)) (fp : List Addr), PE (X.blk s H scope (compEnvC scope cl C X.env) fp) kx tk)
    (he : ∀ (s : Shared) (H : Hp) (C : Addr) (cl : List (Str × Addr)) (fp : List Addr), PE (X.blk s H scope (compEnvC scope cl C X.env) fp) vx tv) (hs : ∀ x, foldedSetIterable iter X.env x = pure x := by intro _; rfl) :
    PS X (.Assign [.Name y py] (.DictComp kx vx [⟨tg, iter, ifs, 0⟩] scope pos) spos) (tAsg (gDc wi g tt tk tv (own.map (·.2))) (gName i)) := by
  have core : PS X (.Assign [.Name y py] (.DictComp kx vx [⟨tg, iter, ifs, 0⟩] scope pos) spos) (tAsg (tDc (mcI wi) g (mcT tt) (mcE tk) (mcE tv) (own.map (·.2))) (gName i)) := by
    refine ⟨fun pins s σ H D I h => ?_⟩
    rw [exec_Assign_Name_used _ _ _ _ hsw]
    refine wpAny_bind (wpAny_standAt (wpAny_bind ?_))
    show wpAny _ X.A (do
      let _ ← comprehension (.DictComp kx vx [⟨tg, iter, ifs, 0⟩] scope pos) scope X.env (firstIterPos [⟨tg, iter, ifs, 0⟩] pos) newDict false (eval iter X.env) (some (assign (.Name y py) X.env))) _ _ s
    have h' : tDc (mcI wi) g (mcT tt) (mcE tk) (mcE tv) (own.map (·.2)) σ H (fun x H1 => gName i x σ H1 D.nx) := h
    refine wpAny_bind (thn (dc_core (Qf := fun _ s' => SP X pins D .next s') hc hN I (PIm hi) ok hg (fun s H C cl fp => PTsm (ht s H C cl fp)) (fun s H C cl fp => PEm (hk s H C cl fp)) (fun s H C cl fp => PEm (he s H C cl fp)) hs h'
      fun L C s' m H' I' q hn f => ?_) fun _ s' hq => wpAny_pure (wpAny_pure hq))
    show wpAny _ _ (assign (.Name y py) X.env (.ref L)) _ _ _
    refine wpAny_assign_Name (store_ok2 (v := V.ref L) I' hN hy (.inl hyl) rfl (fun s2 J2 z => ?_) (.inr hyl))
    obtain ⟨a, sb, ha⟩ := z
    obtain ⟨n0, n1, n2, n3, n4, n5⟩ := f
    have ne : C ≠ a := ha.elim (fun z => z ▸ n1) fun z e => n4 y a z e.symm
    refine ⟨m, hn.sameBut sb ne, fun h3 kk => ?_⟩
    exact ⟨_, H', J2.turned (t' := s2.toks) (fun b o hb e => (kk.2 b hb).trans e) n0 n1 n3 n4 n5, q⟩
  exact PSi core fun D σ H q => ⟨_, fun J H1 r => by
    unfold DcG at r
    exact r, q⟩
end
end GG
/-! d.get(k, x); for i, x in enumerate(list) -/
namespace GG
open PySem PySem.Spec L2 PyProof.Rows
def wEn (K : PySem.W.Frag) (ta : TA) : TI := fun σ H R => ta σ H fun vs H1 => ∃ a xs, vs = [.ref a] ∧ SqL K H1 a xs ∧ R (Ite K a) H1
section
variable {X : Cx} {K : PySem.W.Frag} {e : Expr} {p pos tpos : Pos} {elts : List Expr} {kk : Nat} {ta : TA}
theorem w_enum (hK : X.K = K) (hg : Gl X "enumerate") (hm : X.mg "enumerate" = none) (ha : PA X [e] ta) (hs : starEach [e] X.env = [(false, eval e X.env)] := by rfl) :
    PI X (.Tuple elts kk tpos) (.Call (.Name "enumerate" p) [e] [] pos) (wEn K ta) := by
  subst hK
  exact PIi (pi_enum hg hm (PAm ha) hs) fun σ H R q => ⟨_, fun vs H1 r => r, q⟩
end
section
variable {K : PySem.W.Frag} {g : TG} {tb : TS} {D : Ends} {σ : L2.St} {H : Hp}
theorem forw_enum {a : Addr} {xs : List V} (Pv : Nat → L2.St → Hp → Prop) (h0 : Pv 0 σ H) (hl : ∀ i σ H, i ≤ xs.length → Pv i σ H → SqL K H a xs)
    (hs : ∀ i x T σ H H', xs[i]? = some x → Pv i σ H → H T = none → Same H H' → H' T = some (.tup [.int (i : Nat), x]) → g (.ref T) σ H' fun σ2 H2 => tb { D with nx := Pv (i + 1), ct := Pv (i + 1), bk := D.nx } σ2 H2) (hd : ∀ σ H, Pv xs.length σ H → D.nx σ H) : ForW (Ite K a) g tb D σ H := by
  unfold ForW
  refine for_it (walk_enum (xs := xs)) Pv h0 hl (fun i x σ H H' hi p y => ?_) hd
  obtain ⟨T, u, v, rfl, hT, rfl, e1, e2⟩ := y
  cases e1
  exact hs i v T σ H _ e2 p hT (Sm.new hT) upd_same
end
end GG
namespace GG
open PySem PySem.Spec L2
/-! ### trees as data -/
inductive T where
  | leaf (n : Str)
  | grp (rk : List Int) (ps : List T)
mutual
def T.names : T → List Str
  | .leaf n => [n]
  | .grp _ ps => T.namesL ps
def T.namesL : List T → List Str
  | [] => []
  | t :: ts => t.names ++ T.namesL ts
end
def T.width : T → Nat
  | .leaf _ => 1
  | .grp rk _ => rk.length
def T.taken : List T → Nat
  | [] => 0
  | t :: ts => t.width + T.taken ts
mutual
def T.depth : T → Nat
  | .leaf _ => 0
  | .grp _ ps => T.depthL ps + 1
def T.depthL : List T → Nat
  | [] => 0
  | t :: ts => max t.depth (T.depthL ts)
end
/-- a name: one to eight small letters -/
def alph : List Nat := ("abcdefghijklmnopqrstuvwxyz" : Str).cps.toList
def IsNm (z : Str) : Prop := 1 ≤ z.length ∧ z.length ≤ 8 ∧ ∀ c ∈ z.cps.toList, c ∈ alph
/-- ranks that a group over so many ends may have -/
structure RkOk (rk : List Int) (m : Nat) : Prop where
  ne : rk ≠ []
  asc : rk.Pairwise (· < ·)
  lo : ∀ r ∈ rk, 1 ≤ r
  hi : ∀ r ∈ rk, r ≤ (m : Int)
mutual
/-- groups have parts and ranks that fit -/
def T.Sh : T → Prop
  | .leaf n => IsNm n
  | .grp rk ps => ps ≠ [] ∧ RkOk rk (T.taken ps) ∧ T.ShL ps
def T.ShL : List T → Prop
  | [] => True
  | t :: ts => t.Sh ∧ T.ShL ts
end
/-! ### how the law's trees and the program's stand in the heap -/
mutual
def LT (H : Hp) : T → V → Prop
  | .leaf n, v => v = .str n
  | .grp rk ps, v => ∃ a r p vs, v = .ref a ∧ H a = some (.tup [.str "group", .ref r, .ref p]) ∧ H r = some (.lst (rk.map V.int)) ∧ H p = some (.lst vs) ∧ LTs H ps vs
def LTs (H : Hp) : List T → List V → Prop
  | [], vs => vs = []
  | t :: ts, vs => ∃ v r, vs = v :: r ∧ LT H t v ∧ LTs H ts r
end
mutual
theorem LT.mono {H H' : Hp} (s : Same H H') : ∀ {t : T} {v : V}, LT H t v → LT H' t v
  | .leaf n, v, h => h
  | .grp rk ps, v, h => by
    obtain ⟨a, r, p, vs, e, h1, h2, h3, h4⟩ := h
    exact ⟨a, r, p, vs, e, s _ _ h1, s _ _ h2, s _ _ h3, LTs.mono s h4⟩
theorem LTs.mono {H H' : Hp} (s : Same H H') : ∀ {ts : List T} {vs : List V}, LTs H ts vs → LTs H' ts vs
  | [], vs, h => h
  | t :: ts, vs, h => by
    obtain ⟨v, r, e, h1, h2⟩ := h
    exact ⟨v, r, e, LT.mono s h1, LTs.mono s h2⟩
end
theorem LTs.length {H : Hp} : ∀ {ts : List T} {vs : List V}, LTs H ts vs → vs.length = ts.length
  | [], vs, h => by subst h; rfl
  | t :: ts, vs, ⟨v, r, e, _, h⟩ => by subst e; simp [LTs.length h]
theorem LTs.at_ {H : Hp} : ∀ {ts : List T} {vs : List V} {i : Nat} {v : V}, LTs H ts vs → vs[i]? = some v → ∃ t, ts[i]? = some t ∧ LT H t v
  | [], vs, i, v, h, e => by subst h; simp at e
  | t :: ts, vs, 0, v, ⟨x, r, q, h1, h2⟩, e => by subst q; simp at e; subst e; exact ⟨t, rfl, h1⟩
  | t :: ts, vs, i + 1, v, ⟨x, r, q, h1, h2⟩, e => by
    subst q
    obtain ⟨u, h3, h4⟩ := LTs.at_ (i := i) h2 (by simpa using e)
    exact ⟨u, by simpa using h3, h4⟩
theorem LTs.snoc {H : Hp} {t : T} {v : V} (h : LT H t v) : ∀ {ts : List T} {vs : List V}, LTs H ts vs → LTs H (ts ++ [t]) (vs ++ [v])
  | [], vs, e => by subst e; exact ⟨v, [], rfl, h, rfl⟩
  | u :: ts, vs, ⟨x, r, q, h1, h2⟩ => by subst q; exact ⟨x, r ++ [v], rfl, h1, LTs.snoc h h2⟩
section
variable (CL CG : Addr)
def lfs (n : Str) : List (Str × V) := [("label", .str n)]
def gfs (p r : Addr) (m : Nat) : List (Str × V) := [("picks", .ref p), ("rows", .ref r), ("taken", .int m)]
mutual
def MT (H : Hp) : T → V → Prop
  | .leaf n, v => ∃ a dx, v = .ref a ∧ H a = some (.ins CL dx (lfs n))
  | .grp rk ps, v => ∃ a dx p r vs, v = .ref a ∧ H a = some (.ins CG dx (gfs p r (T.taken ps))) ∧ H p = some (.tup (rk.map V.int)) ∧ H r = some (.tup vs) ∧ MTs H ps vs
def MTs (H : Hp) : List T → List V → Prop
  | [], vs => vs = []
  | t :: ts, vs => ∃ v r, vs = v :: r ∧ MT H t v ∧ MTs H ts r
end
end
section
variable {CL CG : Addr}
/-- what trees lean on: tuples and instances -/
def NoL : HO → Prop
  | .tup _ => True
  | .ins _ _ _ => True
  | _ => False
def SameT (H H' : Hp) : Prop := ∀ b o, NoL o → H b = some o → H' b = some o
theorem SameT.of {H H' : Hp} (h : Same H H') : SameT H H' := fun b o _ e => h b o e
theorem SameT.trans {H H1 H2 : Hp} (a : SameT H H1) (b : SameT H1 H2) : SameT H H2 := fun c o n e => b c o n (a c o n e)
theorem SameT.off {D : Addr} {H : Hp} {xs : List V} (h : H D = some (.lst xs)) : SameT H (off D H) := fun b o n e => by
  rw [off_at (by rintro rfl; rw [h] at e; cases e; exact n)]; exact e
mutual
theorem MT.monoT {H H' : Hp} (s : SameT H H') : ∀ {t : T} {v : V}, MT CL CG H t v → MT CL CG H' t v
  | .leaf n, v, ⟨a, dx, e, h⟩ => ⟨a, dx, e, s _ _ trivial h⟩
  | .grp rk ps, v, ⟨a, dx, p, r, vs, e, h1, h2, h3, h4⟩ => ⟨a, dx, p, r, vs, e, s _ _ trivial h1, s _ _ trivial h2, s _ _ trivial h3, MTs.monoT s h4⟩
theorem MTs.monoT {H H' : Hp} (s : SameT H H') : ∀ {ts : List T} {vs : List V}, MTs CL CG H ts vs → MTs CL CG H' ts vs
  | [], vs, h => h
  | t :: ts, vs, ⟨v, r, e, h1, h2⟩ => ⟨v, r, e, MT.monoT s h1, MTs.monoT s h2⟩
end
theorem MT.mono {H H' : Hp} (s : Same H H') {t : T} {v : V} (h : MT CL CG H t v) : MT CL CG H' t v := h.monoT (.of s)
theorem MTs.mono {H H' : Hp} (s : Same H H') {t : List T} {v : List V} (h : MTs CL CG H t v) : MTs CL CG H' t v := h.monoT (.of s)
theorem MTs.length {H : Hp} : ∀ {ts : List T} {vs : List V}, MTs CL CG H ts vs → vs.length = ts.length
  | [], vs, h => by subst h; rfl
  | t :: ts, vs, ⟨v, r, e, _, h⟩ => by subst e; simp [MTs.length h]
theorem MTs.at_ {H : Hp} : ∀ {ts : List T} {vs : List V} {i : Nat} {v : V}, MTs CL CG H ts vs → vs[i]? = some v → ∃ t, ts[i]? = some t ∧ MT CL CG H t v
  | [], vs, i, v, h, e => by subst h; simp at e
  | t :: ts, vs, 0, v, ⟨x, r, q, h1, h2⟩, e => by subst q; simp at e; subst e; exact ⟨t, rfl, h1⟩
  | t :: ts, vs, i + 1, v, ⟨x, r, q, h1, h2⟩, e => by
    subst q
    obtain ⟨u, h3, h4⟩ := MTs.at_ (i := i) h2 (by simpa using e)
    exact ⟨u, by simpa using h3, h4⟩
theorem MTs.snoc {H : Hp} {t : T} {v : V} (h : MT CL CG H t v) : ∀ {ts : List T} {vs : List V}, MTs CL CG H ts vs → MTs CL CG H (ts ++ [t]) (vs ++ [v])
  | [], vs, e => by subst e; exact ⟨v, [], rfl, h, rfl⟩
  | u :: ts, vs, ⟨x, r, q, h1, h2⟩ => by subst q; exact ⟨x, r ++ [v], rfl, h1, MTs.snoc h h2⟩
/-- the object at a tree's address -/
theorem MT.ref {H : Hp} : ∀ {t : T} {v : V}, MT CL CG H t v → ∃ a C dx fs, v = .ref a ∧ H a = some (.ins C dx fs) ∧ (C = CL ∨ C = CG)
  | .leaf n, v, ⟨a, dx, e, h⟩ => ⟨a, CL, dx, _, e, h, .inl rfl⟩
  | .grp rk ps, v, ⟨a, dx, p, r, vs, e, h1, h2, h3, h4⟩ => ⟨a, CG, dx, _, e, h1, .inr rfl⟩
end
/-- facts of data -/
theorem T.taken_eq : ∀ ts : List T, (T.taken ts : Int) = (ts.map fun t => (t.width : Int)).sum
  | [] => rfl
  | t :: ts => by
    have := T.taken_eq ts
    simp only [T.taken, List.map_cons, List.sum_cons, Int.natCast_add]
    omega
theorem T.namesL_eq : ∀ ts : List T, T.namesL ts = ts.flatMap T.names
  | [] => by rw [T.namesL]; rfl
  | t :: ts => by rw [T.namesL, T.namesL_eq ts]; rfl
theorem T.ShL_iff : ∀ {ts : List T}, T.ShL ts ↔ ∀ t ∈ ts, t.Sh
  | [] => by simp [T.ShL]
  | t :: ts => by simp [T.ShL, T.ShL_iff]
theorem T.depthL_le : ∀ {ts : List T} {t : T}, t ∈ ts → t.depth ≤ T.depthL ts
  | [], t, h => by simp at h
  | u :: ts, t, h => by
    rw [T.depthL]
    rcases List.mem_cons.mp h with h | h
    · subst h; exact Nat.le_max_left _ _
    · exact Nat.le_trans (T.depthL_le h) (Nat.le_max_right _ _)
end GG
namespace GG
open PySem L2
theorem asc_len : ∀ {l : List Int} {lo hi : Int}, l.Pairwise (· < ·) → (∀ r ∈ l, lo ≤ r) → (∀ r ∈ l, r ≤ hi) → (l.length : Int) ≤ max 0 (hi - lo + 1)
  | [], _, _, _, _, _ => by simp; omega
  | x :: l, lo, hi, p, h1, h2 => by
    have q := List.pairwise_cons.mp p
    have a := h1 x (List.mem_cons_self ..)
    have b := h2 x (List.mem_cons_self ..)
    have ih := asc_len (l := l) (lo := x + 1) (hi := hi) q.2 (fun r hr => by have := q.1 r hr; omega) (fun r hr => h2 r (List.mem_cons_of_mem _ hr))
    rw [List.length_cons]
    omega
theorem RkOk.len {rk : List Int} {m : Nat} (h : RkOk rk m) : rk.length ≤ m := by
  have := asc_len h.asc h.lo h.hi
  omega
mutual
theorem T.width_le : ∀ {t : T}, t.Sh → t.width ≤ t.names.length ∧ 1 ≤ t.names.length
  | .leaf n, _ => ⟨Nat.le_refl _, Nat.le_refl _⟩
  | .grp rk ps, h => by
    rw [T.Sh] at h
    obtain ⟨a, b⟩ := T.taken_le h.2.2
    rw [T.width, T.names]
    have := h.2.1.len
    refine ⟨by omega, ?_⟩
    have : 1 ≤ ps.length := by
      rcases Nat.eq_zero_or_pos ps.length with z | z
      · exact absurd (List.length_eq_zero_iff.mp z) h.1
      · exact z
    omega
theorem T.taken_le : ∀ {ts : List T}, T.ShL ts → T.taken ts ≤ (T.namesL ts).length ∧ ts.length ≤ (T.namesL ts).length
  | [], _ => ⟨Nat.le_refl _, Nat.le_refl _⟩
  | t :: ts, h => by
    rw [T.ShL] at h
    obtain ⟨a, b⟩ := T.width_le h.1
    obtain ⟨c, d⟩ := T.taken_le h.2
    rw [T.taken, T.namesL, List.length_append, List.length_cons]
    omega
end
/-- a tree as the laws draw it -/
structure T.Gd (t : T) : Prop where
  sh : t.Sh
  nd : t.names.Nodup
  dp : t.depth ≤ 45
  sz : t.names.length ≤ 1000
theorem T.namesL_mem : ∀ {ts : List T} {t : T}, t ∈ ts → t.names.Sublist (T.namesL ts)
  | [], t, h => by simp at h
  | u :: ts, t, h => by
    rw [T.namesL]
    rcases List.mem_cons.mp h with h | h
    · subst h; exact List.sublist_append_left _ _
    · exact (T.namesL_mem h).trans (List.sublist_append_right _ _)
theorem T.Gd.part {rk : List Int} {ps : List T} (g : (T.grp rk ps).Gd) {t : T} (h : t ∈ ps) : t.Gd := by
  have s := g.sh
  rw [T.Sh] at s
  have n := g.nd
  rw [T.names] at n
  have z := g.sz
  rw [T.names] at z
  have d := g.dp
  rw [T.depth] at d
  have sl := T.namesL_mem h
  have := T.depthL_le h
  exact ⟨T.ShL_iff.mp s.2.2 t h, n.sublist sl, by omega, Nat.le_trans sl.length_le z⟩
end GG
namespace GG
open PySem L2
/-! ### least sums -/
def minl : List Int → Int
  | [] => 0
  | x :: xs => xs.foldl (fun a b => if b < a then b else a) x
def fits (a b : List Int) (k i : Nat) : Bool := decide (i ≤ k ∧ k - i < b.length)
def sumsAt (a b : List Int) (k : Nat) : List Int := ((List.range a.length).filter (fits a b k)).map fun i => a.getD i 0 + b.getD (k - i) 0
def conv (a b : List Int) : List Int := (List.range (a.length + b.length - 1)).map fun k => minl (sumsAt a b k)
end GG
namespace GG
open PySem L2
/-! ### low ends of a set of leaves; all sets -/
mutual
def T.low (S : List Str) : T → Nat
  | .leaf n => if n ∈ S then 1 else 0
  | .grp rk ps => (rk.filter fun r => decide (r ≤ (T.lowL S ps : Int))).length
def T.lowL (S : List Str) : List T → Nat
  | [] => 0
  | t :: ts => t.low S + T.lowL S ts
end
/-- lists of texts in the heap -/
def LS (H : Hp) : List (List Str) → List V → Prop
  | [], vs => vs = []
  | S :: Ss, vs => ∃ q r, vs = .ref q :: r ∧ H q = some (.lst (S.map V.str)) ∧ LS H Ss r
theorem LS.mono {H H' : Hp} (s : Same H H') : ∀ {Ss : List (List Str)} {vs : List V}, LS H Ss vs → LS H' Ss vs
  | [], vs, h => h
  | S :: Ss, vs, ⟨q, r, e, h1, h2⟩ => ⟨q, r, e, s _ _ h1, LS.mono s h2⟩
theorem LS.length {H : Hp} : ∀ {Ss : List (List Str)} {vs : List V}, LS H Ss vs → vs.length = Ss.length
  | [], vs, h => by subst h; rfl
  | S :: Ss, vs, ⟨q, r, e, _, h⟩ => by subst e; simp [LS.length h]
theorem LS.at_ {H : Hp} : ∀ {Ss : List (List Str)} {vs : List V} {i : Nat} {v : V}, LS H Ss vs → vs[i]? = some v → ∃ S q, Ss[i]? = some S ∧ v = .ref q ∧ H q = some (.lst (S.map V.str))
  | [], vs, i, v, h, e => by subst h; simp at e
  | S :: Ss, vs, 0, v, ⟨q, r, u, h1, h2⟩, e => by subst u; simp at e; subst e; exact ⟨S, q, rfl, rfl, h1⟩
  | S :: Ss, vs, i + 1, v, ⟨q, r, u, h1, h2⟩, e => by
    subst u
    obtain ⟨S', q', h3, h4⟩ := LS.at_ (i := i) h2 (by simpa using e)
    exact ⟨S', q', by simpa using h3, h4⟩
theorem LS.app {H : Hp} : ∀ {Ss : List (List Str)} {vs : List V} {Rs : List (List Str)} {ws : List V}, LS H Ss vs → LS H Rs ws → LS H (Ss ++ Rs) (vs ++ ws)
  | [], vs, Rs, ws, h, h' => by subst h; exact h'
  | S :: Ss, vs, Rs, ws, ⟨q, r, e, h1, h2⟩, h' => by subst e; exact ⟨q, r ++ ws, rfl, h1, LS.app h2 h'⟩
theorem LS.one {H : Hp} {q : Addr} {S : List Str} (h : H q = some (.lst (S.map V.str))) : LS H [S] [.ref q] := ⟨q, [], rfl, h, rfl⟩
end GG
namespace GG
open PySem PySem.Spec L2
/-! ### the law's names -/
def lets : List Nat := ("abcdefghijklmnopqrstuvw" : Str).cps.toList
def tls : List Str := ["", "", "x", "zy", "yxzzzz"]
def run (l : List Nat) : Nat × Nat := (l.headD 0, (l.takeWhile (· == l.headD 0)).length)
theorem tw_rep (c : Nat) (tl : List Nat) (h : tl = [] ∨ tl.headD 0 ≠ c) : ∀ r, (List.replicate r c ++ tl).takeWhile (· == c) = List.replicate r c
  | 0 => by
    rcases h with rfl | h
    · rfl
    · cases tl with
      | nil => rfl
      | cons x tl =>
        have : (x == c) = false := by simpa using h
        simp [List.takeWhile_cons, this]
  | r + 1 => by simp [List.replicate_succ, List.takeWhile_cons, tw_rep c tl h r]
theorem run_rep {c : Nat} {tl : List Nat} (h : tl = [] ∨ tl.headD 0 ≠ c) (r : Nat) : run (List.replicate (r + 1) c ++ tl) = (c, r + 1) := by
  have e : (List.replicate (r + 1) c ++ tl).headD 0 = c := by simp [List.replicate_succ]
  unfold run
  rw [e, tw_rep c tl h]
  simp
theorem tw_snoc {h x : Nat} : ∀ {l : List Nat}, l ≠ [] → (∀ y, l.getLast? = some y → y ≠ x) → (∀ y, l.getLast? = some y → (y == h) = false ∨ x ≠ h) → (l ++ [x]).takeWhile (· == h) = l.takeWhile (· == h) := by
  intro l
  induction l with
  | nil => intro n; exact absurd rfl n
  | cons a l ih =>
    intro _ h1 h2
    by_cases ha : (a == h) = true
    · simp only [List.cons_append, List.takeWhile_cons, ha, if_true]
      congr 1
      cases l with
      | nil =>
        have z := h2 a rfl
        rw [ha] at z
        have : (x == h) = false := by simpa using z
        simp [List.takeWhile_cons, this]
      | cons b l =>
        exact ih (by simp) (fun y hy => h1 y (by simpa using hy)) (fun y hy => h2 y (by simpa using hy))
    · simp [List.takeWhile_cons, ha]
theorem run_snoc {l : List Nat} {x y : Nat} (hl : l.getLast? = some y) (hne : y ≠ x) : run (l ++ [x]) = run l := by
  have n : l ≠ [] := by rintro rfl; cases hl
  have e : (l ++ [x]).headD 0 = l.headD 0 := by cases l with
    | nil => exact absurd rfl n
    | cons a l => rfl
  unfold run
  rw [e, tw_snoc n (fun z hz => by rw [hl] at hz; cases hz; exact hne) (fun z hz => by
    rw [hl] at hz; cases hz
    by_cases q : y = l.headD 0
    · right; rw [← q]; exact fun z => hne z.symm
    · left; simpa using q)]
theorem lets_len : lets.length = 23 := by decide +kernel
theorem lets_nd : lets.Nodup := by decide +kernel
theorem lets_alph : ∀ c ∈ lets, c ∈ alph := by decide +kernel
theorem tls_ok : ∀ z ∈ tls, z.length ≤ 6 ∧ (∀ c ∈ z.cps.toList, c ∈ alph) ∧ (z.cps.toList = [] ∨ z.cps.toList.headD 0 ∉ lets) := by decide +kernel
def letAt (j sh : Nat) : Nat := lets.getD ((j + sh) % 23) 0
theorem letAt_mem (j sh : Nat) : letAt j sh ∈ lets := by
  have h : (j + sh) % 23 < lets.length := by rw [lets_len]; exact Nat.mod_lt _ (by omega)
  unfold letAt
  rw [List.getD_eq_getElem?_getD, List.getElem?_eq_getElem h]
  exact List.getElem_mem h
theorem letAt_inj {j k sh : Nat} (h : letAt j sh = letAt k sh) : (j + sh) % 23 = (k + sh) % 23 := by
  have h1 : (j + sh) % 23 < lets.length := by rw [lets_len]; exact Nat.mod_lt _ (by omega)
  have h2 : (k + sh) % 23 < lets.length := by rw [lets_len]; exact Nat.mod_lt _ (by omega)
  unfold letAt at h
  rw [List.getD_eq_getElem?_getD, List.getD_eq_getElem?_getD, List.getElem?_eq_getElem h1, List.getElem?_eq_getElem h2] at h
  exact (List.getElem_inj lets_nd).mp h
/-- the names called so far -/
structure Cd (sh k : Nat) (fs : List Str) : Prop where
  len : fs.length = k
  nd : fs.Nodup
  nm : ∀ z ∈ fs, IsNm z ∧ ∃ j, j < k ∧ run z.cps.toList = (letAt j sh, 1 + j / 23)
  lst : ∀ l, fs.getLast? = some l → ∀ z ∈ fs, run z.cps.toList = run l.cps.toList → z.length ≤ l.length
theorem Cd.nil (sh : Nat) : Cd sh 0 [] := ⟨rfl, List.nodup_nil, fun z h => by simp at h, fun l h => by simp at h⟩
theorem Cd.fresh {sh k : Nat} {fs : List Str} (c : Cd sh k fs) (hk : k < 46) {z tl : Str} (ht : tl ∈ tls) (hz : z.cps.toList = List.replicate (1 + k / 23) (letAt k sh) ++ tl.cps.toList) : Cd sh (k + 1) (fs ++ [z]) := by
  obtain ⟨t1, t2, t3⟩ := tls_ok tl ht
  have t3' : tl.cps.toList = [] ∨ tl.cps.toList.headD 0 ≠ letAt k sh := t3.imp id fun h e => h (e ▸ letAt_mem k sh)
  have hr : run z.cps.toList = (letAt k sh, 1 + k / 23) := by rw [hz, Nat.add_comm 1]; exact run_rep t3' _
  have hl : z.length = 1 + k / 23 + tl.length := by
    show z.cps.size = _ + tl.cps.size
    rw [← Array.length_toList, hz, List.length_append, List.length_replicate, Array.length_toList]
  have old : ∀ w ∈ fs, run w.cps.toList ≠ run z.cps.toList := fun w hw e => by
    obtain ⟨j, hj, e2⟩ := (c.nm w hw).2
    rw [e2, hr] at e
    have e3 := letAt_inj (congrArg Prod.fst e)
    have e4 : 1 + j / 23 = 1 + k / 23 := congrArg Prod.snd e
    omega
  refine ⟨by rw [List.length_append, c.len]; rfl, ?_, fun w hw => ?_, fun l hl2 w hw e => ?_⟩
  · rw [List.nodup_append]
    refine ⟨c.nd, by simp, fun a ha b hb e => ?_⟩
    rw [List.mem_singleton.mp hb] at e
    exact old a ha (by rw [e])
  · rcases List.mem_append.mp hw with h | h
    · obtain ⟨a, j, hj, e⟩ := c.nm w h
      exact ⟨a, j, by omega, e⟩
    · rw [List.mem_singleton.mp h]
      refine ⟨⟨by omega, by omega, fun x hx => ?_⟩, k, by omega, hr⟩
      rw [hz] at hx
      rcases List.mem_append.mp hx with q | q
      · rw [(List.mem_replicate.mp q).2]; exact lets_alph _ (letAt_mem _ _)
      · exact t2 x q
  · rw [List.getLast?_append] at hl2
    obtain rfl : z = l := by simpa using hl2
    rcases List.mem_append.mp hw with h | h
    · exact absurd e (old w h)
    · rw [List.mem_singleton.mp h]; exact Nat.le_refl _
theorem Cd.chain {sh k : Nat} {fs : List Str} (c : Cd sh k fs) {l z : Str} {x y : Nat} (hl : fs.getLast? = some l) (h8 : l.length < 8) (hx : x ∈ alph) (hy : l.cps.toList.getLast? = some y) (hne : y ≠ x) (hz : z.cps.toList = l.cps.toList ++ [x]) : Cd sh (k + 1) (fs ++ [z]) := by
  have hm : l ∈ fs := List.mem_of_getLast? hl
  obtain ⟨nm, j, hj, hr⟩ := c.nm l hm
  have hrz : run z.cps.toList = run l.cps.toList := by rw [hz]; exact run_snoc hy hne
  have hlen : z.length = l.length + 1 := by
    show z.cps.size = l.cps.size + 1
    rw [← Array.length_toList, hz, List.length_append, Array.length_toList]; rfl
  refine ⟨by rw [List.length_append, c.len]; rfl, ?_, fun w hw => ?_, fun l2 hl2 w hw e => ?_⟩
  · rw [List.nodup_append]
    refine ⟨c.nd, by simp, fun a ha b hb e => ?_⟩
    rw [List.mem_singleton.mp hb] at e
    have := c.lst l hl a ha (by rw [e]; exact hrz)
    rw [e] at this; omega
  · rcases List.mem_append.mp hw with h | h
    · obtain ⟨a, j, hj, e⟩ := c.nm w h
      exact ⟨a, j, by omega, e⟩
    · rw [List.mem_singleton.mp h]
      refine ⟨⟨by omega, by omega, fun v hv => ?_⟩, j, by omega, by rw [hrz, hr]⟩
      rw [hz] at hv
      rcases List.mem_append.mp hv with q | q
      · exact nm.2.2 v q
      · rw [List.mem_singleton.mp q]; exact hx
  · rw [List.getLast?_append] at hl2
    obtain rfl : z = l2 := by simpa using hl2
    rcases List.mem_append.mp hw with h | h
    · have := c.lst l hl w h (by rw [e, hrz]); omega
    · rw [List.mem_singleton.mp h]; exact Nat.le_refl _
theorem mul_ch (c n : Nat) (h1 : 1 ≤ n) (h2 : n ≤ 2) : MulOk ⟨#[c]⟩ (n : Int) ∧ Txt.mul ⟨#[c]⟩ (n : Int) = ⟨(List.replicate n c).toArray⟩ := by
  have : n = 1 ∨ n = 2 := by omega
  rcases this with rfl | rfl
  · refine ⟨⟨by decide, fun _ h => by simp at h, fun _ h => by simp at h⟩, ?_⟩
    unfold Txt.mul
    rw [if_neg (by decide), if_pos (by simp)]
    rfl
  · refine ⟨⟨by decide, fun _ _ => by show ¬ ((1 : Nat) : Int) > _; decide, fun _ _ => by show Builtin.Str.tooLong (1 * 2) = false; decide⟩, ?_⟩
    unfold Txt.mul
    rw [if_neg (by decide), if_neg (by intro h; simp [Str.length] at h)]
    rfl
theorem cutS_last {z : Str} {y : Nat} (h : z.cps.toList.getLast? = some y) : cutS z (some (-1)) none = ⟨#[y]⟩ := by
  obtain ⟨ini, e⟩ : ∃ ini, z.cps.toList = ini ++ [y] := by
    refine ⟨z.cps.toList.dropLast, ?_⟩
    have n : z.cps.toList ≠ [] := by intro q; rw [q] at h; cases h
    have := List.dropLast_concat_getLast n
    rw [List.getLast?_eq_some_getLast n] at h
    rw [← Option.some.inj h]; exact this.symm
  have hl : z.length = ini.length + 1 := by
    show z.cps.size = _
    rw [← Array.length_toList, e, List.length_append]; rfl
  unfold cutS
  have e1 : HT.sIx z.length 0 (some (-1)) = ini.length := by
    show (if (-1 : Int) < 0 then ((-1 : Int) + (z.length : Int)).toNat else min (-1 : Int).toNat z.length) = _
    rw [if_pos (by decide), hl]; omega
  have e2 : HT.sIx z.length z.length none = z.length := HT.sIx_none _ _
  rw [e1, e2, e, hl]
  simp
end GG
namespace GG
open PySem PySem.Spec L2
theorem LS.mem {H : Hp} : ∀ {Ss : List (List Str)} {vs : List V}, LS H Ss vs → ∀ v ∈ vs, ∃ q o, v = .ref q ∧ H q = some o
  | [], vs, h, v, hv => by subst h; simp at hv
  | S :: Ss, vs, ⟨q, r, e, h1, h2⟩, v, hv => by
    subst e
    rcases List.mem_cons.mp hv with z | z
    · exact ⟨q, _, z, h1⟩
    · exact LS.mem h2 v z
theorem LS.keep {H H' : Hp} {q : Addr} (s : ∀ b o, b ≠ q → H b = some o → H' b = some o) : ∀ {Ss : List (List Str)} {vs : List V}, LS H Ss vs → V.ref q ∉ vs → LS H' Ss vs
  | [], vs, h, _ => h
  | S :: Ss, vs, ⟨b, r, e, h1, h2⟩, n => by
    subst e
    have n1 : b ≠ q := fun z => n (by rw [z]; exact List.mem_cons_self ..)
    exact ⟨b, r, rfl, s _ _ n1 h1, LS.keep s h2 fun z => n (List.mem_cons_of_mem _ z)⟩
theorem LS.put {H H' : Hp} {q : Addr} {S : List Str} (s : ∀ b o, b ≠ q → H b = some o → H' b = some o) (hq : H' q = some (.lst (S.map V.str))) :
    ∀ {Ss : List (List Str)} {vs : List V} {j : Nat}, LS H Ss vs → vs.Nodup → vs[j]? = some (.ref q) → LS H' (Ss.set j S) vs
  | [], vs, j, h, _, e => by subst h; simp at e
  | R :: Ss, vs, 0, ⟨b, r, e, h1, h2⟩, nd, hj => by
    subst e
    simp at hj; subst hj
    exact ⟨b, r, rfl, hq, h2.keep s (List.nodup_cons.mp nd).1⟩
  | R :: Ss, vs, j + 1, ⟨b, r, e, h1, h2⟩, nd, hj => by
    subst e
    have hj' : r[j]? = some (.ref q) := by simpa using hj
    have n1 : b ≠ q := fun z => (List.nodup_cons.mp nd).1 (by rw [z]; exact List.mem_of_getElem? hj')
    exact ⟨b, r, rfl, s _ _ n1 h1, LS.put s hq h2 (List.nodup_cons.mp nd).2 hj'⟩
theorem flat_put {n : Str} : ∀ {Ss : List (List Str)} {j : Nat} {R : List Str}, Ss[j]? = some R → (Ss.set j (R ++ [n])).flatten.Perm (Ss.flatten ++ [n])
  | [], j, R, h => by simp at h
  | S :: Ss, 0, R, h => by
    simp at h; subst h
    rw [List.set_cons_zero, List.flatten_cons, List.flatten_cons, List.append_assoc, List.append_assoc]
    exact (List.perm_append_left_iff _).mpr List.perm_append_comm
  | S :: Ss, j + 1, R, h => by
    rw [List.set_cons_succ, List.flatten_cons, List.flatten_cons, List.append_assoc]
    exact (List.perm_append_left_iff _).mpr (flat_put (by simpa using h))
theorem flat_filter : ∀ Ss : List (List Str), (Ss.filter fun R => !R.isEmpty).flatten = Ss.flatten
  | [] => rfl
  | [] :: Ss => by rw [List.filter_cons]; simpa using flat_filter Ss
  | (a :: l) :: Ss => by rw [List.filter_cons]; simpa using flat_filter Ss
theorem flat_rep (n : Nat) : (List.replicate n ([] : List Str)).flatten = [] := by
  induction n with
  | zero => rfl
  | succ n ih => rw [List.replicate_succ, List.flatten_cons, ih]; rfl
theorem flat_len : ∀ {Ss : List (List Str)}, (∀ R ∈ Ss, R ≠ []) → Ss.length ≤ Ss.flatten.length
  | [], _ => Nat.le_refl _
  | R :: Ss, h => by
    have := flat_len (Ss := Ss) fun R hR => h R (List.mem_cons_of_mem _ hR)
    have n := h R (List.mem_cons_self ..)
    have : 0 < R.length := by
      rcases Nat.eq_zero_or_pos R.length with z | z
      · exact absurd (List.length_eq_zero_iff.mp z) n
      · exact z
    rw [List.flatten_cons, List.length_append, List.length_cons]; omega
theorem flat_lt : ∀ {Ss : List (List Str)}, (∀ R ∈ Ss, R ≠ []) → 2 ≤ Ss.length → ∀ R ∈ Ss, R.length < Ss.flatten.length
  | [], _, h, R, hR => by simp at hR
  | S :: Ss, hn, h2, R, hR => by
    have fl := flat_len (Ss := Ss) fun R hR => hn R (List.mem_cons_of_mem _ hR)
    rw [List.length_cons] at h2
    rw [List.flatten_cons, List.length_append]
    rcases List.mem_cons.mp hR with z | z
    · subst z; omega
    · have ns := hn S (List.mem_cons_self ..)
      have : 0 < S.length := by
        rcases Nat.eq_zero_or_pos S.length with z | z
        · exact absurd (List.length_eq_zero_iff.mp z) ns
        · exact z
      have : R.length ≤ Ss.flatten.length := (List.sublist_flatten_of_mem z).length_le
      omega
theorem cutV_take1 {xs : List V} : cutV xs none (some 1) = xs.take 1 := by
  unfold cutV
  rw [HT.sIx_none, show (1 : Int) = ((1 : Nat) : Int) from rfl, HT.sIx_nat, List.drop_zero]
  cases xs with
  | nil => rfl
  | cons a l => simp
theorem cutV_drop1 {xs : List V} : cutV xs (some 1) none = xs.drop 1 := by
  unfold cutV
  rw [HT.sIx_none, show (1 : Int) = ((1 : Nat) : Int) from rfl, HT.sIx_nat]
  cases xs with
  | nil => rfl
  | cons a l => simp
end GG
namespace GG
open PySem PySem.Spec L2
end GG
/-! the plain law of the counts -/
namespace GG
open PySem L2
mutual
theorem T.low_congr {S S' : List Str} : ∀ (t : T), (∀ x ∈ t.names, x ∈ S ↔ x ∈ S') → t.low S = t.low S'
  | .leaf n, h => by
    have := h n (List.mem_cons_self ..)
    rw [T.low, T.low]
    by_cases q : n ∈ S
    · rw [if_pos q, if_pos (this.mp q)]
    · rw [if_neg q, if_neg (fun z => q (this.mpr z))]
  | .grp rk ps, h => by
    rw [T.low, T.low, T.lowL_congr ps fun x hx => h x (by rw [T.names]; exact hx)]
theorem T.lowL_congr {S S' : List Str} : ∀ (ts : List T), (∀ x ∈ T.namesL ts, x ∈ S ↔ x ∈ S') → T.lowL S ts = T.lowL S' ts
  | [], _ => rfl
  | t :: ts, h => by
    rw [T.lowL, T.lowL, T.low_congr t fun x hx => h x (by rw [T.namesL]; exact List.mem_append_left _ hx), T.lowL_congr ts fun x hx => h x (by rw [T.namesL]; exact List.mem_append_right _ hx)]
end
mutual
theorem T.low_le {S : List Str} : ∀ t : T, t.low S ≤ t.width
  | .leaf n => by rw [T.low, T.width]; split <;> omega
  | .grp rk ps => by rw [T.low, T.width]; exact List.length_filter_le _ _
theorem T.lowL_le {S : List Str} : ∀ ts : List T, T.lowL S ts ≤ T.taken ts
  | [] => Nat.le_refl _
  | t :: ts => by rw [T.lowL, T.taken]; have := T.low_le (S := S) t; have := T.lowL_le (S := S) ts; omega
end
theorem cnt_mono {l : List Int} {a b : Int} (h : a ≤ b) : (l.filter fun r => decide (r ≤ a)).length ≤ (l.filter fun r => decide (r ≤ b)).length := by
  rw [← List.countP_eq_length_filter, ← List.countP_eq_length_filter]
  exact List.countP_mono_left fun x _ hx => decide_eq_true (by have := of_decide_eq_true hx; omega)
theorem cnt_step : ∀ {l : List Int} {a : Int}, l.Pairwise (· < ·) → (l.filter fun r => decide (r ≤ a + 1)).length ≤ (l.filter fun r => decide (r ≤ a)).length + 1
  | [], a, _ => by simp
  | x :: l, a, p => by
    have q := List.pairwise_cons.mp p
    rw [List.filter_cons, List.filter_cons]
    by_cases h : x ≤ a
    · have h' : x ≤ a + 1 := by omega
      rw [if_pos (decide_eq_true h), if_pos (decide_eq_true h'), List.length_cons, List.length_cons]
      have := cnt_step (l := l) (a := a) q.2
      omega
    · have rest : l.filter (fun r => decide (r ≤ a + 1)) = [] := by
        rw [List.filter_eq_nil_iff]
        intro y hy
        have := q.1 y hy
        simp only [decide_eq_true_eq]
        omega
      split
      · rw [rest, List.length_cons, List.length_nil]; omega
      · rw [rest, List.length_nil]; omega
mutual
theorem T.low_step {S : List Str} {x : Str} : ∀ (t : T), t.Sh → t.names.Nodup → t.low S ≤ t.low (x :: S) ∧ t.low (x :: S) ≤ t.low S + (if x ∈ t.names then 1 else 0)
  | .leaf n, _, _ => by
    rw [T.low, T.low, T.names]
    by_cases q : n ∈ S
    · rw [if_pos q, if_pos (List.mem_cons_of_mem _ q)]
      constructor
      · omega
      · split <;> omega
    · rw [if_neg q]
      by_cases z : n = x
      · subst z
        rw [if_pos (List.mem_cons_self ..), if_pos (List.mem_cons_self ..)]
        omega
      · rw [if_neg (by intro w; rcases List.mem_cons.mp w with w | w; exact z w; exact q w)]
        omega
  | .grp rk ps, sh, nd => by
    rw [T.Sh] at sh
    rw [T.names] at nd ⊢
    obtain ⟨a, b⟩ := T.lowL_step (S := S) (x := x) ps sh.2.2 nd
    rw [T.low, T.low]
    refine ⟨cnt_mono (by omega), ?_⟩
    split
    · rename_i hx
      rw [if_pos hx] at b
      have h1 := cnt_mono (l := rk) (a := (T.lowL (x :: S) ps : Int)) (b := (T.lowL S ps : Int) + 1) (by omega)
      have h2 := cnt_step (l := rk) (a := (T.lowL S ps : Int)) sh.2.1.asc
      omega
    · rename_i hx
      rw [if_neg hx] at b
      have h1 := cnt_mono (l := rk) (a := (T.lowL (x :: S) ps : Int)) (b := (T.lowL S ps : Int)) (by omega)
      omega
theorem T.lowL_step {S : List Str} {x : Str} : ∀ (ts : List T), T.ShL ts → (T.namesL ts).Nodup → T.lowL S ts ≤ T.lowL (x :: S) ts ∧ T.lowL (x :: S) ts ≤ T.lowL S ts + (if x ∈ T.namesL ts then 1 else 0)
  | [], _, _ => by rw [T.lowL, T.lowL]; omega
  | t :: ts, sh, nd => by
    rw [T.ShL] at sh
    rw [T.namesL] at nd ⊢
    obtain ⟨n1, n2, n3⟩ := List.nodup_append.mp nd
    obtain ⟨a, b⟩ := T.low_step (S := S) (x := x) t sh.1 n1
    obtain ⟨c, d⟩ := T.lowL_step (S := S) (x := x) ts sh.2 n2
    rw [T.lowL, T.lowL]
    refine ⟨by omega, ?_⟩
    by_cases h1 : x ∈ t.names
    · have h2 : x ∉ T.namesL ts := fun h2 => n3 x h1 x h2 rfl
      rw [if_pos h1] at b
      rw [if_neg h2] at d
      rw [if_pos (List.mem_append_left _ h1)]
      omega
    · rw [if_neg h1] at b
      by_cases h2 : x ∈ T.namesL ts
      · rw [if_pos h2] at d
        rw [if_pos (List.mem_append_right _ h2)]
        omega
      · rw [if_neg h2] at d
        rw [if_neg (by intro w; rcases List.mem_append.mp w with w | w; exact h1 w; exact h2 w)]
        omega
end
mutual
theorem T.low_nil : ∀ t : T, t.Sh → t.low [] = 0
  | .leaf n, _ => by rw [T.low]; simp
  | .grp rk ps, sh => by
    rw [T.Sh] at sh
    rw [T.low, T.lowL_nil ps sh.2.2, List.length_eq_zero_iff, List.filter_eq_nil_iff]
    intro r hr
    have := sh.2.1.lo r hr
    simp only [decide_eq_true_eq]
    omega
theorem T.lowL_nil : ∀ ts : List T, T.ShL ts → T.lowL [] ts = 0
  | [], _ => rfl
  | t :: ts, sh => by rw [T.ShL] at sh; rw [T.lowL, T.low_nil t sh.1, T.lowL_nil ts sh.2]
end
/-- some sublist has just so many low ends -/
theorem T.exact {t : T} (sh : t.Sh) (nd : t.names.Nodup) {q : Nat} : ∀ (S : List Str), q ≤ t.low S → ∃ S', S'.Sublist S ∧ t.low S' = q
  | [], h => ⟨[], List.Sublist.slnil, by rw [T.low_nil t sh] at h ⊢; omega⟩
  | x :: S, h => by
    by_cases c : q ≤ t.low S
    · obtain ⟨S', a, b⟩ := T.exact sh nd S c
      exact ⟨S', a.cons _, b⟩
    · have st := (T.low_step (S := S) (x := x) t sh nd).2
      have : (if x ∈ t.names then 1 else 0) ≤ 1 := by split <;> omega
      exact ⟨x :: S, List.Sublist.refl _, by omega⟩
/-- c tells the least sizes of sublists with at least so many -/
def Lst (f : List Str → Nat) (ns : List Str) (c : List Int) : Prop :=
  ∀ q, q < c.length → (∀ S, S.Sublist ns → q ≤ f S → c.getD q 0 ≤ (S.length : Int)) ∧ ∃ S, S.Sublist ns ∧ q ≤ f S ∧ (S.length : Int) = c.getD q 0
theorem T.lowL_append (S : List Str) : ∀ (as bs : List T), T.lowL S (as ++ bs) = T.lowL S as + T.lowL S bs
  | [], bs => by rw [List.nil_append, T.lowL]; omega
  | a :: as, bs => by rw [List.cons_append, T.lowL, T.lowL, T.lowL_append S as bs]; omega
theorem T.namesL_append (as bs : List T) : T.namesL (as ++ bs) = T.namesL as ++ T.namesL bs := by
  rw [T.namesL_eq, T.namesL_eq, T.namesL_eq, List.flatMap_append]
end GG
namespace GG
open PySem L2
theorem Lst.mono {f : List Str → Nat} {ns : List Str} {c : List Int} (h : Lst f ns c) {i j : Nat} (hij : i ≤ j) (hj : j < c.length) : c.getD i 0 ≤ c.getD j 0 := by
  obtain ⟨S, a, b, e⟩ := (h j hj).2
  have := (h i (by omega)).1 S a (by omega)
  omega
end GG
/-! the ends of a tree with given worths -/
namespace GG
open PySem L2
def srt (l : List Int) : List Int := l.mergeSort fun a b => decide (a ≤ b)
theorem srt_perm (l : List Int) : (srt l).Perm l := List.mergeSort_perm _ _
theorem srt_asc (l : List Int) : (srt l).Pairwise (· ≤ ·) := by
  have h := List.pairwise_mergeSort (le := fun a b : Int => decide (a ≤ b)) (fun a b c h1 h2 => decide_eq_true (by have := of_decide_eq_true h1; have := of_decide_eq_true h2; omega)) (fun a b => by
    by_cases h : a ≤ b
    · simp [h]
    · have : b ≤ a := by omega
      simp [this]) l
  exact h.imp fun q => of_decide_eq_true q
theorem srt_uniq {a b : List Int} (p : a.Perm b) (ha : a.Pairwise (· ≤ ·)) (hb : b.Pairwise (· ≤ ·)) : a = b := by
  induction a generalizing b with
  | nil => exact (List.length_eq_zero_iff.mp (by simpa using p.length_eq.symm)).symm
  | cons x a ih =>
    cases b with
    | nil => exact absurd p.length_eq (by simp)
    | cons y b =>
      obtain ⟨a1, a2⟩ := List.pairwise_cons.mp ha
      obtain ⟨b1, b2⟩ := List.pairwise_cons.mp hb
      have e : x = y := by
        rcases List.mem_cons.mp (p.mem_iff.mp (List.mem_cons_self ..)) with z | z
        · exact z
        · rcases List.mem_cons.mp (p.mem_iff.mpr (List.mem_cons_self ..)) with w | w
          · exact w.symm
          · have := b1 x z; have := a1 y w; omega
      subst e
      rw [ih (List.perm_cons x |>.mp p) a2 b2]
theorem srt_of {a l : List Int} (p : a.Perm l) (ha : a.Pairwise (· ≤ ·)) : a = srt l := srt_uniq (p.trans (srt_perm l).symm) ha (srt_asc l)
mutual
def T.ends (W : Str → Int) : T → List Int
  | .leaf n => [W n]
  | .grp rk ps => rk.map fun r => (srt (T.endsL W ps)).getD (r.toNat - 1) 0
def T.endsL (W : Str → Int) : List T → List Int
  | [] => []
  | t :: ts => t.ends W ++ T.endsL W ts
end
theorem T.ends_len (W : Str → Int) : ∀ t : T, (t.ends W).length = t.width
  | .leaf _ => rfl
  | .grp rk ps => by rw [T.ends, T.width, List.length_map]
theorem T.endsL_len (W : Str → Int) : ∀ ts : List T, (T.endsL W ts).length = T.taken ts
  | [] => rfl
  | t :: ts => by rw [T.endsL, T.taken, List.length_append, T.ends_len, T.endsL_len W ts]
def cle (l : List Int) (b : Int) : Nat := (l.filter fun d => decide (d ≤ b)).length
theorem cle_perm {a l : List Int} (p : a.Perm l) (b : Int) : cle a b = cle l b := (p.filter _).length_eq
theorem cle_append (a l : List Int) (b : Int) : cle (a ++ l) b = cle a b + cle l b := by unfold cle; rw [List.filter_append, List.length_append]
/-- of an ascending list the first are those up to b -/
theorem cle_at : ∀ {l : List Int} {b : Int} {i : Nat}, l.Pairwise (· ≤ ·) → i < l.length → (l.getD i 0 ≤ b ↔ i < cle l b)
  | [], b, i, _, h => by simp at h
  | x :: l, b, i, p, h => by
    obtain ⟨p1, p2⟩ := List.pairwise_cons.mp p
    have c : cle (x :: l) b = if x ≤ b then cle l b + 1 else cle l b := by
      unfold cle
      rw [List.filter_cons]
      by_cases q : x ≤ b
      · rw [if_pos (decide_eq_true q), if_pos q, List.length_cons]
      · rw [if_neg (by simpa using q), if_neg q]
    have z : ¬ x ≤ b → cle l b = 0 := fun q => by
      unfold cle
      rw [List.length_eq_zero_iff, List.filter_eq_nil_iff]
      intro y hy
      have := p1 y hy
      simp only [decide_eq_true_eq]
      omega
    cases i with
    | zero =>
      rw [List.getD_cons_zero, c]
      by_cases q : x ≤ b
      · rw [if_pos q]; exact ⟨fun _ => by omega, fun _ => q⟩
      · rw [if_neg q, z q]; exact ⟨fun w => absurd w q, fun w => by omega⟩
    | succ i =>
      rw [List.length_cons] at h
      rw [List.getD_cons_succ, c, cle_at (b := b) p2 (by omega)]
      by_cases q : x ≤ b
      · rw [if_pos q]; omega
      · rw [if_neg q, z q]; omega
mutual
/-- the ends up to b are the low ends of the leaves with worths up to b -/
theorem T.ends_low {W : Str → Int} {S : List Str} {b : Int} : ∀ (t : T), t.Sh → (∀ n ∈ t.names, n ∈ S ↔ W n ≤ b) → cle (t.ends W) b = t.low S
  | .leaf n, _, h => by
    have := h n (List.mem_cons_self ..)
    rw [T.ends, T.low]
    unfold cle
    rw [List.filter_cons, List.filter_nil]
    by_cases q : W n ≤ b
    · rw [if_pos (decide_eq_true q), if_pos (this.mpr q)]; rfl
    · rw [if_neg (by simpa using q), if_neg (fun z => q (this.mp z))]; rfl
  | .grp rk ps, sh, h => by
    rw [T.Sh] at sh
    have ih := T.endsL_low (W := W) (S := S) (b := b) ps sh.2.2 fun n hn => h n (by rw [T.names]; exact hn)
    have c2 := cle_perm (srt_perm (T.endsL W ps)) b
    have sl : (srt (T.endsL W ps)).length = T.taken ps := by rw [(srt_perm _).length_eq, T.endsL_len]
    rw [T.ends, T.low]
    unfold cle
    rw [List.filter_map, List.length_map]
    congr 1
    refine List.filter_congr fun r hr => ?_
    have r1 := sh.2.1.lo r hr
    have r2 := sh.2.1.hi r hr
    simp only [Function.comp]
    refine decide_eq_decide.mpr ?_
    rw [cle_at (srt_asc _) (by omega), c2, ih]
    omega
theorem T.endsL_low {W : Str → Int} {S : List Str} {b : Int} : ∀ (ts : List T), T.ShL ts → (∀ n ∈ T.namesL ts, n ∈ S ↔ W n ≤ b) → cle (T.endsL W ts) b = T.lowL S ts
  | [], _, _ => rfl
  | t :: ts, sh, h => by
    rw [T.ShL] at sh
    rw [T.endsL, T.lowL, cle_append, T.ends_low t sh.1 fun n hn => h n (by rw [T.namesL]; exact List.mem_append_left _ hn), T.endsL_low ts sh.2 fun n hn => h n (by rw [T.namesL]; exact List.mem_append_right _ hn)]
end
theorem srt_mono {l : List Int} {i j : Nat} (h : i ≤ j) (hj : j < l.length) : (srt l).getD i 0 ≤ (srt l).getD j 0 := by
  have sl : (srt l).length = l.length := (srt_perm l).length_eq
  rcases Nat.lt_or_ge i j with q | q
  · have := List.pairwise_iff_getElem.mp (srt_asc l) i j (by omega) (by omega) q
    rw [List.getD_eq_getElem?_getD, List.getD_eq_getElem?_getD, List.getElem?_eq_getElem (by omega), List.getElem?_eq_getElem (by omega)]
    exact this
  · have : i = j := by omega
    subst this; exact Int.le_refl _
theorem T.ends_asc {W : Str → Int} : ∀ (t : T), t.Sh → (t.ends W).Pairwise (· ≤ ·)
  | .leaf n, _ => by rw [T.ends]; simp
  | .grp rk ps, sh => by
    rw [T.Sh] at sh
    rw [T.ends, List.pairwise_map]
    have all : ∀ {l : List Int}, (∀ r ∈ l, r ∈ rk) → l.Pairwise (· < ·) → l.Pairwise (fun a c => (srt (T.endsL W ps)).getD (a.toNat - 1) 0 ≤ (srt (T.endsL W ps)).getD (c.toNat - 1) 0) := by
      intro l
      induction l with
      | nil => intro _ _; exact List.Pairwise.nil
      | cons x l ih =>
        intro hm p
        obtain ⟨p1, p2⟩ := List.pairwise_cons.mp p
        refine List.pairwise_cons.mpr ⟨fun y hy => ?_, ih (fun r hr => hm r (List.mem_cons_of_mem _ hr)) p2⟩
        have a := p1 y hy
        have b := sh.2.1.lo x (hm x (List.mem_cons_self ..))
        have c := sh.2.1.hi y (hm y (List.mem_cons_of_mem _ hy))
        exact srt_mono (by omega) (by rw [T.endsL_len]; omega)
    exact all (fun r hr => hr) sh.2.1.asc
end GG
/-! leaves on which an end hangs -/
namespace GG
open PySem L2
/-- low ends of the parts without the leaf n -/
def T.others (n : Str) (ps : List T) : List T := ps.filter fun t => !decide (n ∈ t.names)
mutual
/-- the numbers of low ends to which one more comes with the leaf n, L low and any of F -/
def T.SW (n : Str) (L F : List Str) : T → Int → Prop
  | .leaf _, k => k = 0
  | .grp rk ps, k => ∃ num more : Int, T.SWL n L F ps num ∧ (T.lowL L (T.others n ps) : Int) ≤ more ∧ more ≤ (T.lowL (L ++ F) (T.others n ps) : Int) ∧ num + more + 1 ∈ rk ∧ k = ((rk.filter fun r => decide (r ≤ num + more)).length : Int)
def T.SWL (n : Str) (L F : List Str) : List T → Int → Prop
  | [], _ => False
  | t :: ts, k => (n ∈ t.names ∧ t.SW n L F k) ∨ T.SWL n L F ts k
end
theorem T.SWL_iff {n : Str} {L F : List Str} {k : Int} : ∀ {ts : List T}, T.SWL n L F ts k ↔ ∃ p ∈ ts, n ∈ p.names ∧ p.SW n L F k
  | [] => by rw [T.SWL]; simp
  | t :: ts => by rw [T.SWL, T.SWL_iff (ts := ts)]; simp
theorem T.lowL_mono {S S' : List Str} (ts : List T) (sh : T.ShL ts) (h : ∀ x ∈ S, x ∈ S') (nd : (T.namesL ts).Nodup) : T.lowL S ts ≤ T.lowL S' ts := by
  have key : ∀ (A : List Str), T.lowL S ts ≤ T.lowL (A ++ S) ts := by
    intro A
    induction A with
    | nil => exact Nat.le_refl _
    | cons a A ih => exact Nat.le_trans ih (T.lowL_step (S := A ++ S) (x := a) ts sh nd).1
  refine Nat.le_trans (key S') (Nat.le_of_eq (T.lowL_congr ts fun x _ => ?_))
  rw [List.mem_append]
  exact ⟨fun q => q.elim id (h x), .inl⟩
theorem T.low_mono {S S' : List Str} (t : T) (sh : t.Sh) (h : ∀ x ∈ S, x ∈ S') (nd : t.names.Nodup) : t.low S ≤ t.low S' := by
  have := T.lowL_mono (S := S) (S' := S') [t] (by rw [T.ShL]; exact ⟨sh, trivial⟩) h (by rw [T.namesL, T.namesL, List.append_nil]; exact nd)
  rw [T.lowL, T.lowL, T.lowL, T.lowL] at this
  omega
/-- any number between is reached -/
theorem T.between {L : List Str} (ts : List T) (sh : T.ShL ts) (nd : (T.namesL ts).Nodup) : ∀ (F : List Str) {m : Nat}, T.lowL L ts ≤ m → m ≤ T.lowL (F ++ L) ts → ∃ S, (∀ x ∈ S, x ∈ F) ∧ T.lowL (S ++ L) ts = m
  | [], m, h1, h2 => ⟨[], fun x h => h, by rw [List.nil_append] at h2 ⊢; omega⟩
  | x :: F, m, h1, h2 => by
    by_cases c : m ≤ T.lowL (F ++ L) ts
    · obtain ⟨S, a, b⟩ := T.between ts sh nd F h1 c
      exact ⟨S, fun y hy => List.mem_cons_of_mem _ (a y hy), b⟩
    · have st := (T.lowL_step (S := F ++ L) (x := x) ts sh nd).2
      have : (if x ∈ T.namesL ts then 1 else 0) ≤ 1 := by split <;> omega
      rw [List.cons_append] at h2
      exact ⟨x :: F, fun y hy => hy, by rw [List.cons_append]; omega⟩
theorem flt_eq {l : List Int} {a b : Int} (h : a = b) : (l.filter fun r => decide (r ≤ a)) = l.filter fun r => decide (r ≤ b) := by rw [h]
theorem cnt_hit : ∀ {l : List Int} {a : Int}, l.Pairwise (· < ·) → a + 1 ∈ l → (l.filter fun r => decide (r ≤ a + 1)).length = (l.filter fun r => decide (r ≤ a)).length + 1 := by
  intro l
  induction l with
  | nil => intro a _ h; simp at h
  | cons x l ih =>
    intro a p h
    obtain ⟨p1, p2⟩ := List.pairwise_cons.mp p
    rw [List.filter_cons, List.filter_cons]
    rcases List.mem_cons.mp h with e | e
    · have r1 : l.filter (fun r => decide (r ≤ a + 1)) = [] := List.filter_eq_nil_iff.mpr fun y hy => by
        have := p1 y hy; simp only [decide_eq_true_eq]; omega
      have r2 : l.filter (fun r => decide (r ≤ a)) = [] := List.filter_eq_nil_iff.mpr fun y hy => by
        have := p1 y hy; simp only [decide_eq_true_eq]; omega
      rw [if_pos (decide_eq_true (by omega)), if_neg (by simp only [decide_eq_true_eq]; omega), r1, r2]
      rfl
    · have := p1 _ e
      rw [if_pos (decide_eq_true (by omega)), if_pos (decide_eq_true (by omega)), List.length_cons, List.length_cons, ih p2 e]
theorem cnt_miss {l : List Int} {a : Int} (h : a + 1 ∉ l) : (l.filter fun r => decide (r ≤ a + 1)).length = (l.filter fun r => decide (r ≤ a)).length := by
  congr 1
  refine List.filter_congr fun r hr => decide_eq_decide.mpr ⟨fun q => ?_, fun q => by omega⟩
  have : r ≠ a + 1 := fun e => h (e ▸ hr)
  omega
theorem T.others_sh {n : Str} {ps : List T} (sh : T.ShL ps) : T.ShL (T.others n ps) := T.ShL_iff.mpr fun t ht => T.ShL_iff.mp sh t ((List.mem_filter.mp ht).1)
theorem T.namesL_sub : ∀ {as bs : List T}, as.Sublist bs → (T.namesL as).Sublist (T.namesL bs) := by
  intro as bs h
  induction h with
  | slnil => exact List.Sublist.refl _
  | cons a _ ih => rw [T.namesL]; exact ih.trans (List.sublist_append_right _ _)
  | cons_cons a _ ih => rw [T.namesL, T.namesL]; exact (List.Sublist.refl _).append ih
theorem T.others_nd {n : Str} {ps : List T} (nd : (T.namesL ps).Nodup) : (T.namesL (T.others n ps)).Nodup := nd.sublist (T.namesL_sub List.filter_sublist)
theorem T.mem_namesL {x : Str} : ∀ {ts : List T}, x ∈ T.namesL ts ↔ ∃ t ∈ ts, x ∈ t.names
  | [] => by rw [T.namesL]; simp
  | t :: ts => by rw [T.namesL, List.mem_append, T.mem_namesL (ts := ts)]; simp
theorem T.not_others {n : Str} {ps : List T} : n ∉ T.namesL (T.others n ps) := fun h => by
  obtain ⟨t, ht, hn⟩ := T.mem_namesL.mp h
  have := (List.mem_filter.mp ht).2
  simp only [Bool.not_eq_true', decide_eq_false_iff_not] at this
  exact this hn
/-- the part with n, and the others -/
theorem T.split_low {n : Str} {S : List Str} : ∀ {ps : List T} {p : T}, (T.namesL ps).Nodup → p ∈ ps → n ∈ p.names → T.lowL S ps = p.low S + T.lowL S (T.others n ps)
  | [], p, _, h, _ => by simp at h
  | t :: ts, p, nd, h, hn => by
    rw [T.namesL] at nd
    obtain ⟨n1, n2, n3⟩ := List.nodup_append.mp nd
    rw [T.lowL]
    unfold T.others
    rw [List.filter_cons]
    rcases List.mem_cons.mp h with e | e
    · subst e
      have all : ts.filter (fun t => !decide (n ∈ t.names)) = ts := List.filter_eq_self.mpr fun u hu => by
        simp only [Bool.not_eq_true', decide_eq_false_iff_not]
        exact fun z => n3 n hn n (T.mem_namesL.mpr ⟨u, hu, z⟩) rfl
      rw [if_neg (by simp [hn]), all]
    · have nt : n ∉ t.names := fun z => n3 n z n (T.mem_namesL.mpr ⟨p, e, hn⟩) rfl
      have ih := T.split_low (S := S) n2 e hn
      unfold T.others at ih
      rw [if_pos (by simp [nt]), T.lowL, ih]
      omega
theorem T.apart {n x : Str} : ∀ {ps : List T} {p : T}, (T.namesL ps).Nodup → p ∈ ps → n ∈ p.names → x ∈ T.namesL (T.others n ps) → x ∉ p.names
  | [], p, _, h, _, _ => by simp at h
  | t :: ts, p, nd, h, hn, hx => by
    intro hp
    obtain ⟨u, hu, hxu⟩ := T.mem_namesL.mp hx
    have hu' := (List.mem_filter.mp hu)
    have nu : n ∉ u.names := by simpa using hu'.2
    rw [T.namesL] at nd
    obtain ⟨n1, n2, n3⟩ := List.nodup_append.mp nd
    rcases List.mem_cons.mp h with e | e
    · subst e
      rcases List.mem_cons.mp hu'.1 with f | f
      · subst f; exact nu hn
      · exact n3 x hp x (T.mem_namesL.mpr ⟨u, f, hxu⟩) rfl
    · rcases List.mem_cons.mp hu'.1 with f | f
      · subst f; exact n3 x hxu x (T.mem_namesL.mpr ⟨p, e, hp⟩) rfl
      · refine T.apart n2 e hn (T.mem_namesL.mpr ⟨u, List.mem_filter.mpr ⟨f, hu'.2⟩, hxu⟩) hp
mutual
theorem T.sw_iff {n : Str} {L F : List Str} : ∀ (t : T), t.Sh → t.names.Nodup → n ∈ t.names → n ∉ L → n ∉ F → ∀ k, t.SW n L F k ↔ ∃ S, (∀ x ∈ S, x ∈ F) ∧ (t.low (S ++ L) : Int) = k ∧ (t.low (n :: (S ++ L)) : Int) = k + 1
  | .leaf z, _, _, hn, hL, hF, k => by
    obtain rfl : n = z := by simpa [T.names] using hn
    rw [T.SW]
    have nS : ∀ S, (∀ x ∈ S, x ∈ F) → n ∉ S ++ L := fun S h q => by
      rcases List.mem_append.mp q with q | q
      · exact hF (h n q)
      · exact hL q
    constructor
    · rintro rfl
      refine ⟨[], fun x h => by simp at h, ?_, ?_⟩
      · rw [T.low, if_neg (nS [] fun x h => by simp at h)]; rfl
      · rw [T.low, if_pos (List.mem_cons_self ..)]; rfl
    · rintro ⟨S, h, e, _⟩
      rw [T.low, if_neg (nS S h)] at e
      exact e.symm
  | .grp rk ps, sh, nd, hn, hL, hF, k => by
    rw [T.Sh] at sh
    rw [T.names] at nd hn
    obtain ⟨_, rok, shL⟩ := sh
    have ihs := T.swL_iff (n := n) (L := L) (F := F) ps shL nd hL hF
    have osh := T.others_sh (n := n) shL
    have ond := T.others_nd (n := n) nd
    rw [T.SW]
    constructor
    · rintro ⟨num, more, hs, h1, h2, h3, rfl⟩
      obtain ⟨p, hp, hnp, sw⟩ := T.SWL_iff.mp hs
      obtain ⟨S0, s0, e0, e1⟩ := (ihs p hp hnp num).mp sw
      have c : T.lowL (L ++ F) (T.others n ps) = T.lowL (F ++ L) (T.others n ps) := T.lowL_congr _ fun x _ => by rw [List.mem_append, List.mem_append]; exact Or.comm
      rw [c] at h2
      obtain ⟨S1, s1, e2⟩ := T.between (L := L) (T.others n ps) osh ond F (m := more.toNat) (by omega) (by omega)
      obtain ⟨S, inS⟩ : ∃ S : List Str, ∀ x, x ∈ S ↔ (x ∈ S0 ∧ x ∈ p.names) ∨ (x ∈ S1 ∧ x ∉ p.names) := ⟨S0.filter (fun x => decide (x ∈ p.names)) ++ S1.filter (fun x => !decide (x ∈ p.names)), fun x => by
        rw [List.mem_append, List.mem_filter, List.mem_filter]
        simp⟩
      have a1 : p.low (S ++ L) = p.low (S0 ++ L) := T.low_congr p fun x hx => by
        rw [List.mem_append, List.mem_append, inS]
        simp [hx]
      have a2 : p.low (n :: (S ++ L)) = p.low (n :: (S0 ++ L)) := T.low_congr p fun x hx => by
        rw [List.mem_cons, List.mem_cons, List.mem_append, List.mem_append, inS]
        simp [hx]
      have a3 : T.lowL (S ++ L) (T.others n ps) = T.lowL (S1 ++ L) (T.others n ps) := T.lowL_congr _ fun x hx => by
        have := T.apart nd hp hnp hx
        rw [List.mem_append, List.mem_append, inS]
        simp [this]
      have a4 : T.lowL (n :: (S ++ L)) (T.others n ps) = T.lowL (S ++ L) (T.others n ps) := T.lowL_congr _ fun x hx => by
        have : x ≠ n := by rintro rfl; exact T.not_others hx
        rw [List.mem_cons]
        simp [this]
      refine ⟨S, fun x hx => ?_, ?_, ?_⟩
      · rcases (inS x).mp hx with q | q
        · exact s0 x q.1
        · exact s1 x q.1
      · rw [T.low, T.split_low nd hp hnp, a1, a3, e2]
        rw [flt_eq (l := rk) (show ((p.low (S0 ++ L) + more.toNat : Nat) : Int) = num + more by omega)]
      · rw [T.low, T.split_low nd hp hnp, a2, a4, a3, e2]
        have h4 := cnt_hit rok.asc h3
        have h5 := flt_eq (l := rk) (show ((p.low (n :: (S0 ++ L)) + more.toNat : Nat) : Int) = num + more + 1 by omega)
        rw [h5, h4]
        omega
    · rintro ⟨S, s, e0, e1⟩
      obtain ⟨p, hp, hnp⟩ := T.mem_namesL.mp hn
      have psh := T.ShL_iff.mp shL p hp
      have pnd : p.names.Nodup := nd.sublist (T.namesL_mem hp)
      have a4 : T.lowL (n :: (S ++ L)) (T.others n ps) = T.lowL (S ++ L) (T.others n ps) := T.lowL_congr _ fun x hx => by
        have : x ≠ n := by rintro rfl; exact T.not_others hx
        rw [List.mem_cons]
        simp [this]
      rw [T.low, T.split_low nd hp hnp] at e0 e1
      rw [a4] at e1
      have st := T.low_step (S := S ++ L) (x := n) p psh pnd
      rw [if_pos hnp] at st
      have up : p.low (n :: (S ++ L)) = p.low (S ++ L) + 1 := by
        rcases Nat.lt_or_ge (p.low (S ++ L)) (p.low (n :: (S ++ L))) with q | q
        · omega
        · have : p.low (n :: (S ++ L)) = p.low (S ++ L) := by omega
          rw [this] at e1
          omega
      rw [up] at e1
      have e5 := flt_eq (l := rk) (show ((p.low (S ++ L) + 1 + T.lowL (S ++ L) (T.others n ps) : Nat) : Int) = ((p.low (S ++ L) + T.lowL (S ++ L) (T.others n ps) : Nat) : Int) + 1 by omega)
      rw [e5] at e1
      refine ⟨(p.low (S ++ L) : Int), (T.lowL (S ++ L) (T.others n ps) : Int), T.SWL_iff.mpr ⟨p, hp, hnp, (ihs p hp hnp _).mpr ⟨S, s, rfl, by omega⟩⟩, ?_, ?_, ?_, ?_⟩
      · have := T.lowL_mono (S := L) (S' := S ++ L) _ osh (fun x hx => List.mem_append_right _ hx) ond
        omega
      · have := T.lowL_mono (S := S ++ L) (S' := L ++ F) _ osh (fun x hx => by
          rcases List.mem_append.mp hx with q | q
          · exact List.mem_append_right _ (s x q)
          · exact List.mem_append_left _ q) ond
        omega
      · by_cases c : ((p.low (S ++ L) + T.lowL (S ++ L) (T.others n ps) : Nat) : Int) + 1 ∈ rk
        · rwa [show (p.low (S ++ L) : Int) + (T.lowL (S ++ L) (T.others n ps) : Int) + 1 = ((p.low (S ++ L) + T.lowL (S ++ L) (T.others n ps) : Nat) : Int) + 1 by omega]
        · rw [cnt_miss c] at e1
          omega
      · rw [← e0, flt_eq (l := rk) (show ((p.low (S ++ L) + T.lowL (S ++ L) (T.others n ps) : Nat) : Int) = (p.low (S ++ L) : Int) + (T.lowL (S ++ L) (T.others n ps) : Int) by omega)]
theorem T.swL_iff {n : Str} {L F : List Str} : ∀ (ts : List T), T.ShL ts → (T.namesL ts).Nodup → n ∉ L → n ∉ F → ∀ p ∈ ts, n ∈ p.names → ∀ k, p.SW n L F k ↔ ∃ S, (∀ x ∈ S, x ∈ F) ∧ (p.low (S ++ L) : Int) = k ∧ (p.low (n :: (S ++ L)) : Int) = k + 1
  | [], _, _, _, _, p, h, _, _ => by simp at h
  | t :: ts, sh, nd, hL, hF, p, h, hn, k => by
    rw [T.ShL] at sh
    rw [T.namesL] at nd
    obtain ⟨n1, n2, _⟩ := List.nodup_append.mp nd
    rcases List.mem_cons.mp h with e | e
    · rw [e] at hn ⊢; exact T.sw_iff t sh.1 n1 hn hL hF k
    · exact T.swL_iff ts sh.2 n2 hL hF p e hn k
end
end GG
/-! an end hangs on a leaf: by swings, by all worths -/
namespace GG
open PySem L2
theorem getD_mem {l : List Int} {i : Nat} (h : i < l.length) : l.getD i 0 ∈ l := by
  rw [List.getD_eq_getElem?_getD, List.getElem?_eq_getElem h]
  exact List.getElem_mem h
mutual
theorem T.ends_mem {W : Str → Int} : ∀ (t : T), t.Sh → ∀ x ∈ t.ends W, ∃ n ∈ t.names, x = W n
  | .leaf z, _, x, h => ⟨z, List.mem_cons_self .., by rw [T.ends] at h; exact List.mem_singleton.mp h⟩
  | .grp rk ps, sh, x, h => by
    rw [T.Sh] at sh
    rw [T.ends] at h
    obtain ⟨r, hr, rfl⟩ := List.mem_map.mp h
    have r1 := sh.2.1.lo r hr
    have r2 := sh.2.1.hi r hr
    have sl : (srt (T.endsL W ps)).length = T.taken ps := by rw [(srt_perm _).length_eq, T.endsL_len]
    have m := (srt_perm (T.endsL W ps)).mem_iff.mp (getD_mem (l := srt (T.endsL W ps)) (i := r.toNat - 1) (by omega))
    exact T.endsL_mem ps sh.2.2 _ m
theorem T.endsL_mem {W : Str → Int} : ∀ (ts : List T), T.ShL ts → ∀ x ∈ T.endsL W ts, ∃ n ∈ T.namesL ts, x = W n
  | [], _, x, h => by rw [T.endsL] at h; simp at h
  | t :: ts, sh, x, h => by
    rw [T.ShL] at sh
    rw [T.endsL] at h
    rw [T.namesL]
    rcases List.mem_append.mp h with q | q
    · obtain ⟨n, a, b⟩ := T.ends_mem t sh.1 x q
      exact ⟨n, List.mem_append_left _ a, b⟩
    · obtain ⟨n, a, b⟩ := T.endsL_mem ts sh.2 x q
      exact ⟨n, List.mem_append_right _ a, b⟩
end
/-- end j up to b: j low ends -/
theorem T.end_le {W : Str → Int} {S : List Str} {b : Int} {t : T} (sh : t.Sh) {j : Nat} (h1 : 1 ≤ j) (h2 : j ≤ t.width) (h : ∀ n ∈ t.names, n ∈ S ↔ W n ≤ b) : (t.ends W).getD (j - 1) 0 ≤ b ↔ j ≤ t.low S := by
  rw [cle_at (T.ends_asc t sh) (by rw [T.ends_len]; omega), T.ends_low t sh h]
  omega
def rowB (W : Str → Int) (known : List Str) (b : Int) : List Str := known.filter fun y => decide (W y ≤ b)
theorem rowB_mem {W : Str → Int} {known : List Str} {b : Int} {y : Str} : y ∈ rowB W known b ↔ y ∈ known ∧ W y ≤ b := by unfold rowB; rw [List.mem_filter]; simp
/-- end j hangs on n, the leaves F free, the others known -/
def Hang (t : T) (W : Str → Int) (n : Str) (known F : List Str) (j : Nat) : Prop := ∃ (b : Int) (S : List Str), (∀ x ∈ S, x ∈ F) ∧ t.low (S ++ rowB W known b) + 1 = j ∧ t.low (n :: (S ++ rowB W known b)) = j
/-- what the program looks at -/
def CanSw (t : T) (W : Str → Int) (n : Str) (known F : List Str) (j : Int) : Prop := t.SW n [] F (j - 1) ∨ ∃ z ∈ known, t.SW n (rowB W known (W z)) F (j - 1)
theorem below_all (W : Str → Int) : ∀ known : List Str, ∃ b : Int, ∀ z ∈ known, b < W z
  | [] => ⟨0, fun z h => by simp at h⟩
  | y :: l => by
    obtain ⟨b, h⟩ := below_all W l
    refine ⟨min b (W y - 1), fun z hz => ?_⟩
    rcases List.mem_cons.mp hz with e | e
    · subst e; omega
    · have := h z e; omega
theorem row_cases (W : Str → Int) (known : List Str) (b : Int) : rowB W known b = [] ∨ ∃ z ∈ known, W z ≤ b ∧ rowB W known b = rowB W known (W z) := by
  have key : ∀ l : List Str, (∀ y ∈ l, ¬ W y ≤ b) ∨ ∃ z ∈ l, W z ≤ b ∧ ∀ y ∈ l, W y ≤ b → W y ≤ W z := by
    intro l
    induction l with
    | nil => exact .inl fun y h => by simp at h
    | cons x l ih =>
      by_cases c : W x ≤ b
      · right
        rcases ih with h | ⟨z, h1, h2, h3⟩
        · refine ⟨x, List.mem_cons_self .., c, fun y hy q => ?_⟩
          rcases List.mem_cons.mp hy with e | e
          · subst e; exact Int.le_refl _
          · exact absurd q (h y e)
        · by_cases d : W z ≤ W x
          · refine ⟨x, List.mem_cons_self .., c, fun y hy q => ?_⟩
            rcases List.mem_cons.mp hy with e | e
            · subst e; exact Int.le_refl _
            · have := h3 y e q; omega
          · refine ⟨z, List.mem_cons_of_mem _ h1, h2, fun y hy q => ?_⟩
            rcases List.mem_cons.mp hy with e | e
            · subst e; omega
            · exact h3 y e q
      · rcases ih with h | ⟨z, h1, h2, h3⟩
        · left
          intro y hy
          rcases List.mem_cons.mp hy with e | e
          · subst e; exact c
          · exact h y e
        · right
          refine ⟨z, List.mem_cons_of_mem _ h1, h2, fun y hy q => ?_⟩
          rcases List.mem_cons.mp hy with e | e
          · subst e; exact absurd q c
          · exact h3 y e q
  rcases key known with h | ⟨z, h1, h2, h3⟩
  · left
    unfold rowB
    exact List.filter_eq_nil_iff.mpr fun y hy => by simpa using h y hy
  · right
    refine ⟨z, h1, h2, ?_⟩
    unfold rowB
    refine List.filter_congr fun y hy => decide_eq_decide.mpr ⟨h3 y hy, fun q => by omega⟩
theorem row_nil {W : Str → Int} {known : List Str} {b : Int} (h : ∀ z ∈ known, b < W z) : rowB W known b = [] := by
  unfold rowB
  exact List.filter_eq_nil_iff.mpr fun y hy => by have := h y hy; simp only [decide_eq_true_eq]; omega
theorem can_iff {t : T} {W : Str → Int} {n : Str} {known F : List Str} {j : Nat} (sh : t.Sh) (nd : t.names.Nodup) (hn : n ∈ t.names) (hk : n ∉ known) (hF : n ∉ F) (h1 : 1 ≤ j) : CanSw t W n known F j ↔ Hang t W n known F j := by
  have nr : ∀ b, n ∉ rowB W known b := fun b h => hk (rowB_mem.mp h).1
  have one : ∀ b, t.SW n (rowB W known b) F ((j : Int) - 1) ↔ ∃ S, (∀ x ∈ S, x ∈ F) ∧ t.low (S ++ rowB W known b) + 1 = j ∧ t.low (n :: (S ++ rowB W known b)) = j := fun b => by
    rw [T.sw_iff t sh nd hn (nr b) hF]
    exact exists_congr fun S => and_congr Iff.rfl ⟨fun ⟨a, c⟩ => ⟨by omega, by omega⟩, fun ⟨a, c⟩ => ⟨by omega, by omega⟩⟩
  obtain ⟨b0, hb0⟩ := below_all W known
  have e0 := row_nil hb0
  constructor
  · rintro (h | ⟨z, _, h⟩)
    · rw [← e0] at h
      exact ⟨b0, (one b0).mp h⟩
    · exact ⟨W z, (one _).mp h⟩
  · rintro ⟨b, h⟩
    have h := (one b).mpr h
    rcases row_cases W known b with e | ⟨z, hz, _, e⟩
    · rw [e] at h; exact .inl h
    · rw [e] at h; exact .inr ⟨z, hz, h⟩
def but (ns : List Str) (n : Str) : List Str := ns.filter fun y => !decide (y = n)
theorem but_mem {ns : List Str} {n y : Str} : y ∈ but ns n ↔ y ∈ ns ∧ y ≠ n := by unfold but; rw [List.mem_filter]; simp
end GG
/-! ends by pairs (kind, worth); both sides of an end -/
namespace GG
open PySem L2
mutual
def T.endsP (C : Str → Int × Int) : T → List (Int × Int)
  | .leaf n => [C n]
  | .grp rk ps => rk.map fun r => ((T.endsPL C ps).mergeSort iLe).getD (r.toNat - 1) (0, 0)
def T.endsPL (C : Str → Int × Int) : List T → List (Int × Int)
  | [] => []
  | t :: ts => t.endsP C ++ T.endsPL C ts
end
def dec (B c : Int) : Int × Int := if c ≤ -B then (0, 0) else if B ≤ c then (2, 0) else (1, c)
theorem dec_le {B : Int} (hB : 0 < B) {a b : Int} (a1 : -B ≤ a) (a2 : a ≤ B) (b1 : -B ≤ b) (b2 : b ≤ B) : decide (a ≤ b) = iLe (dec B a) (dec B b) := by
  unfold iLe dec
  refine decide_eq_decide.mpr ?_
  by_cases h1 : a ≤ -B <;> by_cases h2 : b ≤ -B <;> by_cases h3 : B ≤ a <;> by_cases h4 : B ≤ b <;> simp [h1, h2, h3, h4] <;> omega
theorem getD_mapP {l : List Int} {f : Int → Int × Int} {i : Nat} (h : i < l.length) : (l.map f).getD i (0, 0) = f (l.getD i 0) := by
  rw [List.getD_eq_getElem?_getD, List.getD_eq_getElem?_getD, List.getElem?_map, List.getElem?_eq_getElem h]
  rfl
mutual
theorem T.endsP_dec {B : Int} (hB : 0 < B) {C : Str → Int × Int} {W : Str → Int} : ∀ (t : T), t.Sh → (∀ n ∈ t.names, -B ≤ W n ∧ W n ≤ B ∧ C n = dec B (W n)) → t.endsP C = (t.ends W).map (dec B)
  | .leaf n, _, h => by
    rw [T.endsP, T.ends, (h n (List.mem_cons_self ..)).2.2]
    rfl
  | .grp rk ps, sh, h => by
    rw [T.Sh] at sh
    have ih := T.endsPL_dec hB (C := C) (W := W) ps sh.2.2 fun n hn => h n (by rw [T.names]; exact hn)
    have bd : ∀ x ∈ T.endsL W ps, -B ≤ x ∧ x ≤ B := fun x hx => by
      obtain ⟨n, hn, rfl⟩ := T.endsL_mem ps sh.2.2 x hx
      have := h n (by rw [T.names]; exact hn)
      exact ⟨this.1, this.2.1⟩
    have sl : (srt (T.endsL W ps)).length = T.taken ps := by rw [(srt_perm _).length_eq, T.endsL_len]
    rw [T.endsP, T.ends, List.map_map]
    refine List.map_congr_left fun r hr => ?_
    have r1 := sh.2.1.lo r hr
    have r2 := sh.2.1.hi r hr
    show _ = dec B ((srt (T.endsL W ps)).getD (r.toNat - 1) 0)
    rw [← getD_mapP (f := dec B) (l := srt (T.endsL W ps)) (by omega), ih]
    congr 1
    exact (PySem.W.sort_maps (dec B) fun a ha b hb => dec_le hB (bd a ha).1 (bd a ha).2 (bd b hb).1 (bd b hb).2).symm
theorem T.endsPL_dec {B : Int} (hB : 0 < B) {C : Str → Int × Int} {W : Str → Int} : ∀ (ts : List T), T.ShL ts → (∀ n ∈ T.namesL ts, -B ≤ W n ∧ W n ≤ B ∧ C n = dec B (W n)) → T.endsPL C ts = (T.endsL W ts).map (dec B)
  | [], _, _ => rfl
  | t :: ts, sh, h => by
    rw [T.ShL] at sh
    rw [T.endsPL, T.endsL, List.map_append, T.endsP_dec hB t sh.1 fun n hn => h n (by rw [T.namesL]; exact List.mem_append_left _ hn), T.endsPL_dec hB ts sh.2 fun n hn => h n (by rw [T.namesL]; exact List.mem_append_right _ hn)]
end
theorem T.endsP_len (C : Str → Int × Int) : ∀ t : T, (t.endsP C).length = t.width
  | .leaf _ => rfl
  | .grp rk ps => by rw [T.endsP, T.width, List.length_map]
theorem T.endsPL_len (C : Str → Int × Int) : ∀ ts : List T, (T.endsPL C ts).length = T.taken ts
  | [] => rfl
  | t :: ts => by rw [T.endsPL, T.taken, List.length_append, T.endsP_len, T.endsPL_len C ts]
theorem T.endsPL_take {C : Str → Int × Int} {ts : List T} {i : Nat} {t : T} (h : ts[i]? = some t) : T.endsPL C (ts.take (i + 1)) = T.endsPL C (ts.take i) ++ t.endsP C := by
  have ap : ∀ as bs : List T, T.endsPL C (as ++ bs) = T.endsPL C as ++ T.endsPL C bs := by
    intro as
    induction as with
    | nil => intro bs; rfl
    | cons a as ih => intro bs; rw [List.cons_append, T.endsPL, T.endsPL, ih, List.append_assoc]
  rw [List.take_add_one, h, ap]
  show _ ++ (t.endsP C ++ []) = _
  rw [List.append_nil]
/-! ### both sides of an end -/
/-- a side: none beyond B -/
def sideV (B e : Int) : Option Int := if e ≤ -B ∨ B ≤ e then none else some e
theorem sideV_some {B e x : Int} : sideV B e = some x ↔ x = e ∧ -B < e ∧ e < B := by
  unfold sideV
  split
  · constructor
    · intro h; cases h
    · rintro ⟨_, h1, h2⟩; omega
  · constructor
    · intro h; have := Option.some.inj h; omega
    · rintro ⟨rfl, _⟩; rfl
section
variable {t : T} {W L U : Str → Int} {known lack : List Str} {B : Int} {j : Nat}
/-- known leaves have their worths, the lacking ones are far below, or far above -/
structure Sides (t : T) (W L U : Str → Int) (known lack : List Str) (B : Int) : Prop where
  sh : t.Sh
  nd : t.names.Nodup
  B0 : 0 < B
  part : ∀ n ∈ t.names, n ∈ known ↔ n ∉ lack
  kn : ∀ n ∈ known, n ∈ t.names ∧ L n = W n ∧ U n = W n ∧ -B < W n ∧ W n < B
  lk : ∀ n ∈ lack, n ∈ t.names ∧ L n = -B ∧ U n = B
theorem Sides.low (h : Sides t W L U known lack B) (j1 : 1 ≤ j) (j2 : j ≤ t.width) {b : Int} (hb : -B ≤ b) : (t.ends L).getD (j - 1) 0 ≤ b ↔ j ≤ t.low (lack ++ rowB W known b) := T.end_le h.sh j1 j2 fun n hn => by
  rw [List.mem_append, rowB_mem]
  by_cases c : n ∈ lack
  · rw [(h.lk n c).2.1]
    exact ⟨fun _ => hb, fun _ => .inl c⟩
  · have k := (h.part n hn).mpr c
    rw [(h.kn n k).2.1]
    exact ⟨fun q => q.elim (fun q => absurd q c) fun q => q.2, fun q => .inr ⟨k, q⟩⟩
theorem Sides.high (h : Sides t W L U known lack B) (j1 : 1 ≤ j) (j2 : j ≤ t.width) {b : Int} (hb : b < B) : (t.ends U).getD (j - 1) 0 ≤ b ↔ j ≤ t.low (rowB W known b) := T.end_le h.sh j1 j2 fun n hn => by
  rw [rowB_mem]
  by_cases c : n ∈ lack
  · rw [(h.lk n c).2.2]
    exact ⟨fun q => absurd c ((h.part n hn).mp q.1), fun q => by omega⟩
  · have k := (h.part n hn).mpr c
    rw [(h.kn n k).2.2.1]
    exact ⟨fun q => q.2, fun q => ⟨k, q⟩⟩
theorem Sides.within (h : Sides t W L U known lack B) (j1 : 1 ≤ j) (j2 : j ≤ t.width) : -B ≤ (t.ends L).getD (j - 1) 0 ∧ (t.ends L).getD (j - 1) 0 < B ∧ -B < (t.ends U).getD (j - 1) 0 ∧ (t.ends U).getD (j - 1) 0 ≤ B := by
  have mem : ∀ V : Str → Int, ∃ m ∈ t.names, (t.ends V).getD (j - 1) 0 = V m := fun V => T.ends_mem t h.sh _ (getD_mem (by rw [T.ends_len]; omega))
  obtain ⟨m, hm, em⟩ := mem L
  obtain ⟨m', hm', em'⟩ := mem U
  have B0 := h.B0
  have a : -B ≤ L m ∧ L m < B := by
    by_cases c : m ∈ lack
    · rw [(h.lk m c).2.1]; omega
    · have := h.kn m ((h.part m hm).mpr c); omega
  have b : -B < U m' ∧ U m' ≤ B := by
    by_cases c : m' ∈ lack
    · rw [(h.lk m' c).2.2]; omega
    · have := h.kn m' ((h.part m' hm').mpr c); omega
  omega
theorem Sides.le (h : Sides t W L U known lack B) (j1 : 1 ≤ j) (j2 : j ≤ t.width) : (t.ends L).getD (j - 1) 0 ≤ (t.ends U).getD (j - 1) 0 := by
  have wi := h.within j1 j2
  by_cases c : (t.ends U).getD (j - 1) 0 < B
  · have a := (h.high j1 j2 c).mp (Int.le_refl _)
    exact (h.low j1 j2 (by omega)).mpr (Nat.le_trans a (T.low_mono t h.sh (fun x hx => List.mem_append_right _ hx) h.nd))
  · omega
/-- from not enough to enough, there is a leaf that brings it -/
theorem crossing {R : List Str} (sh : t.Sh) (nd : t.names.Nodup) : ∀ (A : List Str), t.low R < j → j ≤ t.low (A ++ R) → ∃ n S, n ∈ A ∧ (∀ x ∈ S, x ∈ A) ∧ n ∉ S ∧ t.low (S ++ R) + 1 = j ∧ t.low (n :: (S ++ R)) = j
  | [], h1, h2 => by rw [List.nil_append] at h2; omega
  | x :: A, h1, h2 => by
    by_cases c : j ≤ t.low (A ++ R)
    · obtain ⟨n, S, a, b, d, e⟩ := crossing sh nd A h1 c
      exact ⟨n, S, List.mem_cons_of_mem _ a, fun y hy => List.mem_cons_of_mem _ (b y hy), d, e⟩
    · rw [List.cons_append] at h2
      have st := (T.low_step (S := A ++ R) (x := x) t sh nd).2
      have : (if x ∈ t.names then 1 else 0) ≤ 1 := by split <;> omega
      have nx : x ∉ A := fun q => by
        have := T.low_congr (S := x :: (A ++ R)) (S' := A ++ R) t fun y _ => by
          rw [List.mem_cons]
          exact ⟨fun z => z.elim (fun z => z ▸ List.mem_append_left _ q) id, .inr⟩
        omega
      exact ⟨x, A, List.mem_cons_self .., fun y hy => List.mem_cons_of_mem _ hy, nx, by omega, by omega⟩
/-- the two sides are one number just where no lacking leaf matters -/
theorem Sides.same (h : Sides t W L U known lack B) (j1 : 1 ≤ j) (j2 : j ≤ t.width) : (∀ n ∈ lack, ¬ Hang t W n known (lack.filter fun y => !decide (y = n)) j) ↔ sideV B ((t.ends L).getD (j - 1) 0) = sideV B ((t.ends U).getD (j - 1) 0) ∧ sideV B ((t.ends L).getD (j - 1) 0) ≠ none := by
  have wi := h.within j1 j2
  have le := h.le j1 j2
  have lo := fun b hb => h.low (b := b) j1 j2 hb
  have hi := fun b hb => h.high (b := b) j1 j2 hb
  have B0 := h.B0
  generalize eL : (t.ends L).getD (j - 1) 0 = l at wi le lo ⊢
  generalize eU : (t.ends U).getD (j - 1) 0 = u at wi le hi ⊢
  constructor
  · intro no
    have eq : l = u := by
      rcases Int.lt_or_le l u with q | q
      · exfalso
        have a := (lo l wi.1).mp (Int.le_refl _)
        have b : t.low (rowB W known l) < j := by
          rcases Nat.lt_or_ge (t.low (rowB W known l)) j with z | z
          · exact z
          · have := (hi l (by omega)).mpr z; omega
        obtain ⟨n, S, nl, sl, ns, e1, e2⟩ := crossing h.sh h.nd lack b a
        exact no n nl ⟨l, S, fun x hx => List.mem_filter.mpr ⟨sl x hx, by simp; rintro rfl; exact ns hx⟩, e1, e2⟩
      · omega
    subst eq
    have n1 : -B < l := by omega
    have n2 : l < B := by omega
    have e : sideV B l = some l := sideV_some.mpr ⟨rfl, n1, n2⟩
    rw [e]
    exact ⟨rfl, by simp⟩
  · rintro ⟨e1, e2⟩ n nl ⟨b, S, hS, g1, g2⟩
    obtain ⟨x, hx⟩ := Option.ne_none_iff_exists'.mp e2
    have q1 := sideV_some.mp hx
    rw [hx] at e1
    have q2 := sideV_some.mp e1.symm
    have lu : l = u := by omega
    rcases Int.lt_or_le b u with c | c
    · -- all lacking ones low are not enough
      have mono : t.low (n :: (S ++ rowB W known b)) ≤ t.low (lack ++ rowB W known (max b (-B))) := T.low_mono t h.sh (fun y hy => by
        rcases List.mem_cons.mp hy with z | z
        · subst z; exact List.mem_append_left _ nl
        · rcases List.mem_append.mp z with z | z
          · exact List.mem_append_left _ (List.mem_filter.mp (hS y z)).1
          · have := rowB_mem.mp z
            exact List.mem_append_right _ (rowB_mem.mpr ⟨this.1, by omega⟩)) h.nd
      have := (lo (max b (-B)) (by omega)).mpr (by omega)
      omega
    · have a := (hi u (by omega)).mp (Int.le_refl _)
      have mono : t.low (rowB W known u) ≤ t.low (S ++ rowB W known b) := T.low_mono t h.sh (fun y hy => by
        have := rowB_mem.mp hy
        exact List.mem_append_right _ (rowB_mem.mpr ⟨this.1, by omega⟩)) h.nd
      omega
end
end GG
/-! lists of texts as data -/
namespace GG
open PySem PySem.Spec L2
theorem depth_strs : ∀ ns : List Str, PyData.depth (.list (ns.map .str)) ≤ 2 := by
  intro ns
  have h : ∀ ns : List Str, PyData.depthAll (ns.map .str) ≤ 1 := by
    intro ns
    induction ns with
    | nil => simp [PyData.depthAll]
    | cons a l ih => simp only [List.map_cons, PyData.depthAll, PyData.depth]; omega
  have := h ns
  simp only [PyData.depth]; omega
theorem ok_nm {z : Str} (h : IsNm z) : PyData.strOk z = true := by
  unfold PyData.strOk
  rw [Array.all_eq_true']
  intro c hc
  have a : ∀ c ∈ alph, c < 0x110000 := by decide +kernel
  exact decide_eq_true (a c (h.2.2 c (Array.mem_toList_iff.mpr hc)))
theorem can_strs {ns : List Str} (hn : ∀ z ∈ ns, IsNm z) : PyData.canLay0 (.list (ns.map .str)) = true := by
  have h : ∀ ns : List Str, (∀ z ∈ ns, IsNm z) → PyData.canLayAll0 (ns.map .str) = true := by
    intro ns
    induction ns with
    | nil => intro _; simp [PyData.canLayAll0]
    | cons a l ih => intro hn; simp only [List.map_cons, PyData.canLayAll0, PyData.canLay0, ih fun z hz => hn z (List.mem_cons_of_mem _ hz), ok_nm (hn a (List.mem_cons_self ..))]; rfl
  simp only [PyData.canLay0]
  exact h ns hn
theorem shaped_strs {ns : List Str} (hn : ∀ z ∈ ns, IsNm z) : SeqAt.shaped (.list (ns.map .str)) = true := by
  have := depth_strs ns
  exact Bool.and_eq_true_iff.mpr ⟨can_strs hn, decide_eq_true (by omega)⟩
theorem dpa_strs {K : PySem.W.Frag} {H : Hp} : ∀ ns : List Str, DpAll K H (ns.map V.str) (ns.map .str)
  | [] => .nil
  | a :: l => .cons (.str a) (dpa_strs l)
theorem dp_strs {K : PySem.W.Frag} {H : Hp} {a : Addr} {ns : List Str} (h : H a = some (.lst (ns.map V.str))) : Dp K H (.ref a) (.list (ns.map .str)) := .lst (SqL.of h) (dpa_strs ns)
theorem eqv_strs {ns : List Str} (hn : ∀ z ∈ ns, IsNm z) : PyData.eqv (.list (ns.map .str)) (.list (ns.map .str)) = true := SeqAt.eqv_refl _ (can_strs hn)
end GG
/-! an end hangs on a leaf: by all sets of the other free leaves, row by row -/
namespace GG
open PySem L2
end GG
/-! turns: the free leaf itself may stand among the free ones -/
namespace GG
open PySem L2
mutual
theorem T.SW_F {n : Str} {L F F' : List Str} (h : ∀ x, x ≠ n → (x ∈ F ↔ x ∈ F')) : ∀ (t : T) (k : Int), t.SW n L F k ↔ t.SW n L F' k
  | .leaf z, k => by rw [T.SW, T.SW]
  | .grp rk ps, k => by
    have e : T.lowL (L ++ F) (T.others n ps) = T.lowL (L ++ F') (T.others n ps) := T.lowL_congr _ fun x hx => by
      have : x ≠ n := by rintro rfl; exact T.not_others hx
      rw [List.mem_append, List.mem_append, h x this]
    rw [T.SW, T.SW, e]
    refine exists_congr fun a => exists_congr fun b => and_congr (T.SWL_F h ps a) Iff.rfl
theorem T.SWL_F {n : Str} {L F F' : List Str} (h : ∀ x, x ≠ n → (x ∈ F ↔ x ∈ F')) : ∀ (ts : List T) (k : Int), T.SWL n L F ts k ↔ T.SWL n L F' ts k
  | [], k => by rw [T.SWL, T.SWL]
  | t :: ts, k => by
    rw [T.SWL, T.SWL]
    exact or_congr (and_congr Iff.rfl (T.SW_F h t k)) (T.SWL_F h ts k)
end
/-- in an ascending list so many stand below the one at i -/
theorem below_at : ∀ {l : List Int} {i : Nat} {r : Int}, l.Pairwise (· < ·) → l[i]? = some r → (l.filter fun x => decide (x ≤ r - 1)).length = i
  | [], i, r, _, h => by simp at h
  | x :: l, 0, r, p, h => by
    obtain rfl : x = r := by simpa using h
    have p1 := (List.pairwise_cons.mp p).1
    rw [List.filter_cons, if_neg (by simp only [decide_eq_true_eq]; omega), List.filter_eq_nil_iff.mpr fun y hy => by have := p1 y hy; simp only [decide_eq_true_eq]; omega]
    rfl
  | x :: l, i + 1, r, p, h => by
    obtain ⟨p1, p2⟩ := List.pairwise_cons.mp p
    have h' : l[i]? = some r := by simpa using h
    have := p1 r (List.mem_of_getElem? h')
    rw [List.filter_cons, if_pos (by simp only [decide_eq_true_eq]; omega), List.length_cons, below_at p2 h']
/-- the turned ends of a group, place by place -/
theorem turns_iff {n : Str} {L F : List Str} {rk : List Int} {ps : List T} (asc : rk.Pairwise (· < ·)) {i : Nat} {r : Int} (h : rk[i]? = some r) :
    (T.grp rk ps).SW n L F (i : Int) ↔ ∃ k, T.SWL n L F ps (k - 1) ∧ (T.lowL L (T.others n ps) : Int) ≤ r - k ∧ r - k ≤ (T.lowL (L ++ F) (T.others n ps) : Int) := by
  rw [T.SW]
  constructor
  · rintro ⟨num, more, h1, h2, h3, h4, h5⟩
    obtain ⟨i2, h6⟩ := List.getElem?_of_mem h4
    have b := below_at asc h6
    rw [flt_eq (show num + more + 1 - 1 = num + more by omega)] at b
    have : i = i2 := by omega
    subst this
    have : r = num + more + 1 := by rw [h] at h6; exact Option.some.inj h6
    subst this
    exact ⟨num + 1, by rw [show num + 1 - 1 = num by omega]; exact h1, by omega, by omega⟩
  · rintro ⟨k, h1, h2, h3⟩
    refine ⟨k - 1, r - k, h1, h2, h3, ?_, ?_⟩
    · rw [show k - 1 + (r - k) + 1 = r by omega]
      exact List.mem_of_getElem? h
    · rw [flt_eq (show k - 1 + (r - k) = r - 1 by omega), below_at asc h]
/-- only the places of ranks turn -/
theorem turns_at {n : Str} {L F : List Str} {rk : List Int} {ps : List T} {k : Int} (asc : rk.Pairwise (· < ·)) (h : (T.grp rk ps).SW n L F k) : ∃ (i : Nat) (r : Int), k = i ∧ rk[i]? = some r := by
  rw [T.SW] at h
  obtain ⟨num, more, _, _, _, h4, h5⟩ := h
  obtain ⟨i, h6⟩ := List.getElem?_of_mem h4
  have b := below_at asc h6
  rw [flt_eq (show num + more + 1 - 1 = num + more by omega)] at b
  exact ⟨i, _, by omega, h6⟩
end GG
/-! worths come in one by one: the sides of an end -/
namespace GG
open PySem L2
def kW (W : Str → Int) (kn : List Str) (far : Int) (z : Str) : Int := if z ∈ kn then W z else far
def lck (t : T) (kn : List Str) : List Str := t.names.filter fun z => !decide (z ∈ kn)
theorem lck_mem {t : T} {kn : List Str} {z : Str} : z ∈ lck t kn ↔ z ∈ t.names ∧ z ∉ kn := by
  unfold lck; rw [List.mem_filter]; simp
theorem T.ends_mono {L U : Str → Int} {t : T} {j : Nat} (sh : t.Sh) (nd : t.names.Nodup) (j1 : 1 ≤ j) (j2 : j ≤ t.width) (h : ∀ n ∈ t.names, L n ≤ U n) : (t.ends L).getD (j - 1) 0 ≤ (t.ends U).getD (j - 1) 0 := by
  generalize hb : (t.ends U).getD (j - 1) 0 = b
  have mem : ∀ V : Str → Int, ∀ n ∈ t.names, n ∈ t.names.filter (fun z => decide (V z ≤ b)) ↔ V n ≤ b := fun V n hn => by rw [List.mem_filter]; simp [hn]
  have u := (T.end_le (W := U) (b := b) sh j1 j2 (mem U)).mp (by rw [hb]; exact Int.le_refl _)
  refine (T.end_le (W := L) (b := b) sh j1 j2 (mem L)).mpr (Nat.le_trans u (T.low_mono t sh (fun x hx => ?_) nd))
  obtain ⟨a, c⟩ := List.mem_filter.mp hx
  exact List.mem_filter.mpr ⟨a, decide_eq_true (Int.le_trans (h x a) (of_decide_eq_true c))⟩
section
variable {t : T} {W : Str → Int} {B : Int} {kn : List Str} {n : Str} {j : Nat}
structure Ins (t : T) (W : Str → Int) (B : Int) (kn : List Str) (j : Nat) : Prop where
  sh : t.Sh
  nd : t.names.Nodup
  B0 : 0 < B
  bd : ∀ z ∈ t.names, -B < W z ∧ W z < B
  kn : ∀ z ∈ kn, z ∈ t.names
  j1 : 1 ≤ j
  j2 : j ≤ t.width
theorem Ins.sides (h : Ins t W B kn j) : Sides t W (kW W kn (-B)) (kW W kn B) kn (lck t kn) B :=
  ⟨h.sh, h.nd, h.B0, fun n hn => by rw [lck_mem]; constructor
                                    · exact fun a b => b.2 a
                                    · exact fun a => Classical.byContradiction fun b => a ⟨hn, b⟩,
    fun n hn => ⟨h.kn n hn, by unfold kW; rw [if_pos hn], by unfold kW; rw [if_pos hn], h.bd n (h.kn n hn)⟩,
    fun n hn => by
      obtain ⟨a, b⟩ := lck_mem.mp hn
      exact ⟨a, by unfold kW; rw [if_neg b], by unfold kW; rw [if_neg b]⟩⟩
theorem Ins.more (h : Ins t W B kn j) (hn : n ∈ t.names) : Ins t W B (kn ++ [n]) j :=
  ⟨h.sh, h.nd, h.B0, h.bd, fun z hz => (List.mem_append.mp hz).elim (h.kn z) fun q => by rw [List.mem_singleton.mp q]; exact hn, h.j1, h.j2⟩
def eLo (t : T) (W : Str → Int) (B : Int) (kn : List Str) (j : Nat) : Int := (t.ends (kW W kn (-B))).getD (j - 1) 0
def eHi (t : T) (W : Str → Int) (B : Int) (kn : List Str) (j : Nat) : Int := (t.ends (kW W kn B)).getD (j - 1) 0
theorem Ins.in_ (h : Ins t W B kn j) : -B ≤ eLo t W B kn j ∧ eLo t W B kn j < B ∧ -B < eHi t W B kn j ∧ eHi t W B kn j ≤ B := h.sides.within h.j1 h.j2
theorem Ins.end_bd (h : Ins t W B kn j) : -B < (t.ends W).getD (j - 1) 0 ∧ (t.ends W).getD (j - 1) 0 < B := by
  obtain ⟨m, hm, e⟩ := T.ends_mem t h.sh _ (getD_mem (l := t.ends W) (i := j - 1) (by rw [T.ends_len]; have := h.j1; have := h.j2; omega))
  rw [e]
  exact h.bd m hm
theorem Ins.lo_end (h : Ins t W B kn j) : eLo t W B kn j ≤ (t.ends W).getD (j - 1) 0 := T.ends_mono h.sh h.nd h.j1 h.j2 fun z hz => by
  unfold kW
  have := h.bd z hz
  split <;> omega
theorem Ins.end_hi (h : Ins t W B kn j) : (t.ends W).getD (j - 1) 0 ≤ eHi t W B kn j := T.ends_mono h.sh h.nd h.j1 h.j2 fun z hz => by
  unfold kW
  have := h.bd z hz
  split <;> omega
theorem Ins.lo_up (h : Ins t W B kn j) : eLo t W B kn j ≤ eLo t W B (kn ++ [n]) j := T.ends_mono h.sh h.nd h.j1 h.j2 fun z hz => by
  unfold kW
  have := h.bd z hz
  by_cases c : z ∈ kn
  · rw [if_pos c, if_pos (List.mem_append_left _ c)]; exact Int.le_refl _
  · rw [if_neg c]; split <;> omega
theorem Ins.hi_down (h : Ins t W B kn j) : eHi t W B (kn ++ [n]) j ≤ eHi t W B kn j := T.ends_mono h.sh h.nd h.j1 h.j2 fun z hz => by
  unfold kW
  have := h.bd z hz
  by_cases c : z ∈ kn
  · rw [if_pos c, if_pos (List.mem_append_left _ c)]; exact Int.le_refl _
  · rw [if_neg c]; split <;> omega
/-- the full lot's end lies within -/
theorem Ins.within (h : Ins t W B kn j) : (∀ x, sideV B (eLo t W B kn j) = some x → x ≤ (t.ends W).getD (j - 1) 0) ∧ ∀ y, sideV B (eHi t W B kn j) = some y → (t.ends W).getD (j - 1) 0 ≤ y := by
  refine ⟨fun x hx => ?_, fun y hy => ?_⟩
  · rw [(sideV_some.mp hx).1]; exact h.lo_end
  · rw [(sideV_some.mp hy).1]; exact h.end_hi
/-- the sides only come nearer -/
theorem Ins.nearer (h : Ins t W B kn j) (hn : n ∈ t.names) : (∀ x, sideV B (eLo t W B kn j) = some x → ∃ y, sideV B (eLo t W B (kn ++ [n]) j) = some y ∧ x ≤ y) ∧ ∀ x, sideV B (eHi t W B kn j) = some x → ∃ y, sideV B (eHi t W B (kn ++ [n]) j) = some y ∧ y ≤ x := by
  have h' := h.more hn
  refine ⟨fun x hx => ?_, fun x hx => ?_⟩
  · obtain ⟨rfl, a, _⟩ := sideV_some.mp hx
    have := h.lo_up (n := n)
    have := h'.lo_end
    have := h.end_bd
    exact ⟨_, sideV_some.mpr ⟨rfl, by omega, by omega⟩, by assumption⟩
  · obtain ⟨rfl, _, a⟩ := sideV_some.mp hx
    have := h.hi_down (n := n)
    have := h'.end_hi
    have := h.end_bd
    exact ⟨_, sideV_some.mpr ⟨rfl, by omega, by omega⟩, by assumption⟩
theorem row_more {b : Int} {z : Str} : z ∈ rowB W (kn ++ [n]) b ↔ z ∈ rowB W kn b ∨ (z = n ∧ W n ≤ b) := by
  rw [rowB_mem, rowB_mem, List.mem_append, List.mem_singleton]
  constructor
  · rintro ⟨q | q, c⟩
    · exact .inl ⟨q, c⟩
    · subst q; exact .inr ⟨rfl, c⟩
  · rintro (⟨q, c⟩ | ⟨rfl, c⟩)
    · exact ⟨.inl q, c⟩
    · exact ⟨.inr rfl, c⟩
/-- a leaf on which the end does not hang moves nothing -/
theorem Ins.still (h : Ins t W B kn j) (hn : n ∈ t.names) (hk : n ∉ kn) (no : ¬ Hang t W n kn (but (lck t kn) n) j) : eLo t W B kn j = eLo t W B (kn ++ [n]) j ∧ eHi t W B kn j = eHi t W B (kn ++ [n]) j := by
  have h' := h.more hn
  have i1 := h.in_
  have i2 := h'.in_
  have cross : ∀ (b : Int) (S : List Str), (∀ x ∈ S, x ∈ but (lck t kn) n) → (j ≤ t.low (n :: (S ++ rowB W kn b)) ↔ j ≤ t.low (S ++ rowB W kn b)) := fun b S hS => by
    have st := T.low_step (S := S ++ rowB W kn b) (x := n) t h.sh h.nd
    rw [if_pos hn] at st
    constructor
    · intro q
      refine Classical.byContradiction fun c => no ⟨b, S, hS, ?_, ?_⟩ <;> omega
    · intro q; omega
  constructor
  · have key : ∀ b, -B ≤ b → (eLo t W B kn j ≤ b ↔ eLo t W B (kn ++ [n]) j ≤ b) := fun b hb => by
      have e1 := h.sides.low h.j1 h.j2 hb
      have e2 := h'.sides.low h.j1 h.j2 hb
      have cr := cross b (but (lck t kn) n) (fun x hx => hx)
      have l1 : t.low (lck t kn ++ rowB W kn b) = t.low (n :: (but (lck t kn) n ++ rowB W kn b)) := T.low_congr t fun x hx => by
        rw [List.mem_append, List.mem_cons, List.mem_append, but_mem, lck_mem]
        by_cases c : x = n
        · subst c; simp [hx, hk]
        · simp [c]
      have l2 : t.low (lck t (kn ++ [n]) ++ rowB W (kn ++ [n]) b) = if W n ≤ b then t.low (n :: (but (lck t kn) n ++ rowB W kn b)) else t.low (but (lck t kn) n ++ rowB W kn b) := by
        split
        · rename_i c
          refine T.low_congr t fun x hx => ?_
          rw [List.mem_append, List.mem_cons, List.mem_append, but_mem, lck_mem, lck_mem, row_more, List.mem_append, List.mem_singleton]
          by_cases d : x = n
          · subst d; simp [c]
          · simp [d]
        · rename_i c
          refine T.low_congr t fun x hx => ?_
          rw [List.mem_append, List.mem_append, but_mem, lck_mem, lck_mem, row_more, List.mem_append, List.mem_singleton]
          by_cases d : x = n
          · subst d; simp [c]
          · simp [d]
      rw [l1] at e1
      rw [l2] at e2
      refine e1.trans (Iff.trans ?_ e2.symm)
      split
      · exact Iff.rfl
      · exact cr
    have a := (key _ i2.1).mpr (Int.le_refl _)
    have b := (key _ i1.1).mp (Int.le_refl _)
    omega
  · have key : ∀ b, b < B → (eHi t W B kn j ≤ b ↔ eHi t W B (kn ++ [n]) j ≤ b) := fun b hb => by
      have e1 := h.sides.high h.j1 h.j2 hb
      have e2 := h'.sides.high h.j1 h.j2 hb
      have cr := cross b [] (fun x hx => by simp at hx)
      rw [List.nil_append] at cr
      have l2 : t.low (rowB W (kn ++ [n]) b) = if W n ≤ b then t.low (n :: rowB W kn b) else t.low (rowB W kn b) := by
        split
        · rename_i c
          refine T.low_congr t fun x hx => ?_
          rw [List.mem_cons, row_more]
          by_cases d : x = n
          · subst d; simp [c]
          · simp [d]
        · rename_i c
          refine T.low_congr t fun x hx => ?_
          rw [row_more]
          by_cases d : x = n
          · subst d; simp [c]
          · simp [d]
      rw [l2] at e2
      refine e1.trans (Iff.trans ?_ e2.symm)
      split
      · exact cr.symm
      · exact Iff.rfl
    have hd := h.hi_down (n := n)
    by_cases c : eHi t W B (kn ++ [n]) j < B
    · have := (key _ c).mpr (Int.le_refl _)
      omega
    · omega
/-- a leaf that matters mattered -/
theorem hang_less {z : Str} (hn : n ∈ t.names) (hk : n ∉ kn) (hz : z ≠ n) (h : Hang t W z (kn ++ [n]) (but (lck t (kn ++ [n])) z) j) : Hang t W z kn (but (lck t kn) z) j := by
  obtain ⟨b, S, hS, e1, e2⟩ := h
  have sub : ∀ x ∈ S, x ∈ but (lck t kn) z := fun x hx => by
    obtain ⟨a, c⟩ := but_mem.mp (hS x hx)
    obtain ⟨a1, a2⟩ := lck_mem.mp a
    exact but_mem.mpr ⟨lck_mem.mpr ⟨a1, fun q => a2 (List.mem_append_left _ q)⟩, c⟩
  by_cases c : W n ≤ b
  · refine ⟨b, n :: S, fun x hx => ?_, ?_, ?_⟩
    · rcases List.mem_cons.mp hx with q | q
      · subst q; exact but_mem.mpr ⟨lck_mem.mpr ⟨hn, hk⟩, fun q => hz q.symm⟩
      · exact sub x q
    · rw [← e1]
      congr 1
      refine T.low_congr t fun x hx => ?_
      rw [List.mem_append, List.mem_append, List.mem_cons, row_more]
      by_cases d : x = n
      · subst d; simp [c]
      · simp [d]
    · rw [← e2]
      refine T.low_congr t fun x hx => ?_
      rw [List.mem_cons, List.mem_append, List.mem_cons, List.mem_cons, List.mem_append, row_more]
      by_cases d : x = n
      · subst d; simp [c]
      · simp [d]
  · refine ⟨b, S, sub, ?_, ?_⟩
    · rw [← e1]
      congr 1
      refine T.low_congr t fun x hx => ?_
      rw [List.mem_append, List.mem_append, row_more]
      simp [c]
    · rw [← e2]
      refine T.low_congr t fun x hx => ?_
      rw [List.mem_cons, List.mem_append, List.mem_cons, List.mem_append, row_more]
      simp [c]
theorem Ins.none_ (h : Ins t W B [] j) : sideV B (eLo t W B [] j) = none ∧ sideV B (eHi t W B [] j) = none := by
  have mem : ∀ far, (t.ends (kW W [] far)).getD (j - 1) 0 = far := fun far => by
    obtain ⟨m, hm, e⟩ := T.ends_mem t h.sh _ (getD_mem (l := t.ends (kW W [] far)) (i := j - 1) (by rw [T.ends_len]; have := h.j1; have := h.j2; omega))
    rw [e]; unfold kW; rw [if_neg (by simp)]
  unfold eLo eHi sideV
  rw [mem, mem]
  exact ⟨if_pos (.inl (Int.le_refl _)), if_pos (.inr (Int.le_refl _))⟩
theorem Ins.all_ (h : Ins t W B kn j) (ha : ∀ z ∈ t.names, z ∈ kn) : sideV B (eLo t W B kn j) = some ((t.ends W).getD (j - 1) 0) ∧ sideV B (eHi t W B kn j) = some ((t.ends W).getD (j - 1) 0) := by
  have bd := h.end_bd
  have lo : eLo t W B kn j = (t.ends W).getD (j - 1) 0 := Int.le_antisymm h.lo_end (T.ends_mono h.sh h.nd h.j1 h.j2 fun z hz => by unfold kW; rw [if_pos (ha z hz)]; exact Int.le_refl _)
  have hi : eHi t W B kn j = (t.ends W).getD (j - 1) 0 := Int.le_antisymm (T.ends_mono h.sh h.nd h.j1 h.j2 fun z hz => by unfold kW; rw [if_pos (ha z hz)]; exact Int.le_refl _) h.end_hi
  rw [lo, hi]
  exact ⟨sideV_some.mpr ⟨rfl, bd.1, bd.2⟩, sideV_some.mpr ⟨rfl, bd.1, bd.2⟩⟩
end
end GG
/-! a head's look at the heap that sees getters, too -/
namespace GG
open PySem PySem.Spec L2
/-- a def by a path to it -/
structure GD where
  adr : PySem.W.Frag → Addr
  nm : Str
  qn : Str
  pr : Arguments
  bd : List Stmt
  sc : Scope
  dv : List V
def fnA (K : PySem.W.Frag) (a : Addr) : He.FnW :=
  (K.lookup a).bind fun o => match o.data with
    | .func fd => some (fd.name, fd.qualname, fd.params, fd.body, fd.scope, fd.globals, fd.closure, fd.builtins)
    | _ => none
def GD.val (d : GD) : He.FnW := some (d.nm, d.qn, d.pr, .stmts d.bd, d.sc, mainGlobals, [], builtinsNs)
def fdB (K : PySem.W.Frag) (a : Addr) (qn : Str) (dv : List V) : Bool := match (K.lookup a).map Obj.data with
  | some (.func fd) => PySem.W.codeIn K fd.code qn && He.dflB K fd.defaults dv && He.kwdB K fd.kwdefaults []
  | _ => false
def GD.ok (K : PySem.W.Frag) (d : GD) : Bool := fdB K (d.adr K) d.qn d.dv && PySem.W.keepIn K (.ref (d.adr K))
theorem GD.funD {K : PySem.W.Frag} {d : GD} (e : fnA K (d.adr K) = d.val) (c : d.ok K = true) : ∃ fd, FunD K d.nm d.qn d.pr d.bd d.sc d.dv [] (d.adr K) fd := by
  unfold GD.ok at c
  obtain ⟨c1, kp⟩ := Bool.and_eq_true_iff.mp c
  unfold fdB at c1
  unfold fnA at e
  rcases hL : K.lookup (d.adr K) with _ | ⟨oc, od, dat, sl⟩
  · rw [hL] at c1; exact absurd (show false = true from c1) (by decide)
  rw [hL] at c1 e
  cases dat with
  | func fd =>
    have c3 : (PySem.W.codeIn K fd.code d.qn && He.dflB K fd.defaults d.dv && He.kwdB K fd.kwdefaults []) = true := c1
    obtain ⟨k1, k2⟩ := Bool.and_eq_true_iff.mp c3
    obtain ⟨k3, k4⟩ := Bool.and_eq_true_iff.mp k1
    have e2 : some (fd.name, fd.qualname, fd.params, fd.body, fd.scope, fd.globals, fd.closure, fd.builtins) = some (d.nm, d.qn, d.pr, FuncBody.stmts d.bd, d.sc, mainGlobals, [], builtinsNs) := e
    refine ⟨fd, ⟨oc, od, fd.defaults, fd.kwdefaults, fd.doc, fd.pyModule, fd.annotations, fd.code, fd.closureTuple, sl, ?_, hL, k3, He.dflB_ok k4, He.kwdB_ok k2⟩, kp⟩
    obtain ⟨m1, m2, m3, m4, m5, m6, m7, m8, m9, m10, m11, m12, m13, m14, m15⟩ := fd
    injection e2 with e3
    injection e3 with z1 e3; injection e3 with z2 e3; injection e3 with z3 e3; injection e3 with z4 e3; injection e3 with z5 e3; injection e3 with z6 e3; injection e3 with z7 z8
    dsimp only at z1 z2 z3 z4 z5 z6 z7 z8
    rw [z1, z2, z3, z4, z5, z6, z7, z8]; try rfl
  | _ => exact absurd (show false = true from c1) (by decide)
/-- the getter of the property x of the class C -/
def gt (K : PySem.W.Frag) (C x : Str) : Addr := match PySem.W.recIn K (He.ma K (He.ga K C) x) "property" with
  | some (.ref g :: _) => g
  | _ => 0
inductive Fx where
  | ins (C : Str)
  | mk (C : Str)
  | kit (C D : Str) (b : Bool)
  | prop (C x : Str)
  | obj (C : Str)
  | ne (C : Str)
  | item (C m : Str)
  | nosq (C : Str)
  | tupl (x : Str) (vs : List He.Dv)
def Fx.ok (K : PySem.W.Frag) : Fx → Bool
  | .ins C => (He.Fa.cls C).ok K && He.eqO (PySem.W.findIn K (.ref (He.ga K C)) "__class__") (some (some (.builtin "object.__class__"))) && He.eqO (PySem.W.specialIn K (.builtin "object.__class__") "__get__") (some (some (.builtin "getset_descriptor.__get__"))) &&
      decide (PySem.W.takesIn K (.builtin "object.__class__") = some true) && decide (PySem.W.mroIn K (He.ga K C) (.type "object") = some true)
  | .mk C => PySem.W.makesIn K (He.ga K C) && PySem.W.keepIn K (.ref (He.ga K C))
  | .kit C D b => decide (PySem.W.kitOne K (.ref (He.ga K C)) (.ref (He.ga K D)) = some b)
  | .prop C x => He.eqO (PySem.W.findIn K (.ref (He.ga K C)) x) (some (some (.ref (He.ma K (He.ga K C) x)))) && He.eqO (PySem.W.specialIn K (.ref (He.ma K (He.ga K C) x)) "__get__") (some (some (.builtin "property.__get__"))) &&
      decide (PySem.W.takesIn K (.ref (He.ma K (He.ga K C) x)) = some true) && (match PySem.W.recIn K (He.ma K (He.ga K C) x) "property" with
      | some (.ref _ :: _) => true
      | _ => false)
  | .obj C => (He.Fa.cls C).ok K && decide (PySem.W.mroIn K (He.ga K C) (.type "object") = some true) && He.eqO (PySem.W.findIn K (.ref (He.ga K C)) "__eq__") (some (some (.builtin "object.__eq__"))) && He.eqO (PySem.W.findIn K (.ref (He.ga K C)) "__ne__") (some (some (.builtin "object.__ne__")))
  | .ne C => decide (PySem.W.mroIn K (He.ga K C) (.type "object") = some true) && He.eqO (PySem.W.findIn K (.ref (He.ga K C)) "__ne__") (some (some (.builtin "object.__ne__")))
  | .item C m => (match PySem.W.findIn K (.ref (He.ga K C)) m with
    | some (some (.ref f)) => PySem.W.fnIn K f
    | _ => true)
  | .nosq C => PySem.W.noSeq K (He.ga K C)
  | .tupl x vs => He.tupB K x vs
section
variable {K : PySem.W.Frag} {C D x : Str} {b : Bool}
theorem item_ok {m : Str} (c : (Fx.item C m).ok K = true) : ∀ f, PySem.W.findIn K (.ref (He.ga K C)) m = some (some (.ref f)) → PySem.W.fnIn K f = true := fun f e => by
  have c' : (match PySem.W.findIn K (.ref (He.ga K C)) m with
    | some (some (.ref f)) => PySem.W.fnIn K f
    | _ => true) = true := c
  rw [e] at c'
  exact c'
theorem tupl_ok {vs : List He.Dv} (c : (Fx.tupl x vs).ok K = true) (H : Hp) : SqT K H (He.ga K x) (vs.map (He.Dv.v K)) := He.tupB_ok c H
theorem nosq_ok (c : (Fx.nosq C).ok K = true) : PySem.W.noSeq K (He.ga K C) = true := c
theorem ins_ok (c : (Fx.ins C).ok K = true) : InsF K (He.ga K C) := by
  obtain ⟨c, c5⟩ := Bool.and_eq_true_iff.mp c
  obtain ⟨c, c4⟩ := Bool.and_eq_true_iff.mp c
  obtain ⟨c, c3⟩ := Bool.and_eq_true_iff.mp c
  obtain ⟨c1, c2⟩ := Bool.and_eq_true_iff.mp c
  exact ⟨He.cls_ok c1, He.eqO_ok c2, He.eqO_ok c3, of_decide_eq_true c4, of_decide_eq_true c5⟩
theorem mkc_ok (c : (Fx.mk C).ok K = true) : PySem.W.makesIn K (He.ga K C) = true ∧ PySem.W.keepIn K (.ref (He.ga K C)) = true := Bool.and_eq_true_iff.mp c
theorem kit_ok (c : (Fx.kit C D b).ok K = true) : PySem.W.kitOne K (.ref (He.ga K C)) (.ref (He.ga K D)) = some b := of_decide_eq_true c
theorem prop_ok (c : (Fx.prop C x).ok K = true) : PropOf K (He.ga K C) x (He.ma K (He.ga K C) x) (gt K C x) := by
  obtain ⟨c, c4⟩ := Bool.and_eq_true_iff.mp c
  obtain ⟨c, c3⟩ := Bool.and_eq_true_iff.mp c
  obtain ⟨c1, c2⟩ := Bool.and_eq_true_iff.mp c
  refine ⟨He.eqO_ok c1, He.eqO_ok c2, of_decide_eq_true c3, ?_⟩
  unfold gt
  split at c4
  · rename_i g r e
    exact ⟨r, by rw [e]⟩
  · cases c4
end
def obsX (fa : List He.Fa) (fx : List Fx) (ds : List GD) (K : PySem.W.Frag) : He.AlD := (fa.all (fun f => f.ok K) && fx.all (fun f => f.ok K) && ds.all (fun d => d.ok K), ds.map fun d => fnA K (d.adr K))
def valX (ds : List GD) : He.AlD := (true, ds.map GD.val)
def SaysX (fa : List He.Fa) (fx : List Fx) (ds : List GD) (K : PySem.W.Frag) : Prop := obsX fa fx ds K = valX ds
def lookX (as : List Addr) (g : Addr → Option Obj) : PySem.W.Frag := He.frG g as
def hookX (n : List Addr) (fa : List He.Fa) (fx : List Fx) (ds : List GD) : PySem.W.Hook where
  α := He.AlD
  obs := fun s => obsX fa fx ds (lookX n s.heap.get?)
  val := fun _ => valX ds
  says := fun _ h => ∃ K : PySem.W.Frag, K.In h ∧ SaysX fa fx ds K
  of := fun _ _ e => ⟨_, He.frG_in, e⟩
  keeps := fun _ _ _ ⟨K, hK, c⟩ k => ⟨K, PySem.W.Frag.In.keeps hK k, c⟩
theorem obsX_eq {n : List Addr} {fa : List He.Fa} {fx : List Fx} {ds : List GD} {g : Addr → Option Obj} {s : Shared} (h : ∀ a, g a = s.heap.get? a) : obsX fa fx ds (lookX n g) = (hookX n fa fx ds).obs s := by
  rw [show g = s.heap.get? from funext h]; rfl
section
variable {fa : List He.Fa} {fx : List Fx} {ds : List GD} {K : PySem.W.Frag}
theorem SaysX.a (c : SaysX fa fx ds K) (i : Nat) {f : He.Fa} (h : fa[i]? = some f := by rfl) : f.ok K = true := by
  have q : (fa.all (fun f => f.ok K) && fx.all (fun f => f.ok K) && ds.all (fun d => d.ok K)) = true := congrArg Prod.fst c
  exact List.all_eq_true.mp (Bool.and_eq_true_iff.mp (Bool.and_eq_true_iff.mp q).1).1 f (List.mem_of_getElem? h)
theorem SaysX.x (c : SaysX fa fx ds K) (i : Nat) {f : Fx} (h : fx[i]? = some f := by rfl) : f.ok K = true := by
  have q : (fa.all (fun f => f.ok K) && fx.all (fun f => f.ok K) && ds.all (fun d => d.ok K)) = true := congrArg Prod.fst c
  exact List.all_eq_true.mp (Bool.and_eq_true_iff.mp (Bool.and_eq_true_iff.mp q).1).2 f (List.mem_of_getElem? h)
theorem SaysX.d (c : SaysX fa fx ds K) (i : Nat) {d : GD} (h : ds[i]? = some d := by rfl) : ∃ fd, FunD K d.nm d.qn d.pr d.bd d.sc d.dv [] (d.adr K) fd := by
  have q : (fa.all (fun f => f.ok K) && fx.all (fun f => f.ok K) && ds.all (fun d => d.ok K)) = true := congrArg Prod.fst c
  have v : ds.map (fun d => fnA K (d.adr K)) = ds.map GD.val := congrArg Prod.snd c
  have v2 := congrArg (fun l => l[i]?) v
  simp only [List.getElem?_map, h, Option.map_some] at v2
  exact GD.funD (Option.some.inj v2) (List.all_eq_true.mp (Bool.and_eq_true_iff.mp q).2 d (List.mem_of_getElem? h))
end
end GG
local macro_rules
  | `(tactic| walk_at "w") => `(tactic| conv => whnf)
  | `(tactic| walk_at "sm") => `(tactic| first | exact Same.refl _ | assumption | exact Same.trans (by walk_at "sm") (by assumption))
namespace LW
open PySem PySem.Spec L2 GG
def topS (i : Nat) : Stmt := PySem.Challenge.pw_rankpicks_k75_whole_worths_come_in.main.body.getD i (.Pass ⟨0, 0, 0, 0⟩)
abbrev s__law_called : Stmt := (topS 48)
theorem sc__law_called : FnScope (["purse", "many", "found", "shift", "k", "letter", "tail", "name"] : List Str) (["purse", "many"] : List Str) (defScope s__law_called) := ⟨rfl, rfl, rfl, by decide +kernel, rfl, by decide +kernel, by decide +kernel⟩
abbrev s__law_draw : Stmt := (topS 47)
theorem sc__law_draw : FnScope (["purse", "many", "digit", "number"] : List Str) (["purse", "many"] : List Str) (defScope s__law_draw) := ⟨rfl, rfl, rfl, by decide +kernel, rfl, by decide +kernel, by decide +kernel⟩
abbrev s__law_grown : Stmt := (topS 51)
theorem sc__law_grown : FnScope (["purse", "names", "most", "parts", "taken", "row", "part"] : List Str) (["purse", "names", "most"] : List Str) (defScope s__law_grown) := ⟨rfl, rfl, rfl, by decide +kernel, rfl, by decide +kernel, by decide +kernel⟩
abbrev s__law_hangs : Stmt := (topS 61)
theorem sc__law_hangs : FnScope (["tree", "known", "j", "free", "rows", "bound", "found", "name", "low"] : List Str) (["tree", "known", "j"] : List Str) (defScope s__law_hangs) := ⟨rfl, rfl, rfl, by decide +kernel, rfl, by decide +kernel, by decide +kernel⟩
abbrev s__law_low : Stmt := (topS 54)
theorem sc__law_low : FnScope (["tree", "low", "total", "part", "rank"] : List Str) (["tree", "low"] : List Str) (defScope s__law_low) := ⟨rfl, rfl, rfl, by decide +kernel, rfl, by decide +kernel, by decide +kernel⟩
abbrev s__law_made : Stmt := (topS 55)
theorem sc__law_made : FnScope (["tree", "part"] : List Str) (["tree"] : List Str) (defScope s__law_made) := ⟨rfl, rfl, rfl, by decide +kernel, rfl, by decide +kernel, by decide +kernel⟩
abbrev s__law_names : Stmt := (topS 53)
theorem sc__law_names : FnScope (["tree", "found", "part"] : List Str) (["tree"] : List Str) (defScope s__law_names) := ⟨rfl, rfl, rfl, by decide +kernel, rfl, by decide +kernel, by decide +kernel⟩
abbrev s__law_nearer : Stmt := (topS 64)
theorem sc__law_nearer : FnScope (["before", "after"] : List Str) (["before", "after"] : List Str) (defScope s__law_nearer) := ⟨rfl, rfl, rfl, by decide +kernel, rfl, by decide +kernel, by decide +kernel⟩
abbrev s__law_pairs : Stmt := (topS 57)
theorem sc__law_pairs : FnScope (["worths", "name"] : List Str) (["worths"] : List Str) (defScope s__law_pairs) := ⟨rfl, rfl, rfl, by decide +kernel, rfl, by decide +kernel, by decide +kernel⟩
abbrev s__law_purse : Stmt := (topS 46)
theorem sc__law_purse : FnScope (["script", "at", "cell"] : List Str) (["script", "at"] : List Str) (defScope s__law_purse) := ⟨rfl, rfl, rfl, by decide +kernel, rfl, by decide +kernel, by decide +kernel⟩
abbrev s__law_ranks : Stmt := (topS 50)
theorem sc__law_ranks : FnScope (["purse", "taken", "most", "ranks", "turn", "rank"] : List Str) (["purse", "taken", "most"] : List Str) (defScope s__law_ranks) := ⟨rfl, rfl, rfl, by decide +kernel, rfl, by decide +kernel, by decide +kernel⟩
abbrev s__law_shuffled : Stmt := (topS 59)
theorem sc__law_shuffled : FnScope (["purse", "rows", "found", "row", "at"] : List Str) (["purse", "rows"] : List Str) (defScope s__law_shuffled) := ⟨rfl, rfl, rfl, by decide +kernel, rfl, by decide +kernel, by decide +kernel⟩
abbrev s__law_split : Stmt := (topS 49)
theorem sc__law_split : FnScope (["purse", "names", "rows", "name", "k", "row"] : List Str) (["purse", "names"] : List Str) (defScope s__law_split) := ⟨rfl, rfl, rfl, by decide +kernel, rfl, by decide +kernel, by decide +kernel⟩
abbrev s__law_strangers : Stmt := (topS 62)
theorem sc__law_strangers : FnScope (["purse", "many", "names", "name"] : List Str) (["purse", "many"] : List Str) (defScope s__law_strangers) := ⟨rfl, rfl, rfl, by decide +kernel, rfl, by decide +kernel, by decide +kernel⟩
abbrev s__law_tree : Stmt := (topS 58)
theorem sc__law_tree : FnScope (["purse", "leaves", "most", "names"] : List Str) (["purse", "leaves", "most"] : List Str) (defScope s__law_tree) := ⟨rfl, rfl, rfl, by decide +kernel, rfl, by decide +kernel, by decide +kernel⟩
abbrev s__law_turns : Stmt := (topS 60)
theorem sc__law_turns : FnScope (["tree", "low", "free", "name", "least", "most", "ends", "part", "found", "q", "rank", "k"] : List Str) (["tree", "low", "free", "name"] : List Str) (defScope s__law_turns) := ⟨rfl, rfl, rfl, by decide +kernel, rfl, by decide +kernel, by decide +kernel⟩
abbrev s__law_width : Stmt := (topS 52)
theorem sc__law_width : FnScope (["tree"] : List Str) (["tree"] : List Str) (defScope s__law_width) := ⟨rfl, rfl, rfl, by decide +kernel, rfl, by decide +kernel, by decide +kernel⟩
abbrev s__law_within : Stmt := (topS 63)
theorem sc__law_within : FnScope (["sides", "end"] : List Str) (["sides", "end"] : List Str) (defScope s__law_within) := ⟨rfl, rfl, rfl, by decide +kernel, rfl, by decide +kernel, by decide +kernel⟩
abbrev s__law_worths : Stmt := (topS 56)
theorem sc__law_worths : FnScope (["purse", "names", "many", "worths", "name"] : List Str) (["purse", "names"] : List Str) (defScope s__law_worths) := ⟨rfl, rfl, rfl, by decide +kernel, rfl, by decide +kernel, by decide +kernel⟩
abbrev s_are_pairs : Stmt := (topS 29)
theorem sc_are_pairs : FnScope (["value", "names", "pair"] : List Str) (["value"] : List Str) (defScope s_are_pairs) := ⟨rfl, rfl, rfl, by decide +kernel, rfl, by decide +kernel, by decide +kernel⟩
abbrev s_are_parts : Stmt := (topS 21)
theorem sc_are_parts : FnScope (["value", "names", "part", "name"] : List Str) (["value"] : List Str) (defScope s_are_parts) := ⟨rfl, rfl, rfl, by decide +kernel, rfl, by decide +kernel, by decide +kernel⟩
abbrev s_between : Stmt := (topS 41)
theorem sc_between : FnScope (["tree", "lot", "j"] : List Str) (["tree", "lot", "j"] : List Str) (defScope s_between) := ⟨rfl, rfl, rfl, by decide +kernel, rfl, by decide +kernel, by decide +kernel⟩
abbrev s_bound_of : Stmt := (topS 39)
theorem sc_bound_of : FnScope (["tree", "lot", "j", "side", "values", "kind", "worth", "name"] : List Str) (["tree", "lot", "j", "side"] : List Str) (defScope s_bound_of) := ⟨rfl, rfl, rfl, by decide +kernel, rfl, by decide +kernel, by decide +kernel⟩
abbrev s_can_swing : Stmt := (topS 43)
theorem sc_can_swing : FnScope (["tree", "lot", "name", "known", "j", "free", "bound", "one"] : List Str) (["tree", "lot", "name", "known", "j"] : List Str) (defScope s_can_swing) := ⟨rfl, rfl, rfl, by decide +kernel, rfl, by decide +kernel, by decide +kernel⟩
abbrev s_check_end : Stmt := (topS 27)
theorem sc_check_end : FnScope (["tree", "j"] : List Str) (["tree", "j"] : List Str) (defScope s_check_end) := ⟨rfl, rfl, rfl, by decide +kernel, rfl, by decide +kernel, by decide +kernel⟩
abbrev s_check_full : Stmt := (topS 32)
theorem sc_check_full : FnScope (["tree", "lot", "name"] : List Str) (["tree", "lot"] : List Str) (defScope s_check_full) := ⟨rfl, rfl, rfl, by decide +kernel, rfl, by decide +kernel, by decide +kernel⟩
abbrev s_check_lot : Stmt := (topS 31)
theorem sc_check_lot : FnScope (["value"] : List Str) (["value"] : List Str) (defScope s_check_lot) := ⟨rfl, rfl, rfl, by decide +kernel, rfl, by decide +kernel, by decide +kernel⟩
abbrev s_check_name : Stmt := (topS 16)
theorem sc_check_name : FnScope (["value"] : List Str) (["value"] : List Str) (defScope s_check_name) := ⟨rfl, rfl, rfl, by decide +kernel, rfl, by decide +kernel, by decide +kernel⟩
abbrev s_check_partial : Stmt := (topS 40)
theorem sc_check_partial : FnScope (["tree", "lot", "j"] : List Str) (["tree", "lot", "j"] : List Str) (defScope s_check_partial) := ⟨rfl, rfl, rfl, by decide +kernel, rfl, by decide +kernel, by decide +kernel⟩
abbrev s_check_tree : Stmt := (topS 26)
theorem sc_check_tree : FnScope (["value"] : List Str) (["value"] : List Str) (defScope s_check_tree) := ⟨rfl, rfl, rfl, by decide +kernel, rfl, by decide +kernel, by decide +kernel⟩
abbrev s_check_whole : Stmt := (topS 17)
theorem sc_check_whole : FnScope (["value"] : List Str) (["value"] : List Str) (defScope s_check_whole) := ⟨rfl, rfl, rfl, by decide +kernel, rfl, by decide +kernel, by decide +kernel⟩
abbrev s_check_within : Stmt := (topS 18)
theorem sc_check_within : FnScope (["value", "first", "last"] : List Str) (["value", "first", "last"] : List Str) (defScope s_check_within) := ⟨rfl, rfl, rfl, by decide +kernel, rfl, by decide +kernel, by decide +kernel⟩
abbrev s_end_of : Stmt := (topS 34)
theorem sc_end_of : FnScope (["tree", "lot", "j"] : List Str) (["tree", "lot", "j"] : List Str) (defScope s_end_of) := ⟨rfl, rfl, rfl, by decide +kernel, rfl, by decide +kernel, by decide +kernel⟩
abbrev s_gathered : Stmt := (topS 33)
theorem sc_gathered : FnScope (["tree", "lot", "taken", "part", "worth", "rank"] : List Str) (["tree", "lot"] : List Str) (defScope s_gathered) := ⟨rfl, rfl, rfl, by decide +kernel, rfl, by decide +kernel, by decide +kernel⟩
abbrev s_is_ascending : Stmt := (topS 15)
theorem sc_is_ascending : FnScope (["value", "number", "at"] : List Str) (["value"] : List Str) (defScope s_is_ascending) := ⟨rfl, rfl, rfl, by decide +kernel, rfl, by decide +kernel, by decide +kernel⟩
abbrev s_is_group : Stmt := (topS 22)
theorem sc_is_group : FnScope (["ranks", "parts", "part"] : List Str) (["ranks", "parts"] : List Str) (defScope s_is_group) := ⟨rfl, rfl, rfl, by decide +kernel, rfl, by decide +kernel, by decide +kernel⟩
abbrev s_is_name : Stmt := (topS 13)
theorem sc_is_name : FnScope (["value", "letter"] : List Str) (["value"] : List Str) (defScope s_is_name) := ⟨rfl, rfl, rfl, by decide +kernel, rfl, by decide +kernel, by decide +kernel⟩
abbrev s_is_whole : Stmt := (topS 12)
theorem sc_is_whole : FnScope (["value"] : List Str) (["value"] : List Str) (defScope s_is_whole) := ⟨rfl, rfl, rfl, by decide +kernel, rfl, by decide +kernel, by decide +kernel⟩
abbrev s_law : Stmt := (topS 65)
theorem sc_law : FnScope (["script", "at", "purse", "tree", "names", "worths", "made", "known", "lot", "j", "end", "before", "still", "name", "after", "left", "one"] : List Str) (["script"] : List Str) (defScope s_law) := ⟨rfl, rfl, rfl, by decide +kernel, rfl, by decide +kernel, by decide +kernel⟩
abbrev s_matters : Stmt := (topS 44)
theorem sc_matters : FnScope (["tree", "lot", "j", "known", "name"] : List Str) (["tree", "lot", "j"] : List Str) (defScope s_matters) := ⟨rfl, rfl, rfl, by decide +kernel, rfl, by decide +kernel, by decide +kernel⟩
abbrev s_swings : Stmt := (topS 42)
theorem sc_swings : FnScope (["tree", "name", "low", "free", "least", "most", "inner", "part", "totals", "ranks", "number", "more", "rank", "total"] : List Str) (["tree", "name", "low", "free"] : List Str) (defScope s_swings) := ⟨rfl, rfl, rfl, by decide +kernel, rfl, by decide +kernel, by decide +kernel⟩
abbrev s_values_of : Stmt := (topS 38)
theorem sc_values_of : FnScope (["tree", "values", "taken", "part", "value", "rank"] : List Str) (["tree", "values"] : List Str) (defScope s_values_of) := ⟨rfl, rfl, rfl, by decide +kernel, rfl, by decide +kernel, by decide +kernel⟩
abbrev s_Leaf___init__ : Stmt := (inClass (topS 24) 0)
theorem sc_Leaf___init__ : FnScope (["self", "name"] : List Str) (["self", "name"] : List Str) (defScope s_Leaf___init__) := ⟨rfl, rfl, rfl, by decide +kernel, rfl, by decide +kernel, by decide +kernel⟩
abbrev s_Leaf_name : Stmt := (inClass (topS 24) 1)
theorem sc_Leaf_name : FnScope (["self"] : List Str) (["self"] : List Str) (defScope s_Leaf_name) := ⟨rfl, rfl, rfl, by decide +kernel, rfl, by decide +kernel, by decide +kernel⟩
abbrev s_Leaf_width : Stmt := (inClass (topS 24) 2)
theorem sc_Leaf_width : FnScope (["self"] : List Str) (["self"] : List Str) (defScope s_Leaf_width) := ⟨rfl, rfl, rfl, by decide +kernel, rfl, by decide +kernel, by decide +kernel⟩
abbrev s_Leaf___contains__ : Stmt := (inClass (topS 24) 4)
theorem sc_Leaf___contains__ : FnScope (["self", "name"] : List Str) (["self", "name"] : List Str) (defScope s_Leaf___contains__) := ⟨rfl, rfl, rfl, by decide +kernel, rfl, by decide +kernel, by decide +kernel⟩
abbrev s_Leaf_names : Stmt := (inClass (topS 24) 6)
theorem sc_Leaf_names : FnScope (["self"] : List Str) (["self"] : List Str) (defScope s_Leaf_names) := ⟨rfl, rfl, rfl, by decide +kernel, rfl, by decide +kernel, by decide +kernel⟩
abbrev s_Leaf_low_ends : Stmt := (inClass (topS 24) 8)
theorem sc_Leaf_low_ends : FnScope (["self", "low"] : List Str) (["self", "low"] : List Str) (defScope s_Leaf_low_ends) := ⟨rfl, rfl, rfl, by decide +kernel, rfl, by decide +kernel, by decide +kernel⟩
abbrev s_Group___init__ : Stmt := (inClass (topS 25) 0)
theorem sc_Group___init__ : FnScope (["self", "ranks", "parts", "part"] : List Str) (["self", "ranks", "parts"] : List Str) (defScope s_Group___init__) := ⟨rfl, rfl, rfl, by decide +kernel, rfl, by decide +kernel, by decide +kernel⟩
abbrev s_Group_ranks : Stmt := (inClass (topS 25) 1)
theorem sc_Group_ranks : FnScope (["self"] : List Str) (["self"] : List Str) (defScope s_Group_ranks) := ⟨rfl, rfl, rfl, by decide +kernel, rfl, by decide +kernel, by decide +kernel⟩
abbrev s_Group_parts : Stmt := (inClass (topS 25) 2)
theorem sc_Group_parts : FnScope (["self"] : List Str) (["self"] : List Str) (defScope s_Group_parts) := ⟨rfl, rfl, rfl, by decide +kernel, rfl, by decide +kernel, by decide +kernel⟩
abbrev s_Group_width : Stmt := (inClass (topS 25) 4)
theorem sc_Group_width : FnScope (["self"] : List Str) (["self"] : List Str) (defScope s_Group_width) := ⟨rfl, rfl, rfl, by decide +kernel, rfl, by decide +kernel, by decide +kernel⟩
abbrev s_Group___contains__ : Stmt := (inClass (topS 25) 8)
theorem sc_Group___contains__ : FnScope (["self", "name"] : List Str) (["self", "name"] : List Str) (defScope s_Group___contains__) := ⟨rfl, rfl, rfl, by decide +kernel, rfl, by decide +kernel, by decide +kernel⟩
abbrev s_Group_names : Stmt := (inClass (topS 25) 10)
theorem sc_Group_names : FnScope (["self", "part", "name"] : List Str) (["self"] : List Str) (defScope s_Group_names) := ⟨rfl, rfl, rfl, by decide +kernel, rfl, by decide +kernel, by decide +kernel⟩
abbrev s_Group_low_ends : Stmt := (inClass (topS 25) 12)
theorem sc_Group_low_ends : FnScope (["self", "low", "total", "part", "rank"] : List Str) (["self", "low"] : List Str) (defScope s_Group_low_ends) := ⟨rfl, rfl, rfl, by decide +kernel, rfl, by decide +kernel, by decide +kernel⟩
abbrev s_Lot___init__ : Stmt := (inClass (topS 30) 0)
theorem sc_Lot___init__ : FnScope (["self", "pairs", "rows", "name", "worth"] : List Str) (["self", "pairs"] : List Str) (defScope s_Lot___init__) := ⟨rfl, rfl, rfl, by decide +kernel, rfl, by decide +kernel, by decide +kernel⟩
abbrev s_Lot___getitem__ : Stmt := (inClass (topS 30) 3)
theorem sc_Lot___getitem__ : FnScope (["self", "name"] : List Str) (["self", "name"] : List Str) (defScope s_Lot___getitem__) := ⟨rfl, rfl, rfl, by decide +kernel, rfl, by decide +kernel, by decide +kernel⟩
abbrev s_Lot___setitem__ : Stmt := (inClass (topS 30) 4)
theorem sc_Lot___setitem__ : FnScope (["self", "name", "worth"] : List Str) (["self", "name", "worth"] : List Str) (defScope s_Lot___setitem__) := ⟨rfl, rfl, rfl, by decide +kernel, rfl, by decide +kernel, by decide +kernel⟩
abbrev s_Lot___contains__ : Stmt := (inClass (topS 30) 5)
theorem sc_Lot___contains__ : FnScope (["self", "name"] : List Str) (["self", "name"] : List Str) (defScope s_Lot___contains__) := ⟨rfl, rfl, rfl, by decide +kernel, rfl, by decide +kernel, by decide +kernel⟩
structure Top (K : PySem.W.Frag) (mg : Str → Option Value) : Prop where
  f__law_called : FnF K mg "_law_called" s__law_called ["purse", "many"]
  f__law_draw : FnF K mg "_law_draw" s__law_draw ["purse", "many"]
  f__law_grown : FnF K mg "_law_grown" s__law_grown ["purse", "names", "most"]
  f__law_hangs : FnF K mg "_law_hangs" s__law_hangs ["tree", "known", "j"]
  f__law_low : FnF K mg "_law_low" s__law_low ["tree", "low"]
  f__law_made : FnF K mg "_law_made" s__law_made ["tree"]
  f__law_names : FnF K mg "_law_names" s__law_names ["tree"]
  f__law_nearer : FnF K mg "_law_nearer" s__law_nearer ["before", "after"]
  f__law_pairs : FnF K mg "_law_pairs" s__law_pairs ["worths"]
  f__law_purse : FnF K mg "_law_purse" s__law_purse ["script", "at"]
  f__law_ranks : FnF K mg "_law_ranks" s__law_ranks ["purse", "taken", "most"]
  f__law_shuffled : FnF K mg "_law_shuffled" s__law_shuffled ["purse", "rows"]
  f__law_split : FnF K mg "_law_split" s__law_split ["purse", "names"]
  f__law_strangers : FnF K mg "_law_strangers" s__law_strangers ["purse", "many"]
  f__law_tree : FnF K mg "_law_tree" s__law_tree ["purse", "leaves", "most"]
  f__law_turns : FnF K mg "_law_turns" s__law_turns ["tree", "low", "free", "name"]
  f__law_width : FnF K mg "_law_width" s__law_width ["tree"]
  f__law_within : FnF K mg "_law_within" s__law_within ["sides", "end"]
  f__law_worths : FnF K mg "_law_worths" s__law_worths ["purse", "names"]
  f_are_pairs : FnF K mg "are_pairs" s_are_pairs ["value"]
  f_are_parts : FnF K mg "are_parts" s_are_parts ["value"]
  f_between : FnFd K mg "between" s_between ["tree", "lot", "j"] [.int 1]
  f_bound_of : FnF K mg "bound_of" s_bound_of ["tree", "lot", "j", "side"]
  f_can_swing : FnF K mg "can_swing" s_can_swing ["tree", "lot", "name", "known", "j"]
  f_check_end : FnF K mg "check_end" s_check_end ["tree", "j"]
  f_check_full : FnF K mg "check_full" s_check_full ["tree", "lot"]
  f_check_lot : FnF K mg "check_lot" s_check_lot ["value"]
  f_check_name : FnF K mg "check_name" s_check_name ["value"]
  f_check_partial : FnF K mg "check_partial" s_check_partial ["tree", "lot", "j"]
  f_check_tree : FnF K mg "check_tree" s_check_tree ["value"]
  f_check_whole : FnF K mg "check_whole" s_check_whole ["value"]
  f_check_within : FnF K mg "check_within" s_check_within ["value", "first", "last"]
  f_end_of : FnFd K mg "end_of" s_end_of ["tree", "lot", "j"] [.int 1]
  f_gathered : FnF K mg "gathered" s_gathered ["tree", "lot"]
  f_is_ascending : FnF K mg "is_ascending" s_is_ascending ["value"]
  f_is_group : FnF K mg "is_group" s_is_group ["ranks", "parts"]
  f_is_name : FnF K mg "is_name" s_is_name ["value"]
  f_is_whole : FnF K mg "is_whole" s_is_whole ["value"]
  f_law : FnF K mg "law" s_law ["script"]
  f_matters : FnFd K mg "matters" s_matters ["tree", "lot", "j"] [.int 1]
  f_swings : FnF K mg "swings" s_swings ["tree", "name", "low", "free"]
  f_values_of : FnF K mg "values_of" s_values_of ["tree", "values"]
  c_Tree : mg "Tree" = some (.ref (He.ga K "Tree"))
  i_Tree : InsF K (He.ga K "Tree")
  c_Leaf : mg "Leaf" = some (.ref (He.ga K "Leaf"))
  i_Leaf : InsF K (He.ga K "Leaf")
  m_Leaf___init__ : MtF K (He.ga K "Leaf") "__init__" "Leaf.__init__" s_Leaf___init__ ["self", "name"]
  k_Leaf : PySem.W.makesIn K (He.ga K "Leaf") = true ∧ PySem.W.keepIn K (.ref (He.ga K "Leaf")) = true
  m_Leaf_name : PrF K (He.ga K "Leaf") "name" "Leaf.name" s_Leaf_name ["self"]
  m_Leaf_width : PrF K (He.ga K "Leaf") "width" "Leaf.width" s_Leaf_width ["self"]
  m_Leaf___contains__ : MtF K (He.ga K "Leaf") "__contains__" "Leaf.__contains__" s_Leaf___contains__ ["self", "name"]
  m_Leaf_names : MtF K (He.ga K "Leaf") "names" "Leaf.names" s_Leaf_names ["self"]
  m_Leaf_low_ends : MtF K (He.ga K "Leaf") "low_ends" "Leaf.low_ends" s_Leaf_low_ends ["self", "low"]
  n_Leaf_label : NoAttr K (He.ga K "Leaf") "label"
  c_Group : mg "Group" = some (.ref (He.ga K "Group"))
  i_Group : InsF K (He.ga K "Group")
  m_Group___init__ : MtF K (He.ga K "Group") "__init__" "Group.__init__" s_Group___init__ ["self", "ranks", "parts"]
  k_Group : PySem.W.makesIn K (He.ga K "Group") = true ∧ PySem.W.keepIn K (.ref (He.ga K "Group")) = true
  m_Group_ranks : PrF K (He.ga K "Group") "ranks" "Group.ranks" s_Group_ranks ["self"]
  m_Group_parts : PrF K (He.ga K "Group") "parts" "Group.parts" s_Group_parts ["self"]
  m_Group_width : PrF K (He.ga K "Group") "width" "Group.width" s_Group_width ["self"]
  m_Group___contains__ : MtF K (He.ga K "Group") "__contains__" "Group.__contains__" s_Group___contains__ ["self", "name"]
  m_Group_names : MtF K (He.ga K "Group") "names" "Group.names" s_Group_names ["self"]
  m_Group_low_ends : MtF K (He.ga K "Group") "low_ends" "Group.low_ends" s_Group_low_ends ["self", "low"]
  n_Group_picks : NoAttr K (He.ga K "Group") "picks"
  n_Group_rows : NoAttr K (He.ga K "Group") "rows"
  n_Group_taken : NoAttr K (He.ga K "Group") "taken"
  c_Lot : mg "Lot" = some (.ref (He.ga K "Lot"))
  i_Lot : InsF K (He.ga K "Lot")
  m_Lot___init__ : MtFd K (He.ga K "Lot") "__init__" "Lot.__init__" s_Lot___init__ ["self", "pairs"] [.non]
  k_Lot : PySem.W.makesIn K (He.ga K "Lot") = true ∧ PySem.W.keepIn K (.ref (He.ga K "Lot")) = true
  m_Lot___getitem__ : MtF K (He.ga K "Lot") "__getitem__" "Lot.__getitem__" s_Lot___getitem__ ["self", "name"]
  t_Lot : ∀ f, PySem.W.findIn K (.ref (He.ga K "Lot")) "__getitem__" = some (some (.ref f)) → PySem.W.fnIn K f = true
  m_Lot___setitem__ : MtF K (He.ga K "Lot") "__setitem__" "Lot.__setitem__" s_Lot___setitem__ ["self", "name", "worth"]
  q_Lot : PySem.W.noSeq K (He.ga K "Lot") = true
  m_Lot___contains__ : MtF K (He.ga K "Lot") "__contains__" "Lot.__contains__" s_Lot___contains__ ["self", "name"]
  n_Lot_worths : NoAttr K (He.ga K "Lot") "worths"
  kit_Leaf_Tree : PySem.W.kitOne K (.ref (He.ga K "Leaf")) (.ref (He.ga K "Tree")) = some true
  kit_Leaf_Leaf : PySem.W.kitOne K (.ref (He.ga K "Leaf")) (.ref (He.ga K "Leaf")) = some true
  kit_Leaf_Group : PySem.W.kitOne K (.ref (He.ga K "Leaf")) (.ref (He.ga K "Group")) = some false
  kit_Leaf_Lot : PySem.W.kitOne K (.ref (He.ga K "Leaf")) (.ref (He.ga K "Lot")) = some false
  kit_Group_Tree : PySem.W.kitOne K (.ref (He.ga K "Group")) (.ref (He.ga K "Tree")) = some true
  kit_Group_Leaf : PySem.W.kitOne K (.ref (He.ga K "Group")) (.ref (He.ga K "Leaf")) = some false
  kit_Group_Group : PySem.W.kitOne K (.ref (He.ga K "Group")) (.ref (He.ga K "Group")) = some true
  kit_Group_Lot : PySem.W.kitOne K (.ref (He.ga K "Group")) (.ref (He.ga K "Lot")) = some false
  kit_Lot_Tree : PySem.W.kitOne K (.ref (He.ga K "Lot")) (.ref (He.ga K "Tree")) = some false
  kit_Lot_Leaf : PySem.W.kitOne K (.ref (He.ga K "Lot")) (.ref (He.ga K "Leaf")) = some false
  kit_Lot_Group : PySem.W.kitOne K (.ref (He.ga K "Lot")) (.ref (He.ga K "Group")) = some false
  kit_Lot_Lot : PySem.W.kitOne K (.ref (He.ga K "Lot")) (.ref (He.ga K "Lot")) = some true
  b_len : mg "len" = none
  b_sum : mg "sum" = none
  b_min : mg "min" = none
  b_max : mg "max" = none
  b_sorted : mg "sorted" = none
  b_isinstance : mg "isinstance" = none
  b_int : mg "int" = none
  b_list : mg "list" = none
  b_tuple : mg "tuple" = none
  b_str : mg "str" = none
  b_bool : mg "bool" = none
  b_set : mg "set" = none
  b_range : mg "range" = none
  b_enumerate : mg "enumerate" = none
  b_dict : mg "dict" = none
  g_ALPHABET : ∃ t, mg "ALPHABET" = some (.str "abcdefghijklmnopqrstuvwxyz" t)
  g_LOW : mg "LOW" = some (.ref (He.ga K "LOW")) ∧ ∀ H, SqT K H (He.ga K "LOW") [.int 0, .int 0]
  g_HIGH : mg "HIGH" = some (.ref (He.ga K "HIGH")) ∧ ∀ H, SqT K H (He.ga K "HIGH") [.int 2, .int 0]
variable {P : Program} {w : World} {K : PySem.W.Frag} {mg : Str → Option Value} {base : Heap}
def sp_is_whole : Sp := fun vs H Q _ => match vs with
  | [.int _] => Q (.bl true) H
  | _ => False
theorem ok_is_whole (tp : Top K mg) : FnN P w K mg base 1 "is_whole" [] sp_is_whole := by
  refine fn_by tp.f_is_whole sc_is_whole (fun vs H Q E h => by unfold sp_is_whole at h; split at h <;> first | rfl | exact h.elim) (fun f cdv A outer s H vs Q E hr h => ⟨_, (pss_one (ps_ret (g_andV (pe_callB (k_isi K rfl) (by rfl) tp.b_isinstance (by decide +kernel) (pa_cons (gv 0) (pa_cons (pe_bltn (v := .ty "int") rfl tp.b_int (by decide +kernel) rfl) pa_nil))) (pe_one (g_notV (pe_callB (k_isi K rfl) (by rfl) tp.b_isinstance (by decide +kernel) (pa_cons (gv 0) (pa_cons (pe_bltn (v := .ty "bool") rfl tp.b_bool (by decide +kernel) rfl) pa_nil)))))))), ?_⟩)
  unfold sp_is_whole at h
  split at h
  · walk_at "w"
    refine ⟨_, is_ii, way_t ?_⟩
    walk_at "w"
    exact ⟨_, is_ib, h⟩
  · exact h.elim
instance {z : Str} : Decidable (IsNm z) := by unfold IsNm; infer_instance
def sp_is_name : Sp := fun vs H Q _ => match vs with
  | [.str z] => z.length ≤ 1000 ∧ ∀ H', Same H H' → Q (.bl (decide (IsNm z))) H'
  | _ => False
theorem ok_is_name (tp : Top K mg) : FnN P w K mg base 1 "is_name" [] sp_is_name := by
  refine fn_by tp.f_is_name sc_is_name (fun vs H Q E h => by unfold sp_is_name at h; split at h <;> first | rfl | exact h.elim) (fun f cdv A outer s H vs Q E hr h => ⟨_, (pss_cons (g_if (PW.pt (g_or (pt_not (g_val (pe_callB (k_isi K rfl) (by rfl) tp.b_isinstance (by decide +kernel) (pa_cons (gv 0) (pa_cons (pe_bltn (v := .ty "str") rfl tp.b_str (by decide +kernel) rfl) pa_nil))))) (pw_or1 (pt_not (g_chainT op_leG op_leG pe_int (pe_callB (k_len K rfl) (by rfl) tp.b_len (by decide +kernel) (pa_cons (gv 0) pa_nil)) pe_int))))) (pss_one (ps_ret pe_bl)) pss_nil) (pss_one (ps_ret (g_cmpV (k_eqG K rfl hr.units) (g_lc rfl sc_is_name.nd (w_str (gv 0)) (blkOk_by (own := [("letter", 1)]) (N := (["value", "letter"] : List Str)) (sc := defScope s_is_name) (by decide +kernel)) (fun _ _ _ _ _ => pg_name (i := 1) sc_is_name.nd rfl (by first | exact Or.inl rfl | exact Or.inr rfl)) (fun _ _ _ _ _ => (pts_one (g_cmp (k_ninG K rfl) (gv 1) (pe_glob (v := .str _) rfl (Classical.choose_spec tp.g_ALPHABET) ⟨_, rfl⟩) (by with_unfolding_all rfl)))) (fun _ _ _ _ _ => (gv 1))) (g_lst pa_nil) (nomark _))))), ?_⟩)
  unfold sp_is_name at h
  split at h
  next z =>
    obtain ⟨hz, h⟩ := h
    have hz2 : z.length ≤ sizeLine := Nat.le_trans hz (by decide)
    walk_at "w"
    refine ⟨_, is_ss, way_f ?_⟩
    walk_at "w"
    refine ⟨hz2, ?_⟩
    walk_at "w"
    refine way_d (fun h1 => ?_) (fun h1 => ?_)
    · walk_at "w"
      refine way_nd (fun h8 => ?_) (fun h8 => ?_)
      · walk_at "w"
        have q := h H (Same.refl _)
        rw [decide_eq_false (by intro q; exact h8 (by have := q.2.1; omega))] at q
        exact q
      · walk_at "w"
        refine ⟨hz2, comp_str (F := fun i acc G => Same H G ∧ (acc = [] ↔ ∀ c ∈ z.cps.toList.take i, c ∈ alph)) (Nat.lt_of_le_of_lt hz (by decide)) ⟨Same.refl _, by simp⟩ (fun D i c acc H' hc hD hDl hl f => ⟨rfl, ?_⟩) (fun D H' acc hD hDl hl f => ?_)⟩
        · walk_at "w"
          refine ⟨c, rfl, ?_⟩
          have hc' : z.cps.toList[i]? = some c := by rw [Array.getElem?_toList]; exact hc
          have tk : z.cps.toList.take (i + 1) = z.cps.toList.take i ++ [c] := by rw [List.take_add_one, hc']; rfl
          refine way_nd (fun hn => ?_) (fun hn => ?_)
          · walk_at "w"
            refine ⟨hDl, f.1, ?_⟩
            rw [tk]
            constructor
            · intro q; exact absurd q (by simp)
            · intro q; exact absurd (q c (by simp)) hn
          · refine ⟨hDl, f.1, ?_⟩
            rw [tk, f.2]
            constructor
            · intro q d hd
              rcases List.mem_append.mp hd with hd | hd
              · exact q d hd
              · rw [List.mem_singleton.mp hd]; exact hn
            · intro q d hd; exact q d (List.mem_append_left _ hd)
        · walk_at "w"
          refine ⟨by decide, fun p H2 hp s2 h2 => Or.inl ⟨acc, SqL.of (s2 _ _ hDl), h2, ?_⟩⟩
          have sH : Same H H2 := (f.1.trans off_same).trans s2
          have q := h H2 sH
          have e : decide (IsNm z) = acc.isEmpty := by
            rw [Bool.eq_iff_iff, decide_eq_true_eq, List.isEmpty_iff, f.2]
            have tk : z.cps.toList.take z.length = z.cps.toList := List.take_of_length_le (by simp [Str.length])
            rw [tk]
            exact ⟨fun q => q.2.2, fun q => ⟨by omega, by omega, q⟩⟩
          rw [e] at q
          exact q
    · walk_at "w"
      have q := h H (Same.refl _)
      rw [decide_eq_false (by intro q; exact h1 (by have := q.1; omega))] at q
      exact way_t q
  next => exact h.elim
def sp_check_name : Sp := fun vs H Q _ => match vs with
  | [.str z] => IsNm z ∧ ∀ H', Same H H' → Q .non H'
  | _ => False
theorem ok_check_name (tp : Top K mg) : FnN P w K mg base 2 "check_name" [] sp_check_name := by
  refine fn_by tp.f_check_name sc_check_name (fun vs H Q E h => by unfold sp_check_name at h; split at h <;> first | rfl | exact h.elim) (fun f cdv A outer s H vs Q E hr h => ⟨_, (pss_one (g_if (pt_not (g_val (g_call (ok_is_name tp) hr rfl (by omega) (pa_cons (gv 0) pa_nil)))) (pss_one ps_never) pss_nil)), ?_⟩)
  unfold sp_check_name at h
  split at h
  next z =>
    walk_at "w"
    refine ⟨Nat.le_trans h.1.2.1 (by decide), fun H' s' => ?_⟩
    rw [decide_eq_true h.1]
    refine way_f ?_
    exact h.2 H' s'
  next => exact h.elim
def sp_check_whole : Sp := fun vs H Q _ => match vs with
  | [.int _] => Q .non H
  | _ => False
theorem ok_check_whole (tp : Top K mg) : FnN P w K mg base 2 "check_whole" [] sp_check_whole := by
  refine fn_by tp.f_check_whole sc_check_whole (fun vs H Q E h => by unfold sp_check_whole at h; split at h <;> first | rfl | exact h.elim) (fun f cdv A outer s H vs Q E hr h => ⟨_, (pss_one (g_if (pt_not (g_val (g_call (ok_is_whole tp) hr rfl (by omega) (pa_cons (gv 0) pa_nil)))) (pss_one ps_never) pss_nil)), ?_⟩)
  unfold sp_check_whole at h
  split at h
  · walk_at "w"
    exact way_f h
  · exact h.elim
def sp_is_ascending : Sp := fun vs H Q _ => match vs with
  | [.ref p] => ∃ ns : List Int, H p = some (.lst (ns.map V.int)) ∧ ns.Pairwise (· < ·) ∧ ns.length ≤ 1000 ∧ ∀ H', Same H H' → Q (.bl true) H'
  | _ => False
theorem pw_at {ns : List Int} (h : ns.Pairwise (· < ·)) {i : Nat} {a b : Int} (ha : ns[i]? = some a) (hb : ns[i + 1]? = some b) : a < b := by
  obtain ⟨h1, e1⟩ := List.getElem?_eq_some_iff.mp ha
  obtain ⟨h2, e2⟩ := List.getElem?_eq_some_iff.mp hb
  rw [← e1, ← e2]
  exact List.pairwise_iff_getElem.mp h i (i + 1) h1 h2 (by omega)
theorem map_at {ns : List Int} {i : Nat} {x : V} (h : (ns.map V.int)[i]? = some x) : ∃ a, ns[i]? = some a ∧ x = .int a := by
  rw [List.getElem?_map] at h
  cases e : ns[i]? with
  | none => rw [e] at h; simp at h
  | some a => rw [e] at h; simp at h; exact ⟨a, rfl, h.symm⟩
theorem ok_is_ascending (tp : Top K mg) : FnN P w K mg base 2 "is_ascending" [] sp_is_ascending := by
  refine fn_by tp.f_is_ascending sc_is_ascending (fun vs H Q E h => by unfold sp_is_ascending at h; split at h <;> first | rfl | exact h.elim) (fun f cdv A outer s H vs Q E hr h => ⟨_, (pss_cons (g_if (PW.pt (g_or (pt_not (g_val (pe_callB (k_isi K rfl) (by rfl) tp.b_isinstance (by decide +kernel) (pa_cons (gv 0) (pa_cons (pe_bltn (v := .ty "list") rfl tp.b_list (by decide +kernel) rfl) pa_nil))))) (pw_or1 (g_cmp (k_neG K rfl hr.units) (g_lc rfl sc_is_ascending.nd (kw_list K rfl (gv 0)) (blkOk_by (own := [("number", 1)]) (N := (["value", "number", "at"] : List Str)) (sc := defScope s_is_ascending) (by decide +kernel)) (fun _ _ _ _ _ => pg_name (i := 1) sc_is_ascending.nd rfl (by first | exact Or.inl rfl | exact Or.inr rfl)) (fun _ _ _ _ _ => (pts_one (pt_not (g_val (g_call (ok_is_whole tp) hr rfl (by omega) (pa_cons (gv 1) pa_nil)))))) (fun _ _ _ _ _ => (gv 1))) (g_lst pa_nil) (nomark _))))) (pss_one (ps_ret pe_bl)) pss_nil) (pss_one (ps_ret (g_cmpV (k_eqG K rfl hr.units) (g_lc rfl sc_is_ascending.nd (w_range2 rfl tp.b_range (pa_cons pe_int (pa_cons (pe_callB (k_len K rfl) (by rfl) tp.b_len (by decide +kernel) (pa_cons (gv 0) pa_nil)) pa_nil))) (blkOk_by (own := [("at", 2)]) (N := (["value", "number", "at"] : List Str)) (sc := defScope s_is_ascending) (by decide +kernel)) (fun _ _ _ _ _ => pg_name (i := 2) sc_is_ascending.nd rfl (by first | exact Or.inl rfl | exact Or.inr rfl)) (fun _ _ _ _ _ => (pts_one (g_cmp op_geG (pe_ix (k_ix K rfl) (gv 0) (pe_op op_subG (gv 2) pe_int) (fun _ _ => rfl)) (pe_ix (k_ix K rfl) (gv 0) (gv 2) (fun _ _ => rfl)) (nomark _)))) (fun _ _ _ _ _ => (gv 2))) (g_lst pa_nil) (nomark _))))), ?_⟩)
  unfold sp_is_ascending at h
  split at h
  next p =>
    obtain ⟨ns, hp, asc, hl, h⟩ := h
    have hl2 : (ns.map V.int).length < sizeLine := by rw [List.length_map]; exact Nat.lt_of_le_of_lt hl (by decide)
    walk_at "w"
    refine ⟨_, is_ll hp, way_f ?_⟩
    walk_at "w"
    refine comp_list (xs := ns.map V.int) (fun i acc G => Same H G ∧ acc = []) hl2 ⟨Same.refl _, rfl⟩ (fun i acc G f => SqL.of (f.1 _ _ hp)) (fun D i x acc H' hx hD hDl hq f => ⟨rfl, ?_⟩) (fun D H' acc hD hDl hq f => ?_)
    · obtain ⟨a, ha, rfl⟩ := map_at hx
      walk_at "w"
      exact way_f ⟨hDl, f⟩
    · obtain ⟨s1, rfl⟩ := f
      have s2 : Same H H' := s1.trans off_same
      walk_at "w"
      refine ⟨by decide, fun p2 H2 hp2 s3 h2 => Or.inl ⟨[], SqL.of (s3 _ _ hDl), h2, ?_⟩⟩
      refine way_f ?_
      walk_at "w"
      have s4 : Same H H2 := s2.trans s3
      refine ⟨_, Or.inl (SqL.of (s4 _ _ hp)), ?_⟩
      rw [List.length_map]
      refine ⟨by omega, ?_⟩
      have hn : ((ns.length : Int) - 1).toNat = ns.length - 1 := by omega
      rw [hn]
      refine comp_range (fun i acc G => Same H G ∧ acc = []) (Nat.lt_of_le_of_lt (Nat.le_trans (Nat.sub_le _ _) hl) (by decide)) ⟨s4, rfl⟩ (fun D i acc H' hi hD hDl hq f => ⟨rfl, ?_⟩) (fun D H' acc hD hDl hq f => ?_)
      · obtain ⟨s5, rfl⟩ := f
        have s6 : Same H H' := s5.trans off_same
        obtain ⟨a, ha⟩ : ∃ a, ns[i]? = some a := ⟨ns[i], List.getElem?_eq_getElem (by omega)⟩
        obtain ⟨b, hb⟩ : ∃ b, ns[i + 1]? = some b := ⟨ns[i + 1], List.getElem?_eq_getElem (by omega)⟩
        have hab := pw_at asc ha hb
        walk_at "w"
        refine ⟨ns.map V.int, .int a, Or.inl (SqL.of (s6 _ _ hp)), at_of (j := i) (by omega) (by rw [List.getElem?_map, ha]; rfl), ?_⟩
        walk_at "w"
        refine ⟨ns.map V.int, .int b, Or.inl (SqL.of (s6 _ _ hp)), at_of (j := i + 1) (by omega) (by rw [List.getElem?_map, hb]; rfl), ?_⟩
        walk_at "w"
        rw [decide_eq_false (by omega)]
        exact way_f ⟨hDl, s5, rfl⟩
      · obtain ⟨s5, rfl⟩ := f
        walk_at "w"
        refine ⟨by decide, fun p3 H3 hp3 s6 h3 => Or.inl ⟨[], SqL.of (s6 _ _ hDl), h3, ?_⟩⟩
        exact h H3 ((s5.trans off_same).trans s6)
  next => exact h.elim
def sp_check_within (K : PySem.W.Frag) : Sp := fun vs H Q _ => match vs with
  | [.int a, .int lo, .int hi] => lo ≤ a ∧ a ≤ hi ∧ Q .non H
  | _ => False
theorem ok_check_within (tp : Top K mg) : FnN P w K mg base 2 "check_within" [] (sp_check_within K) := by
  refine fn_by tp.f_check_within sc_check_within (fun vs H Q E h => by unfold sp_check_within at h; split at h <;> first | rfl | exact h.elim) (fun f cdv A outer s H vs Q E hr h => ⟨_, (pss_one (g_if (PW.pt (g_or (pt_not (g_val (g_call (ok_is_whole tp) hr rfl (by omega) (pa_cons (gv 0) pa_nil)))) (pw_or1 (pt_not (g_chainT op_leG op_leG (gv 1) (gv 0) (gv 2)))))) (pss_one ps_never) pss_nil)), ?_⟩)
  unfold sp_check_within at h
  split at h
  next a lo hi =>
    obtain ⟨h1, h2, q⟩ := h
    walk_at "w"
    refine way_f ?_
    walk_at "w"
    rw [decide_eq_true h1]
    refine way_t ?_
    walk_at "w"
    rw [decide_eq_true h2]
    exact way_f q
  next => exact h.elim
abbrev CLf (K : PySem.W.Frag) : Addr := He.ga K "Leaf"
abbrev CGf (K : PySem.W.Frag) : Addr := He.ga K "Group"
abbrev MTk (K : PySem.W.Frag) : Hp → T → V → Prop := MT (CLf K) (CGf K)
abbrev MTsk (K : PySem.W.Frag) : Hp → List T → List V → Prop := MTs (CLf K) (CGf K)
theorem gfs_put (p r : Addr) (m : Nat) : putF "taken" (.int m) (putF "rows" (.ref r) (putF "picks" (.ref p) [])) = gfs p r m := by
  have e1 : ¬ (("picks" : Str) = "rows") := by decide +kernel
  have e2 : ¬ (("picks" : Str) = "taken") := by decide +kernel
  have e3 : ¬ (("rows" : Str) = "taken") := by decide +kernel
  simp only [putF, if_neg e1, if_neg e2, if_neg e3]
  rfl
def sp_Leaf___init__ (K : PySem.W.Frag) : Sp := fun vs H Q _ => match vs with
  | [.ref a, .str z] => ∃ dx, H a = some (.ins (CLf K) dx []) ∧ IsNm z ∧ ∀ H', SameX a H H' → H' a = some (.ins (CLf K) dx (lfs z)) → Q .non H'
  | _ => False
/-- Leaf(name) -/
def sp_Leaf (K : PySem.W.Frag) : Sp := fun vs H Q _ => match vs with
  | [.str z] => IsNm z ∧ ∀ v H', Same H H' → MTk K H' (.leaf z) v → Q v H'
  | _ => False
theorem mk_Leaf (tp : Top K mg) : MkN P w K mg base 3 "Leaf" (sp_Leaf K) := by
  refine mk_by (sp0 := sp_Leaf___init__ K) tp.m_Leaf___init__ tp.k_Leaf.1 tp.k_Leaf.2 tp.c_Leaf sc_Leaf___init__ (fun vs H Q E h => by unfold sp_Leaf___init__ at h; split at h <;> first | rfl | exact h.elim) (fun vs H Q h y dy hy hdy hne => ?_) (fun f cdv A outer s H vs Q E hr h => ⟨_, (pss_cons (ps_expr (g_call (ok_check_name tp) hr rfl (by omega) (pa_cons (gv 1) pa_nil))) (pss_one (k_fldS K rfl (gv 0) (gv 1) rfl))), ?_⟩)
  · unfold sp_Leaf at h
    split at h
    next z =>
      refine ⟨dy, upd_same, h.1, fun H' s1 h1 => ⟨rfl, h.2 _ _ (fun b o e => ?_) ⟨y, dy, rfl, h1⟩⟩⟩
      have n1 : b ≠ y := ne_of_none e hy
      exact s1 b o n1 (by rw [upd_ne n1, upd_ne (ne_of_none e hdy)]; exact e)
    next => exact h.elim
  · unfold sp_Leaf___init__ at h
    split at h
    next a z =>
      obtain ⟨dx, ha, hz, h⟩ := h
      walk_at "w"
      refine ⟨hz, fun H1 s1 => ?_⟩
      walk_at "w"
      refine ⟨_, dx, [], s1 _ _ ha, tp.i_Leaf.cl, tp.n_Leaf_label, (by decide), fun H2 s2 h2 => ?_⟩
      exact h H2 (fun b o n e => s2 b o n (s1 b o e)) h2
    next => exact h.elim
def sp_Leaf_width (K : PySem.W.Frag) : Sp := fun vs H Q _ => match vs with
  | [v] => ∃ z, MTk K H (.leaf z) v ∧ Q (.int 1) H
  | _ => False
theorem ok_Leaf_width (tp : Top K mg) : PrN P w K mg base 1 (CLf K) "width" (sp_Leaf_width K) := by
  refine pr_by tp.m_Leaf_width sc_Leaf_width (fun vs H Q E h => by unfold sp_Leaf_width at h; split at h <;> first | rfl | exact h.elim) (fun f cdv A outer s H vs Q E hr h => ⟨_, (pss_one (ps_ret pe_int)), ?_⟩)
  unfold sp_Leaf_width at h
  split at h
  · exact h.choose_spec.2
  · exact h.elim
def sp_Group_width (K : PySem.W.Frag) : Sp := fun vs H Q _ => match vs with
  | [v] => ∃ rk ps, MTk K H (.grp rk ps) v ∧ Q (.int rk.length) H
  | _ => False
theorem ok_Group_width (tp : Top K mg) : PrN P w K mg base 1 (CGf K) "width" (sp_Group_width K) := by
  refine pr_by tp.m_Group_width sc_Group_width (fun vs H Q E h => by unfold sp_Group_width at h; split at h <;> first | rfl | exact h.elim) (fun f cdv A outer s H vs Q E hr h => ⟨_, (pss_one (ps_ret (pe_callB (k_len K rfl) (by rfl) tp.b_len (by decide +kernel) (pa_cons (k_fld K rfl (gv 0) rfl) pa_nil)))), ?_⟩)
  unfold sp_Group_width at h
  split at h
  next v =>
    obtain ⟨rk, ps, ⟨a, dx, p, r, us, rfl, h1, h2, h3, h4⟩, q⟩ := h
    walk_at "w"
    refine ⟨_, dx, _, .ref p, h1, tp.i_Group.cl, tp.n_Group_picks, rfl, ?_⟩
    walk_at "w"
    refine ⟨_, Or.inr (SqT.of h2), ?_⟩
    rw [List.length_map]
    exact q
  next => exact h.elim
/-- x.width of a variable -/
theorem rd_width {K : PySem.W.Frag} {i : Nat} {σ : L2.St} {H : Hp} {Q : VK} {t : T} {v : V} (hi : σ[i]? = some (some v)) (m : MTk K H t v) (q : Q (.int t.width) H) :
    gProp (CLf K) (sp_Leaf_width K) (gVar i) σ H Q ∨ gProp (CGf K) (sp_Group_width K) (gVar i) σ H Q := by
  cases t with
  | leaf z =>
    have m' := m
    obtain ⟨a, dx, rfl, h⟩ := m
    left; unfold gProp gVar; rw [hi]
    exact ⟨dx, _, h, z, m', q⟩
  | grp rk ps =>
    have m' := m
    obtain ⟨a, dx, p, r, us, rfl, h, _⟩ := m
    right; unfold gProp gVar; rw [hi]
    exact ⟨dx, _, h, rk, ps, m', q⟩
def sp_Leaf_names (K : PySem.W.Frag) : Sp := fun vs H Q _ => match vs with
  | [v] => ∃ z, MTk K H (.leaf z) v ∧ ∀ p H', H p = none → Same H H' → H' p = some (.lst [.str z]) → Q (.ref p) H'
  | _ => False
theorem ok_Leaf_names (tp : Top K mg) : MtN P w K mg base 1 (CLf K) "names" [] (sp_Leaf_names K) := by
  refine mt_by tp.m_Leaf_names sc_Leaf_names (fun vs H Q E h => by unfold sp_Leaf_names at h; split at h <;> first | rfl | exact h.elim) (fun f cdv A outer s H vs Q E hr h => ⟨_, (pss_one (ps_ret (g_lst (pa_cons (k_fld K rfl (gv 0) rfl) pa_nil)))), ?_⟩)
  unfold sp_Leaf_names at h
  split at h
  next v =>
    obtain ⟨z, ⟨a, dx, rfl, h1⟩, q⟩ := h
    walk_at "w"
    refine ⟨_, dx, _, .str z, h1, tp.i_Leaf.cl, tp.n_Leaf_label, rfl, ?_⟩
    exact ⟨(by show 1 ≤ sizeLine; decide), q⟩
  next => exact h.elim
def sp_Group_names (K : PySem.W.Frag) (n : Nat) : Sp := fun vs H Q _ => match vs with
  | [v] => ∃ rk ps, MTk K H (.grp rk ps) v ∧ T.depthL ps < n ∧ (T.namesL ps).length ≤ 1000 ∧ ∀ p H', H p = none → Same H H' → H' p = some (.lst ((T.namesL ps).map V.str)) → Q (.ref p) H'
  | _ => False
theorem T.namesL_take {ts : List T} {i : Nat} {t : T} (h : ts[i]? = some t) : T.namesL (ts.take (i + 1)) = T.namesL (ts.take i) ++ t.names := by
  rw [List.take_add_one, h, T.namesL_eq, T.namesL_eq, List.flatMap_append]
  simp
theorem T.namesL_take_le {ts : List T} (i : Nat) : (T.namesL (ts.take i)).length ≤ (T.namesL ts).length := by
  have : T.namesL ts = T.namesL (ts.take i) ++ T.namesL (ts.drop i) := by
    rw [T.namesL_eq, T.namesL_eq, T.namesL_eq, ← List.flatMap_append, List.take_append_drop]
  rw [this, List.length_append]; omega
theorem ok_Group_names (tp : Top K mg) : ∀ n, MtN P w K mg base (n + 1) (CGf K) "names" [] (sp_Group_names K n)
  | 0 => by
    refine mt_by tp.m_Group_names sc_Group_names (fun vs H Q E h => by unfold sp_Group_names at h; split at h <;> first | rfl | exact h.elim) (fun f cdv A outer s H vs Q E hr h => ?_)
    exfalso
    unfold sp_Group_names at h
    split at h
    next v => obtain ⟨rk, ps, _, h, _⟩ := h; omega
    next => exact h
  | n + 1 => by
    have ih := ok_Group_names tp n
    have okL : MtN P w K mg base (n + 1) (CLf K) "names" [] (sp_Leaf_names K) := (ok_Leaf_names tp).up (by omega)
    refine mt_by tp.m_Group_names sc_Group_names (fun vs H Q E h => by unfold sp_Group_names at h; split at h <;> first | rfl | exact h.elim) (fun f cdv A outer s H vs Q E hr h => ⟨_, (pss_one (ps_ret (g_lc2 rfl sc_Group_names.nd (kw_tup K rfl (k_fld K rfl (gv 0) rfl)) (blkOk_by (own := [("part", 1), ("name", 2)]) (N := (["self", "part", "name"] : List Str)) (sc := defScope s_Group_names) (by decide +kernel)) (vs1 := [2]) (by decide) (fun _ _ _ _ _ => pg_name (i := 1) sc_Group_names.nd rfl (by first | exact Or.inl rfl | exact Or.inr rfl)) (fun _ _ _ _ _ => (kw_list K rfl (PEor (g_meth0 (okL) hr (by omega) (gv 1)) (g_meth0 (ih) hr (by omega) (gv 1))))) (fun _ _ _ _ _ => pg_name (i := 2) sc_Group_names.nd rfl (by first | exact Or.inl rfl | exact Or.inr rfl)) (fun _ _ _ _ _ => (gv 2))))), ?_⟩)
    unfold sp_Group_names at h
    split at h
    next v =>
      obtain ⟨rk, ps, ⟨a, dx, p, r, us, rfl, h1, h2, h3, h4⟩, hd, hz, q⟩ := h
      have hus := h4.length
      walk_at "w"
      refine ⟨_, dx, _, .ref r, h1, tp.i_Group.cl, tp.n_Group_rows, rfl, ?_⟩
      walk_at "w"
      refine comp2_tup (xs := us) (fun i acc G => Same H G ∧ acc = (T.namesL (ps.take i)).map V.str) ⟨Same.refl _, rfl⟩ (fun i acc G f => SqT.of (f.1 _ _ h3)) (fun D i x acc H' hx hD hDl f => ⟨rfl, ?_⟩) (fun D H' acc hD hDl f => ?_)
      · obtain ⟨s1, rfl⟩ := f
        obtain ⟨t, ht, mt⟩ := (h4.mono (s1.trans off_same)).at_ hx
        have tl := T.namesL_take ht
        have le1 := T.namesL_take_le (ts := ps) (i + 1)
        have main : ∀ b H4, H' b = none → Same H' H4 → H4 b = some (.lst (t.names.map V.str)) → (∃ ys, SqL K H4 b ys) ∧ Inner 2 (gVar 2) [2] [some (.ref a), some x, none] D ((T.namesL (ps.take i)).map V.str) (fun acc G => Same H G ∧ acc = (T.namesL (ps.take (i + 1))).map V.str) (Itl K b) H4 := fun b H4 hb s2 h5 => by
          have hne : b ≠ D := (ne_of_none hDl hb).symm
          refine inner_flat (s2 _ _ hDl) (SqL.of (by rw [off_at hne]; exact h5)) ?_ (fun z => rfl) (fun z => rfl) (fun G s3 => ⟨s1.trans ((off_mono s2).trans s3), by rw [tl, List.map_append]⟩)
          rw [List.length_map, List.length_map]
          rw [tl, List.length_append] at le1
          exact Nat.lt_of_le_of_lt (Nat.le_trans le1 hz) (by decide)
        cases t with
        | leaf z =>
          obtain ⟨b, dy, rfl, hb⟩ := mt
          left
          exact ⟨dy, _, hb, rfl, z, ⟨b, dy, rfl, hb⟩, main⟩
        | grp rk2 ps2 =>
          have mt' := mt
          obtain ⟨b, dy, p2, r2, us2, rfl, hb, _⟩ := mt
          have hdt := T.depthL_le (List.mem_of_getElem? ht)
          rw [T.depth] at hdt
          right
          refine ⟨dy, _, hb, rfl, rk2, ps2, mt', by omega, ?_, ?_⟩
          · rw [tl, List.length_append, T.names] at le1; omega
          · exact main
      · obtain ⟨s1, rfl⟩ := f
        refine q D H' hD (s1.trans off_same) ?_
        rw [hDl, hus, List.take_length]
    next => exact h.elim
/-- parts that may stand in one group -/
structure PtsOk (ts : List T) : Prop where
  ne : ts ≠ []
  nd : (T.namesL ts).Nodup
  dp : T.depthL ts < 45
  sz : (T.namesL ts).length ≤ 1000
  tk : T.taken ts ≤ 1000
  ln : ts.length ≤ 1000
def sp_are_parts (K : PySem.W.Frag) : Sp := fun vs H Q _ => match vs with
  | [.ref p] => ∃ us ts, H p = some (.lst us) ∧ MTsk K H ts us ∧ PtsOk ts ∧ ∀ H', Same H H' → Q (.bl true) H'
  | _ => False
theorem lt1000 {n : Nat} (h : n ≤ 1000) : n < sizeLine := Nat.lt_of_le_of_lt h (by decide)
/-- x.names() of a variable, as a list to be walked -/
theorem rd_names {K : PySem.W.Frag} {i : Nat} {σ : L2.St} {H : Hp} {Q : VK} {t : T} {v : V} {n : Nat} (hi : σ[i]? = some (some v)) (m : MTk K H t v) (hd : t.depth ≤ n) (hz : t.names.length ≤ 1000) (q : ∀ p H', H p = none → Same H H' → H' p = some (.lst (t.names.map V.str)) → Q (.ref p) H') :
    gMeth (CLf K) "names" (sp_Leaf_names K) [] (gVar i) tNil σ H Q ∨ gMeth (CGf K) "names" (sp_Group_names K n) [] (gVar i) tNil σ H Q := by
  cases t with
  | leaf z =>
    have m' := m
    obtain ⟨a, dx, rfl, h⟩ := m
    left; unfold gMeth gVar; rw [hi]
    exact ⟨dx, _, h, rfl, z, m', q⟩
  | grp rk ps =>
    have m' := m
    obtain ⟨a, dx, p, r, us, rfl, h, _⟩ := m
    right; unfold gMeth gVar; rw [hi]
    rw [T.depth] at hd
    rw [T.names] at hz
    exact ⟨dx, _, h, rfl, rk, ps, m', by omega, hz, q⟩
theorem is_tree {K : PySem.W.Frag} {mg : Str → Option Value} (tp : Top K mg) {H : Hp} {t : T} {v : V} (m : MTk K H t v) : IsT K H v (.ref (He.ga K "Tree")) true := by
  cases t with
  | leaf z => obtain ⟨a, dx, rfl, h⟩ := m; exact is_own h tp.i_Leaf tp.kit_Leaf_Tree
  | grp rk ps => obtain ⟨a, dx, p, r, us, rfl, h, _⟩ := m; exact is_own h tp.i_Group tp.kit_Group_Tree
theorem ok_are_parts (tp : Top K mg) : FnN P w K mg base 47 "are_parts" [] (sp_are_parts K) := by
  refine fn_by tp.f_are_parts sc_are_parts (fun vs H Q E h => by unfold sp_are_parts at h; split at h <;> first | rfl | exact h.elim) (fun f cdv A outer s H vs Q E hr h => ⟨_, (pss_cons (g_if (PW.pt (g_or (pt_not (g_val (pe_callB (k_isi K rfl) (by rfl) tp.b_isinstance (by decide +kernel) (pa_cons (gv 0) (pa_cons (pe_bltn (v := .ty "list") rfl tp.b_list (by decide +kernel) rfl) pa_nil))))) (g_or (g_cmp (k_eqG K rfl hr.units) (gv 0) (g_lst pa_nil) (nomark _)) (pw_or1 (g_cmp (k_neG K rfl hr.units) (g_lc rfl sc_are_parts.nd (kw_list K rfl (gv 0)) (blkOk_by (own := [("part", 2)]) (N := (["value", "names", "part", "name"] : List Str)) (sc := defScope s_are_parts) (by decide +kernel)) (fun _ _ _ _ _ => pg_name (i := 2) sc_are_parts.nd rfl (by first | exact Or.inl rfl | exact Or.inr rfl)) (fun _ _ _ _ _ => (pts_one (pt_not (g_val (pe_callB (k_isi K rfl) (by rfl) tp.b_isinstance (by decide +kernel) (pa_cons (gv 2) (pa_cons (pe_glob (v := .ref _) rfl tp.c_Tree rfl) pa_nil))))))) (fun _ _ _ _ _ => (gv 2))) (g_lst pa_nil) (nomark _)))))) (pss_one (ps_ret pe_bl)) pss_nil) (pss_cons (g_setLc2 (i := 1) rfl sc_are_parts.nd rfl rfl (sw_true rfl rfl rfl (by decide +kernel)) (kw_list K rfl (gv 0)) (blkOk_by (own := [("part", 2), ("name", 3)]) (N := (["value", "names", "part", "name"] : List Str)) (sc := defScope s_are_parts) (by decide +kernel)) (vs1 := [3]) (by decide) (fun _ _ _ _ _ => pg_name (i := 2) sc_are_parts.nd rfl (by first | exact Or.inl rfl | exact Or.inr rfl)) (fun _ _ _ _ _ => (kw_list K rfl (PEor (g_meth0 (ok_Leaf_names tp) hr (by omega) (gv 2)) (g_meth0 (ok_Group_names tp 45) hr (by omega) (gv 2))))) (fun _ _ _ _ _ => pg_name (i := 3) sc_are_parts.nd rfl (by first | exact Or.inl rfl | exact Or.inr rfl)) (fun _ _ _ _ _ => (gv 3))) (pss_one (ps_ret (g_cmpV (k_eqG K rfl hr.units) (k_lenSet K rfl rfl tp.b_len rfl tp.b_set (gv 1) rfl) (pe_callB (k_len K rfl) (by rfl) tp.b_len (by decide +kernel) (pa_cons (gv 1) pa_nil)) (nomark _)))))), ?_⟩)
  unfold sp_are_parts at h
  split at h
  next p =>
    obtain ⟨us, ts, hp, hm, ok, q⟩ := h
    have hl := hm.length
    have hne : us ≠ [] := by rintro rfl; exact ok.ne (List.length_eq_zero_iff.mp (by simpa using hl.symm))
    walk_at "w"
    refine ⟨_, is_ll hp, way_f ?_⟩
    walk_at "w"
    refine ⟨(by show 0 ≤ sizeLine; decide), fun p1 H1 hp1 s1 h1 => Or.inl ⟨us, SqL.of (s1 _ _ hp), h1, ?_⟩⟩
    rw [List.isEmpty_eq_false_iff.mpr hne]
    refine way_f ?_
    walk_at "w"
    refine comp_list (xs := us) (fun i acc G => Same H1 G ∧ acc = []) (by rw [hl]; exact lt1000 ok.ln) ⟨Same.refl _, rfl⟩ (fun i acc G f => SqL.of (f.1 _ _ (s1 _ _ hp))) (fun D i x acc H' hx hD hDl hq f => ⟨rfl, ?_⟩) (fun D H' acc hD hDl hq f => ?_)
    · obtain ⟨s2, rfl⟩ := f
      obtain ⟨t, ht, mt⟩ := (hm.mono (s1.trans (s2.trans off_same))).at_ hx
      walk_at "w"
      exact ⟨_, is_tree tp mt, way_f ⟨hDl, s2, rfl⟩⟩
    · obtain ⟨s2, rfl⟩ := f
      have s3 : Same H H' := s1.trans (s2.trans off_same)
      walk_at "w"
      refine ⟨(by show 0 ≤ sizeLine; decide), fun p2 H2 hp2 s4 h2 => Or.inl ⟨[], SqL.of (s4 _ _ hDl), h2, ?_⟩⟩
      refine way_f ?_
      have s5 : Same H H2 := s3.trans s4
      walk_at "w"
      refine comp2_list (xs := us) (fun i acc G => Same H2 G ∧ acc = (T.namesL (ts.take i)).map V.str) ⟨Same.refl _, rfl⟩ (fun i acc G f => SqL.of (f.1 _ _ (s5 _ _ hp))) (fun D i x acc H' hx hD hDl f => ⟨rfl, ?_⟩) (fun D H' acc hD hDl f => ?_)
      · obtain ⟨s6, rfl⟩ := f
        obtain ⟨t, ht, mt⟩ := (hm.mono (s5.trans (s6.trans off_same))).at_ hx
        have tl := T.namesL_take ht
        have le1 := T.namesL_take_le (ts := ts) (i + 1)
        rw [tl, List.length_append] at le1
        have hz := ok.sz
        have hd := T.depthL_le (List.mem_of_getElem? ht)
        have dp := ok.dp
        refine rd_names (i := 2) (n := 45) rfl mt (by omega) (by omega) fun b H4 hb s7 h5 => ?_
        have hbD : b ≠ D := (ne_of_none hDl hb).symm
        refine inner_flat (s7 _ _ hDl) (SqL.of (by rw [off_at hbD]; exact h5)) ?_ (fun z => rfl) (fun z => rfl) (fun G s8 => ⟨s6.trans ((off_mono s7).trans s8), by rw [tl, List.map_append]⟩)
        rw [List.length_map, List.length_map]
        exact lt1000 (by omega)
      · obtain ⟨s6, rfl⟩ := f
        have s7 : Same H H' := s5.trans (s6.trans off_same)
        rw [hl, List.take_length] at hDl
        walk_at "w"
        refine ⟨T.namesL ts, SqL.of hDl, Nat.le_trans ok.sz (by decide), ?_⟩
        walk_at "w"
        refine ⟨_, Or.inl (SqL.of hDl), ?_⟩
        rw [List.length_map, dd_nodup_eq _ _ rfl ok.nd]
        have e : decide (((T.namesL ts).length : Int) = ((T.namesL ts).length : Int)) = true := decide_eq_true rfl
        have z := q H' s7
        rw [← e] at z
        exact z
  next => exact h.elim
def sp_is_group (K : PySem.W.Frag) : Sp := fun vs H Q _ => match vs with
  | [.ref rp, .ref pp] => ∃ rk us ts, H rp = some (.lst (rk.map V.int)) ∧ H pp = some (.lst us) ∧ MTsk K H ts us ∧ PtsOk ts ∧ RkOk rk (T.taken ts) ∧ rk.length ≤ 1000 ∧ ∀ H', Same H H' → Q (.bl true) H'
  | _ => False
theorem last_at {α : Type} {xs : List α} (h : xs ≠ []) : ∃ v, v ∈ xs ∧ atI xs (-1) = some v :=
  ⟨xs.getLast h, List.getLast_mem h, by
    have e := atI_last xs.dropLast (xs.getLast h)
    rw [List.dropLast_concat_getLast] at e
    exact e⟩
theorem ok_is_group (tp : Top K mg) : FnN P w K mg base 48 "is_group" [] (sp_is_group K) := by
  refine fn_by tp.f_is_group sc_is_group (fun vs H Q E h => by unfold sp_is_group at h; split at h <;> first | rfl | exact h.elim) (fun f cdv A outer s H vs Q E hr h => ⟨_, (pss_cons (g_if (PW.pt (g_or (pt_not (g_val (g_call (ok_are_parts tp) hr rfl (by omega) (pa_cons (gv 1) pa_nil)))) (g_or (pt_not (g_val (g_call (ok_is_ascending tp) hr rfl (by omega) (pa_cons (gv 0) pa_nil)))) (pw_or1 (g_cmp (k_eqG K rfl hr.units) (gv 0) (g_lst pa_nil) (nomark _)))))) (pss_one (ps_ret pe_bl)) pss_nil) (pss_one (ps_ret (g_andV (g_cmpV op_geG (pe_ix (k_ix K rfl) (gv 0) pe_int (fun _ _ => rfl)) pe_int (nomark _)) (pe_one (g_cmpV op_leG (pe_ix (k_ix K rfl) (gv 0) (pe_un un_negG pe_int) (fun _ _ => rfl)) (pe_callB (k_sum K rfl rfl) (by rfl) tp.b_sum (by decide +kernel) (pa_cons (g_lc rfl sc_is_group.nd (kw_list K rfl (gv 1)) (blkOk_by (own := [("part", 2)]) (N := (["ranks", "parts", "part"] : List Str)) (sc := defScope s_is_group) (by decide +kernel)) (fun _ _ _ _ _ => pg_name (i := 2) sc_is_group.nd rfl (by first | exact Or.inl rfl | exact Or.inr rfl)) (fun _ _ _ _ _ => pts_nil) (fun _ _ _ _ _ => (PEor (g_prop (ok_Leaf_width tp) hr (by omega) (gv 2) rfl) (g_prop (ok_Group_width tp) hr (by omega) (gv 2) rfl)))) pa_nil)) (nomark _))))))), ?_⟩)
  unfold sp_is_group at h
  split at h
  next rp pp =>
    obtain ⟨rk, us, ts, hr1, hp, hm, ok, rok, hrl, q⟩ := h
    have hl := hm.length
    walk_at "w"
    refine ⟨us, ts, hp, hm, ok, fun H1 s1 => ?_⟩
    refine way_f ?_
    walk_at "w"
    refine ⟨rk, s1 _ _ hr1, rok.asc, hrl, fun H2 s2 => ?_⟩
    refine way_f ?_
    have s3 := s1.trans s2
    walk_at "w"
    refine ⟨(by show 0 ≤ sizeLine; decide), fun p1 H3 hp1 s4 h3 => Or.inl ⟨rk.map V.int, SqL.of (s4 _ _ (s3 _ _ hr1)), h3, ?_⟩⟩
    have s5 := s3.trans s4
    have rne : (rk.map V.int).isEmpty = false := by
      rw [List.isEmpty_eq_false_iff]
      intro z; exact rok.ne (List.map_eq_nil_iff.mp z)
    rw [rne]
    refine way_f ?_
    obtain ⟨r0, rs, e⟩ : ∃ r0 rs, rk = r0 :: rs := by
      cases rk with
      | nil => exact absurd rfl rok.ne
      | cons a b => exact ⟨a, b, rfl⟩
    have h0 : (1 : Int) ≤ r0 := rok.lo r0 (by rw [e]; exact List.mem_cons_self ..)
    walk_at "w"
    refine ⟨rk.map V.int, .int r0, Or.inl (SqL.of (s5 _ _ hr1)), at_of (j := 0) rfl (by rw [e]; rfl), ?_⟩
    walk_at "w"
    rw [decide_eq_true h0]
    refine way_t ?_
    obtain ⟨rl, hrm, hlast⟩ := last_at (xs := rk.map V.int) (by intro z; exact rok.ne (List.map_eq_nil_iff.mp z))
    obtain ⟨r1, hr1m, rfl⟩ := List.mem_map.mp hrm
    walk_at "w"
    refine ⟨rk.map V.int, .int r1, Or.inl (SqL.of (s5 _ _ hr1)), hlast, ?_⟩
    walk_at "w"
    refine comp_list (xs := us) (fun i acc G => Same H3 G ∧ acc = (ts.take i).map fun t => V.int t.width) (by rw [hl]; exact lt1000 ok.ln) ⟨Same.refl _, rfl⟩ (fun i acc G f => SqL.of (f.1 _ _ (s5 _ _ hp))) (fun D i x acc H' hx hD hDl hq f => ⟨rfl, ?_⟩) (fun D H' acc hD hDl hq f => ?_)
    · obtain ⟨s6, rfl⟩ := f
      obtain ⟨t, ht, mt⟩ := (hm.mono (s5.trans (s6.trans off_same))).at_ hx
      refine way_t (rd_width (i := 2) rfl mt ⟨hDl, s6, ?_⟩)
      rw [List.take_add_one, ht, List.map_append]
      rfl
    · obtain ⟨s6, rfl⟩ := f
      rw [hl, List.take_length] at hDl
      walk_at "w"
      refine ⟨ts.map fun t => (t.width : Int), SqL.of (by rw [List.map_map]; exact hDl), ?_⟩
      have z := q H' (s5.trans (s6.trans off_same))
      have e2 : decide (r1 ≤ (ts.map fun t => (t.width : Int)).sum) = true := decide_eq_true (by rw [← T.taken_eq]; exact rok.hi r1 hr1m)
      rw [← e2] at z
      exact z
  next => exact h.elim
/-- Group(ranks, parts) -/
def sp_Group (K : PySem.W.Frag) : Sp := fun vs H Q _ => match vs with
  | [.ref rp, .ref pp] => ∃ rk us ts, H rp = some (.lst (rk.map V.int)) ∧ H pp = some (.lst us) ∧ MTsk K H ts us ∧ PtsOk ts ∧ RkOk rk (T.taken ts) ∧ rk.length ≤ 1000 ∧ ∀ v H', Same H H' → MTk K H' (.grp rk ts) v → Q v H'
  | _ => False
def sp_Group___init__ (K : PySem.W.Frag) : Sp := fun vs H Q _ => match vs with
  | [.ref a, .ref rp, .ref pp] => ∃ dx H0 rk us ts, H a = some (.ins (CGf K) dx []) ∧ H0 a = none ∧ Same H0 H ∧ H0 rp = some (.lst (rk.map V.int)) ∧ H0 pp = some (.lst us) ∧ MTsk K H0 ts us ∧ PtsOk ts ∧ RkOk rk (T.taken ts) ∧ rk.length ≤ 1000 ∧
    ∀ H', Same H0 H' → MTk K H' (.grp rk ts) (.ref a) → Q .non H'
  | _ => False
theorem mk_Group (tp : Top K mg) : MkN P w K mg base 49 "Group" (sp_Group K) := by
  refine mk_by (sp0 := sp_Group___init__ K) tp.m_Group___init__ tp.k_Group.1 tp.k_Group.2 tp.c_Group sc_Group___init__ (fun vs H Q E h => by unfold sp_Group___init__ at h; split at h <;> first | rfl | exact h.elim) (fun vs H Q h y dy hy hdy hne => ?_) (fun f cdv A outer s H vs Q E hr h => ⟨_, (pss_cons (g_if (pt_not (g_val (g_call (ok_is_group tp) hr rfl (by omega) (pa_cons (gv 1) (pa_cons (gv 2) pa_nil))))) (pss_one ps_never) pss_nil) (pss_cons (k_fldS K rfl (gv 0) (pe_callTy (k_tuple K rfl) (by rfl) tp.b_tuple (by decide +kernel) (pa_cons (gv 1) pa_nil)) rfl) (pss_cons (k_fldS K rfl (gv 0) (pe_callTy (k_tuple K rfl) (by rfl) tp.b_tuple (by decide +kernel) (pa_cons (gv 2) pa_nil)) rfl) (pss_one (k_fldS K rfl (gv 0) (pe_callB (k_sum K rfl rfl) (by rfl) tp.b_sum (by decide +kernel) (pa_cons (g_lc rfl sc_Group___init__.nd (kw_list K rfl (gv 2)) (blkOk_by (own := [("part", 3)]) (N := (["self", "ranks", "parts", "part"] : List Str)) (sc := defScope s_Group___init__) (by decide +kernel)) (fun _ _ _ _ _ => pg_name (i := 3) sc_Group___init__.nd rfl (by first | exact Or.inl rfl | exact Or.inr rfl)) (fun _ _ _ _ _ => pts_nil) (fun _ _ _ _ _ => (PEor (g_prop (ok_Leaf_width tp) hr (by omega) (gv 3) rfl) (g_prop (ok_Group_width tp) hr (by omega) (gv 3) rfl)))) pa_nil)) rfl))))), ?_⟩)
  · unfold sp_Group at h
    split at h
    next rp pp =>
      obtain ⟨rk, us, ts, h1, h2, h3, h4, h5, h6, q⟩ := h
      exact ⟨dy, H, rk, us, ts, upd_same, hy, fun b o e => by rw [upd_ne (ne_of_none e hy), upd_ne (ne_of_none e hdy)]; exact e, h1, h2, h3, h4, h5, h6, fun H' s1 m => ⟨rfl, q _ H' s1 m⟩⟩
    next => exact h.elim
  · unfold sp_Group___init__ at h
    split at h
    next a rp pp =>
      obtain ⟨dx, H0, rk, us, ts, ha, h0a, s0, h1, h2, h3, ok, rok, hrl, q⟩ := h
      have hl := h3.length
      walk_at "w"
      refine ⟨rk, us, ts, s0 _ _ h1, s0 _ _ h2, h3.mono s0, ok, rok, hrl, fun H1 s1 => ?_⟩
      refine way_f ?_
      have s2 := s0.trans s1
      walk_at "w"
      refine ⟨_, SqL.of (s2 _ _ h1), fun p2 H2 hp2 s3 e2 => ?_⟩
      have n0 : ∀ {H' : Hp} {b : Addr}, Same H1 H' → H' b = none → b ≠ a := fun {H' b} s hb => by
        rintro rfl
        rw [s _ _ (s1 _ _ ha)] at hb; cases hb
      refine ⟨_, dx, [], s3 _ _ (s1 _ _ ha), tp.i_Group.cl, tp.n_Group_picks, (by decide), fun H3 s4 e3 => ?_⟩
      have s5 : Same H0 H3 := SameX.un (s2.trans s3) h0a s4
      have n2 : p2 ≠ a := n0 (Same.refl _) hp2
      have e2' : H3 p2 = some (.tup (rk.map V.int)) := s4 _ _ n2 e2
      walk_at "w"
      refine ⟨_, SqL.of (s5 _ _ h2), fun p4 H4 hp4 s6 e4 => ?_⟩
      have n4 : p4 ≠ a := by rintro rfl; rw [e3] at hp4; cases hp4
      refine ⟨_, dx, _, s6 _ _ e3, tp.i_Group.cl, tp.n_Group_rows, (by show 1 < 1000; decide), fun H5 s7 e5 => ?_⟩
      have s8 : Same H0 H5 := SameX.un (s5.trans s6) h0a s7
      have e2'' : H5 p2 = some (.tup (rk.map V.int)) := s7 _ _ n2 (s6 _ _ e2')
      have e4' : H5 p4 = some (.tup us) := s7 _ _ n4 e4
      walk_at "w"
      refine comp_list (xs := us) (fun i acc G => Same H5 G ∧ acc = (ts.take i).map fun t => V.int t.width) (by rw [hl]; exact lt1000 ok.ln) ⟨Same.refl _, rfl⟩ (fun i acc G f => SqL.of (f.1 _ _ (s8 _ _ h2))) (fun D i x acc H' hx hD hDl hq f => ⟨rfl, ?_⟩) (fun D H' acc hD hDl hq f => ?_)
      · obtain ⟨s9, rfl⟩ := f
        obtain ⟨t, ht, mt⟩ := (h3.mono (s8.trans (s9.trans off_same))).at_ hx
        refine way_t (rd_width (i := 3) rfl mt ⟨hDl, s9, ?_⟩)
        rw [List.take_add_one, ht, List.map_append]
        rfl
      · obtain ⟨s9, rfl⟩ := f
        rw [hl, List.take_length] at hDl
        have s10 : Same H5 H' := s9.trans off_same
        walk_at "w"
        refine ⟨ts.map fun t => (t.width : Int), SqL.of (by rw [List.map_map]; exact hDl), ?_⟩
        refine ⟨_, dx, _, s10 _ _ e5, tp.i_Group.cl, tp.n_Group_taken, ?_, fun H6 s11 e6 => ?_⟩
        · have e1 : ¬ (("picks" : Str) = "rows") := by decide +kernel
          simp only [putF, if_neg e1]
          show 2 < 1000
          decide
        · have s12 : Same H0 H6 := SameX.un (s8.trans s10) h0a s11
          refine q H6 s12 ⟨a, dx, p2, p4, us, rfl, ?_, s11 _ _ n2 (s10 _ _ e2''), s11 _ _ n4 (s10 _ _ e4'), h3.mono s12⟩
          rw [← gfs_put, e6, T.taken_eq]
    next => exact h.elim
end LW
namespace LW
open PySem PySem.Spec L2 GG
variable {P : Program} {w : World} {K : PySem.W.Frag} {mg : Str → Option Value} {base : Heap}
theorem _root_.GG.T.Gd.pts {rk : List Int} {ps : List T} (g : (T.grp rk ps).Gd) : PtsOk ps ∧ RkOk rk (T.taken ps) ∧ rk.length ≤ 1000 := by
  have s := g.sh
  rw [T.Sh] at s
  have n := g.nd
  rw [T.names] at n
  have z := g.sz
  rw [T.names] at z
  have d := g.dp
  rw [T.depth] at d
  have t := T.taken_le s.2.2
  have r := s.2.1.len
  exact ⟨⟨s.1, n, by omega, z, by omega, by omega⟩, s.2.1, by omega⟩
theorem pos_len {α : Type} {l : List α} (h : l ≠ []) : 0 < l.length := by
  rcases Nat.eq_zero_or_pos l.length with z | z
  · exact absurd (List.length_eq_zero_iff.mp z) h
  · exact z
theorem filt_take {α : Type} {l : List α} {p : α → Bool} {i : Nat} {x : α} (h : l[i]? = some x) : (l.take (i + 1)).filter p = (l.take i).filter p ++ (if p x = true then [x] else []) := by
  rw [List.take_add_one, h, List.filter_append]
  congr 1
  show List.filter p [x] = _
  rw [List.filter_cons, List.filter_nil]
theorem T.taken_take_le : ∀ (ts : List T) (i : Nat), T.taken (ts.take i) ≤ T.taken ts
  | [], i => by rw [List.take_nil]; exact Nat.le_refl _
  | t :: ts, 0 => Nat.zero_le _
  | t :: ts, i + 1 => by
    have := T.taken_take_le ts i
    rw [List.take_succ_cons, T.taken, T.taken]; omega
theorem is_leafT {K : PySem.W.Frag} {mg : Str → Option Value} (tp : Top K mg) {H : Hp} {t : T} {v : V} (m : MTk K H t v) : IsT K H v (.ref (He.ga K "Leaf")) (match t with | .leaf _ => true | .grp _ _ => false) := by
  cases t with
  | leaf z => obtain ⟨a, dx, rfl, h⟩ := m; exact is_own h tp.i_Leaf tp.kit_Leaf_Leaf
  | grp rk ps => obtain ⟨a, dx, p, r, us, rfl, h, _⟩ := m; exact is_own h tp.i_Group tp.kit_Group_Leaf
theorem getD_map {l : List Int} {i : Nat} (h : i < l.length) : (l.map V.int)[i]? = some (.int (l.getD i 0)) := by
  rw [List.getElem?_map, List.getElem?_eq_getElem h]
  simp [List.getD_eq_getElem?_getD, h]
theorem lt1000x {n : Nat} (h : n ≤ 100000) : n < sizeLine := Nat.lt_of_le_of_lt h (by decide)
def sp_Group_ranks (K : PySem.W.Frag) : Sp := fun vs H Q _ => match vs with
  | [v] => ∃ rk ps, MTk K H (.grp rk ps) v ∧ ∀ p H', H p = none → Same H H' → H' p = some (.lst (rk.map V.int)) → Q (.ref p) H'
  | _ => False
theorem ok_Group_ranks (tp : Top K mg) : PrN P w K mg base 1 (CGf K) "ranks" (sp_Group_ranks K) := by
  refine pr_by tp.m_Group_ranks sc_Group_ranks (fun vs H Q E h => by unfold sp_Group_ranks at h; split at h <;> first | rfl | exact h.elim) (fun f cdv A outer s H vs Q E hr h => ⟨_, (pss_one (ps_ret (pe_callTy (k_list K rfl) (by rfl) tp.b_list (by decide +kernel) (pa_cons (k_fld K rfl (gv 0) rfl) pa_nil)))), ?_⟩)
  unfold sp_Group_ranks at h
  split at h
  next v =>
    obtain ⟨rk, ps, ⟨a, dx, p, r, us, rfl, h1, h2, h3, h4⟩, q⟩ := h
    walk_at "w"
    refine ⟨_, dx, _, .ref p, h1, tp.i_Group.cl, tp.n_Group_picks, rfl, ?_⟩
    exact ⟨_, Or.inr (SqT.of h2), q⟩
  next => exact h.elim
def sp_Group_parts (K : PySem.W.Frag) : Sp := fun vs H Q _ => match vs with
  | [v] => ∃ rk ps, MTk K H (.grp rk ps) v ∧ ∀ p us H', H p = none → Same H H' → MTsk K H ps us → H' p = some (.lst us) → Q (.ref p) H'
  | _ => False
theorem ok_Group_parts (tp : Top K mg) : PrN P w K mg base 1 (CGf K) "parts" (sp_Group_parts K) := by
  refine pr_by tp.m_Group_parts sc_Group_parts (fun vs H Q E h => by unfold sp_Group_parts at h; split at h <;> first | rfl | exact h.elim) (fun f cdv A outer s H vs Q E hr h => ⟨_, (pss_one (ps_ret (pe_callTy (k_list K rfl) (by rfl) tp.b_list (by decide +kernel) (pa_cons (k_fld K rfl (gv 0) rfl) pa_nil)))), ?_⟩)
  unfold sp_Group_parts at h
  split at h
  next v =>
    obtain ⟨rk, ps, ⟨a, dx, p, r, us, rfl, h1, h2, h3, h4⟩, q⟩ := h
    walk_at "w"
    refine ⟨_, dx, _, .ref r, h1, tp.i_Group.cl, tp.n_Group_rows, rfl, ?_⟩
    exact ⟨_, Or.inr (SqT.of h3), fun p2 H2 a b c => q p2 us H2 a b h4 c⟩
  next => exact h.elim
end LW
namespace LW
open PySem PySem.Spec L2 GG
variable {P : Program} {w : World} {K : PySem.W.Frag} {mg : Str → Option Value} {base : Heap}
theorem map_atG {α : Type} {f : α → V} {l : List α} {i : Nat} {x : V} (h : (l.map f)[i]? = some x) : ∃ a, l[i]? = some a ∧ x = f a := by
  rw [List.getElem?_map] at h
  cases e : l[i]? with
  | none => rw [e] at h; cases h
  | some a => rw [e] at h; exact ⟨a, rfl, (Option.some.inj h).symm⟩
def sp__law_width (K : PySem.W.Frag) : Sp := fun vs H Q _ => match vs with
  | [v] => ∃ t, LT H t v ∧ Q (.int t.width) H
  | _ => False
theorem ok__law_width (tp : Top K mg) : FnN P w K mg base 1 "_law_width" [] (sp__law_width K) := by
  refine fn_by tp.f__law_width sc__law_width (fun vs H Q E h => by unfold sp__law_width at h; split at h <;> first | rfl | exact h.elim) (fun f cdv A outer s H vs Q E hr h => ⟨_, (pss_one (ps_ret (g_ifE (g_val (pe_callB (k_isi K rfl) (by rfl) tp.b_isinstance (by decide +kernel) (pa_cons (gv 0) (pa_cons (pe_bltn (v := .ty "str") rfl tp.b_str (by decide +kernel) rfl) pa_nil)))) pe_int (pe_callB (k_len K rfl) (by rfl) tp.b_len (by decide +kernel) (pa_cons (pe_ix (k_ix K rfl) (gv 0) pe_int (fun _ _ => rfl)) pa_nil))))), ?_⟩)
  unfold sp__law_width at h
  split at h
  next v =>
    obtain ⟨t, m, k⟩ := h
    cases t with
    | leaf z =>
      obtain rfl : v = .str z := m
      walk_at "w"
      exact ⟨_, is_ss, way_t k⟩
    | grp rk ps =>
      obtain ⟨a, r, p, us, rfl, h1, h2, h3, h4⟩ := m
      walk_at "w"
      refine ⟨_, is_ts h1, way_f ?_⟩
      walk_at "w"
      refine ⟨_, .ref r, Or.inr (SqT.of h1), at_of (j := 1) rfl rfl, ?_⟩
      walk_at "w"
      refine ⟨_, Or.inl (SqL.of h2), ?_⟩
      rw [List.length_map]
      exact k
  next => exact h.elim
def sp__law_names (K : PySem.W.Frag) (n : Nat) : Sp := fun vs H Q _ => match vs with
  | [v] => ∃ t, LT H t v ∧ t.depth < n ∧ t.names.length ≤ 1000 ∧ ∀ p H', H p = none → Same H H' → H' p = some (.lst (t.names.map V.str)) → Q (.ref p) H'
  | _ => False
theorem ok__law_names (tp : Top K mg) : ∀ n, FnN P w K mg base (n + 1) "_law_names" [] (sp__law_names K n)
  | 0 => by
    refine fn_by tp.f__law_names sc__law_names (fun vs H Q E h => by unfold sp__law_names at h; split at h <;> first | rfl | exact h.elim) (fun f cdv A outer s H vs Q E hr h => ?_)
    exfalso
    unfold sp__law_names at h
    split at h
    next v => obtain ⟨t, _, h, _⟩ := h; omega
    next => exact h
  | n + 1 => by
    have ih := ok__law_names tp n
    refine fn_by tp.f__law_names sc__law_names (fun vs H Q E h => by unfold sp__law_names at h; split at h <;> first | rfl | exact h.elim) (fun f cdv A outer s H vs Q E hr h => ⟨_, (pss_cons (g_if (g_val (pe_callB (k_isi K rfl) (by rfl) tp.b_isinstance (by decide +kernel) (pa_cons (gv 0) (pa_cons (pe_bltn (v := .ty "str") rfl tp.b_str (by decide +kernel) rfl) pa_nil)))) (pss_one (ps_ret (g_lst (pa_cons (gv 0) pa_nil)))) pss_nil) (pss_cons (ps_set (i := 1) sc__law_names.nd rfl (by first | exact Or.inl rfl | exact Or.inr rfl) (g_lst pa_nil)) (pss_cons (g_for PassesOwn.never rfl (kw_list K rfl (pe_ix (k_ix K rfl) (gv 0) pe_int (fun _ _ => rfl))) (pg_name (i := 2) sc__law_names.nd rfl (by first | exact Or.inl rfl | exact Or.inr rfl)) (pss_one (ps_set (i := 1) sc__law_names.nd rfl (by first | exact Or.inl rfl | exact Or.inr rfl) (pe_op op_addG (gv 1) (g_call (ih) hr rfl (by omega) (pa_cons (gv 2) pa_nil)))))) (pss_one (ps_ret (gv 1)))))), ?_⟩)
    unfold sp__law_names at h
    split at h
    next v =>
      obtain ⟨t, m, hd, hz, k⟩ := h
      cases t with
      | leaf z =>
        obtain rfl : v = .str z := m
        walk_at "w"
        refine ⟨_, is_ss, way_t ?_⟩
        exact ⟨(by show 1 ≤ sizeLine; decide), k⟩
      | grp rk ps =>
        obtain ⟨a, r, p, us, rfl, h1, h2, h3, h4⟩ := m
        rw [T.depth] at hd
        rw [T.names] at hz
        walk_at "w"
        refine ⟨_, is_ts h1, way_f ?_⟩
        walk_at "w"
        refine ⟨(by show 0 ≤ sizeLine; decide), fun p1 H1 hp1 s1 e1 => ?_⟩
        walk_at "w"
        refine ⟨_, .ref p, Or.inr (SqT.of (s1 _ _ h1)), at_of (j := 2) rfl rfl, ?_⟩
        have hus := h4.length
        refine forw_list (xs := us) (fun i σ H3 => ∃ p3 v3, σ = [some (.ref a), some (.ref p3), v3] ∧ H p3 = none ∧ Same H H3 ∧ H3 p3 = some (.lst ((T.namesL (ps.take i)).map V.str))) ⟨p1, none, rfl, hp1, s1, e1⟩ (fun i σ H3 _ ⟨_, _, _, _, s3, _⟩ => SqL.of (s3 _ _ h3)) ?_ ?_
        · rintro i x σ H3 hx ⟨p3, v3, rfl, hp3, s3, e3⟩
          obtain ⟨t, ht, mt⟩ := (h4.mono s3).at_ hx
          have hdt := T.depthL_le (List.mem_of_getElem? ht)
          have tl := T.namesL_take ht
          have le1 := T.namesL_take_le (ts := ps) (i + 1)
          rw [tl, List.length_append] at le1
          walk_at "w"
          refine ⟨t, mt, by omega, by omega, fun p4 H4 hp4 s4 e4 => ?_⟩
          refine ⟨_, _, s4 _ _ e3, e4, ?_, fun p5 H5 hp5 s5 e5 => ?_⟩
          · rw [List.length_map, List.length_map]; exact Nat.le_trans (by omega : _ ≤ 1000) (by decide)
          · refine ⟨p5, _, rfl, ?_, s3.trans (s4.trans s5), ?_⟩
            · cases hz : H p5 with
              | none => rfl
              | some o => rw [(s3.trans s4) _ _ hz] at hp5; cases hp5
            · rw [e5, tl, List.map_append]
        · rintro σ H3 ⟨p3, v3, rfl, hp3, s3, e3⟩
          rw [hus, List.take_length] at e3
          exact k p3 H3 hp3 s3 e3
    next => exact h.elim
def sp__law_low (K : PySem.W.Frag) (n : Nat) : Sp := fun vs H Q _ => match vs with
  | [v, .ref q] => ∃ t S, LT H t v ∧ t.depth < n ∧ t.Gd ∧ H q = some (.lst (S.map V.str)) ∧ ∀ H', Same H H' → Q (.int (t.low S)) H'
  | _ => False
theorem inV_str (n : Str) (S : List Str) : inV (.str n) (S.map V.str) = decide (n ∈ S) := by
  induction S with
  | nil => rfl
  | cons a S ih =>
    unfold inV at ih ⊢
    rw [List.map_cons, List.any_cons, ih]
    by_cases h : n = a
    · subst h; simp [eqV]
    · have : ¬ a = n := fun q => h q.symm
      simp [eqV, h, this]
theorem flat_strs (S : List Str) : (S.map V.str).all flatV = true := by
  rw [List.all_eq_true]
  intro v hv
  obtain ⟨z, _, rfl⟩ := List.mem_map.mp hv
  rfl
theorem T.lowL_sum (S : List Str) : ∀ ts : List T, (ts.map fun t => (t.low S : Int)).sum = (T.lowL S ts : Int)
  | [] => rfl
  | t :: ts => by rw [List.map_cons, List.sum_cons, T.lowL_sum S ts, T.lowL]; omega
theorem ok__law_low (tp : Top K mg) : ∀ n, FnN P w K mg base (n + 1) "_law_low" [] (sp__law_low K n)
  | 0 => by
    refine fn_by tp.f__law_low sc__law_low (fun vs H Q E h => by unfold sp__law_low at h; split at h <;> first | rfl | exact h.elim) (fun f cdv A outer s H vs Q E hr h => ?_)
    exfalso
    unfold sp__law_low at h
    split at h
    next v q => obtain ⟨t, S, _, h, _⟩ := h; omega
    next => exact h
  | n + 1 => by
    have ih := ok__law_low tp n
    refine fn_by tp.f__law_low sc__law_low (fun vs H Q E h => by unfold sp__law_low at h; split at h <;> first | rfl | exact h.elim) (fun f cdv A outer s H vs Q E hr h => ⟨_, (pss_cons (g_if (g_val (pe_callB (k_isi K rfl) (by rfl) tp.b_isinstance (by decide +kernel) (pa_cons (gv 0) (pa_cons (pe_bltn (v := .ty "str") rfl tp.b_str (by decide +kernel) rfl) pa_nil)))) (pss_one (ps_ret (pe_callTy c_int (by rfl) tp.b_int (by decide +kernel) (pa_cons (g_cmpV (k_inG K rfl) (gv 0) (gv 1) (by with_unfolding_all rfl)) pa_nil)))) pss_nil) (pss_cons (ps_set (i := 2) sc__law_low.nd rfl (by first | exact Or.inl rfl | exact Or.inr rfl) (pe_callB (k_sum K rfl rfl) (by rfl) tp.b_sum (by decide +kernel) (pa_cons (g_lc rfl sc__law_low.nd (kw_list K rfl (pe_ix (k_ix K rfl) (gv 0) pe_int (fun _ _ => rfl))) (blkOk_by (own := [("part", 3)]) (N := (["tree", "low", "total", "part", "rank"] : List Str)) (sc := defScope s__law_low) (by decide +kernel)) (fun _ _ _ _ _ => pg_name (i := 3) sc__law_low.nd rfl (by first | exact Or.inl rfl | exact Or.inr rfl)) (fun _ _ _ _ _ => pts_nil) (fun _ _ _ _ _ => (g_call (ih) hr rfl (by omega) (pa_cons (gv 3) (pa_cons (gv 1) pa_nil))))) pa_nil))) (pss_one (ps_ret (pe_callB (k_len K rfl) (by rfl) tp.b_len (by decide +kernel) (pa_cons (g_lc rfl sc__law_low.nd (kw_list K rfl (pe_ix (k_ix K rfl) (gv 0) pe_int (fun _ _ => rfl))) (blkOk_by (own := [("rank", 4)]) (N := (["tree", "low", "total", "part", "rank"] : List Str)) (sc := defScope s__law_low) (by decide +kernel)) (fun _ _ _ _ _ => pg_name (i := 4) sc__law_low.nd rfl (by first | exact Or.inl rfl | exact Or.inr rfl)) (fun _ _ _ _ _ => (pts_one (g_cmp op_leG (gv 4) (gv 2) (nomark _)))) (fun _ _ _ _ _ => (gv 4))) pa_nil)))))), ?_⟩)
    unfold sp__law_low at h
    split at h
    next v q =>
      obtain ⟨t, S, m, hd, g, hq, k⟩ := h
      cases t with
      | leaf z =>
        obtain rfl : v = .str z := m
        walk_at "w"
        refine ⟨_, is_ss, way_t ?_⟩
        walk_at "w"
        refine ⟨_, Or.inl (SqL.of hq), rfl, flat_strs S, ?_⟩
        rw [inV_str]
        have z1 := k H (Same.refl _)
        rw [T.low] at z1
        walk_at "w"
        by_cases hm : z ∈ S
        · rw [if_pos hm] at z1
          rw [decide_eq_true hm]; exact z1
        · rw [if_neg hm] at z1
          rw [decide_eq_false hm]; exact z1
      | grp rk ps =>
        obtain ⟨a, r, p, us, rfl, h1, h2, h3, h4⟩ := m
        have hus := h4.length
        obtain ⟨ok, rok, hrl⟩ := g.pts
        rw [T.depth] at hd
        walk_at "w"
        refine ⟨_, is_ts h1, way_f ?_⟩
        walk_at "w"
        refine ⟨_, .ref p, Or.inr (SqT.of h1), at_of (j := 2) rfl rfl, ?_⟩
        refine comp_list (xs := us) (fun i acc G => Same H G ∧ acc = (ps.take i).map fun t => V.int (t.low S)) (by rw [hus]; exact lt1000 ok.ln) ⟨Same.refl _, rfl⟩ (fun i acc G f => SqL.of (f.1 _ _ h3)) (fun D i x acc H' hx hD hDl hq' f => ⟨rfl, ?_⟩) (fun D H' acc hD hDl hq' f => ?_)
        · obtain ⟨s1, rfl⟩ := f
          have s2 := s1.trans off_same
          obtain ⟨t, ht, mt⟩ := (h4.mono s2).at_ hx
          have hdt := T.depthL_le (List.mem_of_getElem? ht)
          refine way_t ?_
          walk_at "w"
          refine ⟨t, S, mt, by omega, g.part (List.mem_of_getElem? ht), s2 _ _ hq, fun H4 s4 => ?_⟩
          refine ⟨s4 _ _ hDl, s1.trans (off_mono s4), ?_⟩
          rw [List.take_add_one, ht, List.map_append]
          rfl
        · obtain ⟨s1, rfl⟩ := f
          rw [hus, List.take_length] at hDl
          have s2 : Same H H' := s1.trans off_same
          walk_at "w"
          refine ⟨ps.map fun t => (t.low S : Int), SqL.of (by rw [List.map_map]; exact hDl), ?_⟩
          rw [T.lowL_sum]
          walk_at "w"
          refine ⟨_, .ref r, Or.inr (SqT.of (s2 _ _ h1)), at_of (j := 1) rfl rfl, ?_⟩
          refine comp_list (xs := rk.map V.int) (fun i acc G => Same H' G ∧ acc = ((rk.take i).filter fun d => decide (d ≤ (T.lowL S ps : Int))).map V.int) (by rw [List.length_map]; exact lt1000 hrl) ⟨Same.refl _, rfl⟩ (fun i acc G f => SqL.of (f.1 _ _ (s2 _ _ h2))) (fun D i x acc H3 hx hD hDl hq3 f => ⟨rfl, ?_⟩) (fun D H3 acc hD hDl hq3 f => ?_)
          · obtain ⟨s3, rfl⟩ := f
            obtain ⟨r0, hr0, rfl⟩ := map_at hx
            have e := filt_take (p := fun d => decide (d ≤ (T.lowL S ps : Int))) hr0
            walk_at "w"
            refine way_d (fun c => ?_) fun c => ?_
            · refine ⟨hDl, s3, ?_⟩
              rw [e, if_pos (decide_eq_true c), List.map_append]
              rfl
            · refine ⟨hDl, s3, ?_⟩
              rw [e, if_neg (by simpa using c), List.append_nil]
          · obtain ⟨s3, rfl⟩ := f
            rw [List.length_map, List.take_length] at hDl
            walk_at "w"
            refine ⟨_, Or.inl (SqL.of hDl), ?_⟩
            rw [List.length_map]
            have z1 := k H3 (s2.trans (s3.trans off_same))
            rw [T.low] at z1
            exact z1
    next => exact h.elim
def sp__law_made (K : PySem.W.Frag) (n : Nat) : Sp := fun vs H Q _ => match vs with
  | [v] => ∃ t, LT H t v ∧ t.Gd ∧ t.depth < n ∧ ∀ v' H', Same H H' → MTk K H' t v' → Q v' H'
  | _ => False
theorem ok__law_made (tp : Top K mg) : ∀ n, FnN P w K mg base (n + 52) "_law_made" [] (sp__law_made K n)
  | 0 => by
    refine fn_by tp.f__law_made sc__law_made (fun vs H Q E h => by unfold sp__law_made at h; split at h <;> first | rfl | exact h.elim) (fun f cdv A outer s H vs Q E hr h => ?_)
    exfalso
    unfold sp__law_made at h
    split at h
    next v => obtain ⟨t, _, _, h, _⟩ := h; omega
    next => exact h
  | n + 1 => by
    have ih := ok__law_made tp n
    refine fn_by tp.f__law_made sc__law_made (fun vs H Q E h => by unfold sp__law_made at h; split at h <;> first | rfl | exact h.elim) (fun f cdv A outer s H vs Q E hr h => ⟨_, (pss_cons (g_if (g_val (pe_callB (k_isi K rfl) (by rfl) tp.b_isinstance (by decide +kernel) (pa_cons (gv 0) (pa_cons (pe_bltn (v := .ty "str") rfl tp.b_str (by decide +kernel) rfl) pa_nil)))) (pss_one (ps_ret (g_make (mk_Leaf tp) hr rfl (by omega) (pa_cons (gv 0) pa_nil)))) pss_nil) (pss_one (ps_ret (g_make (mk_Group tp) hr rfl (by omega) (pa_cons (pe_callTy (k_list K rfl) (by rfl) tp.b_list (by decide +kernel) (pa_cons (pe_ix (k_ix K rfl) (gv 0) pe_int (fun _ _ => rfl)) pa_nil)) (pa_cons (g_lc rfl sc__law_made.nd (kw_list K rfl (pe_ix (k_ix K rfl) (gv 0) pe_int (fun _ _ => rfl))) (blkOk_by (own := [("part", 1)]) (N := (["tree", "part"] : List Str)) (sc := defScope s__law_made) (by decide +kernel)) (fun _ _ _ _ _ => pg_name (i := 1) sc__law_made.nd rfl (by first | exact Or.inl rfl | exact Or.inr rfl)) (fun _ _ _ _ _ => pts_nil) (fun _ _ _ _ _ => (g_call (ih) hr rfl (by omega) (pa_cons (gv 1) pa_nil)))) pa_nil)))))), ?_⟩)
    unfold sp__law_made at h
    split at h
    next v =>
      obtain ⟨t, m, g, hd, k⟩ := h
      cases t with
      | leaf z =>
        obtain rfl : v = .str z := m
        walk_at "w"
        refine ⟨_, is_ss, way_t ?_⟩
        exact ⟨g.sh, k⟩
      | grp rk ps =>
        obtain ⟨a, r, p, us, rfl, h1, h2, h3, h4⟩ := m
        have hus := h4.length
        obtain ⟨ok, rok, hrl⟩ := g.pts
        rw [T.depth] at hd
        walk_at "w"
        refine ⟨_, is_ts h1, way_f ?_⟩
        walk_at "w"
        refine ⟨_, .ref r, Or.inr (SqT.of h1), at_of (j := 1) rfl rfl, ?_⟩
        refine ⟨_, Or.inl (SqL.of h2), fun p1 H1 hp1 s1 e1 => ?_⟩
        walk_at "w"
        refine ⟨_, .ref p, Or.inr (SqT.of (s1 _ _ h1)), at_of (j := 2) rfl rfl, ?_⟩
        refine comp_list (xs := us) (fun i acc G => Same H1 G ∧ MTsk K G (ps.take i) acc) (by rw [hus]; exact lt1000 ok.ln) ⟨Same.refl _, rfl⟩ (fun i acc G f => SqL.of (f.1 _ _ (s1 _ _ h3))) (fun D i x acc H' hx hD hDl hq' f => ⟨rfl, ?_⟩) (fun D H' acc hD hDl hq' f => ?_)
        · obtain ⟨s2, hm⟩ := f
          obtain ⟨t, ht, mt⟩ := (h4.mono (s1.trans (s2.trans off_same))).at_ hx
          have hdt := T.depthL_le (List.mem_of_getElem? ht)
          refine way_t ?_
          walk_at "w"
          refine ⟨t, mt, g.part (List.mem_of_getElem? ht), by omega, fun v5 H5 s5 m5 => ?_⟩
          refine ⟨s5 _ _ hDl, s2.trans (off_mono s5), ?_⟩
          rw [List.take_add_one, ht]
          exact MTs.snoc (m5.monoT (SameT.off (s5 _ _ hDl))) (hm.monoT (SameT.of (off_mono s5)))
        · obtain ⟨s2, hm⟩ := f
          have s3 : Same H1 H' := s2.trans off_same
          rw [hus, List.take_length] at hm
          refine ⟨rk, acc, ps, s3 _ _ e1, hDl, hm.mono off_same, ok, rok, hrl, fun v6 H6 s6 m6 => k v6 H6 (s1.trans (s3.trans s6)) m6⟩
    next => exact h.elim
/-- a purse stands at p -/
def Pu (H : Hp) (p : Addr) : Prop := ∃ a b c : Int, H p = some (.lst [.int a, .int b, .int c])
theorem Pu.same {H H' : Hp} {p : Addr} (h : Pu H p) (s : Same H H') : Pu H' p := let ⟨a, b, c, e⟩ := h; ⟨a, b, c, s _ _ e⟩
theorem Pu.ne {H : Hp} {p : Addr} (h : Pu H p) {b : Addr} (n : H b = none) : b ≠ p := by
  obtain ⟨x, y, z, e⟩ := h
  exact (ne_of_none e n).symm
theorem _root_.GG.SameX.some_ {p : Addr} {H H' : Hp} (h : SameX p H H') (hp : Pu H' p) {b : Addr} {o : HO} (e : H b = some o) : ∃ o', H' b = some o' := by
  by_cases q : b = p
  · subst q; obtain ⟨x, y, z, e2⟩ := hp; exact ⟨_, e2⟩
  · exact ⟨o, h b o q e⟩
theorem _root_.GG.SameX.none_ {p : Addr} {H H' : Hp} (h : SameX p H H') (hp : Pu H' p) {b : Addr} (e : H' b = none) : H b = none := by
  cases z : H b with
  | none => rfl
  | some o => obtain ⟨o', q⟩ := h.some_ hp z; rw [q] at e; cases e
theorem fresh_later {p : Addr} {H H1 H2 : Hp} (hp : Pu H p) (s : SameX p H1 H2) : Same (fresh H H1) (fresh H H2) := fun b o e => by
  obtain ⟨n, e⟩ := fresh_some e
  exact fresh_at n (s b o (hp.ne n) e)
theorem fresh_before {p : Addr} {H H1 H2 : Hp} (s : SameX p H H1) (hp : Pu H1 p) : Same (fresh H1 H2) (fresh H H2) := fun b o e => by
  obtain ⟨n, e⟩ := fresh_some e
  exact fresh_at (s.none_ hp n) e
def sp__law_purse (K : PySem.W.Frag) : Sp := fun vs H Q _ => match vs with
  | [.ref q, .int at_] => ∃ xs : List Int, SqL K H q (xs.map V.int) ∧ ∀ p H', H p = none → Same H H' → Pu H' p → Q (.ref p) H'
  | _ => False
theorem cutV_int (xs : List Int) (lo hi : Option Int) : ∃ ys : List Int, cutV (xs.map V.int) lo hi = ys.map V.int :=
  ⟨_, by unfold cutV; rw [← List.map_drop, ← List.map_take]⟩
theorem ok__law_purse (tp : Top K mg) : FnN P w K mg base 1 "_law_purse" [] (sp__law_purse K) := by
  refine fn_by tp.f__law_purse sc__law_purse (fun vs H Q E h => by unfold sp__law_purse at h; split at h <;> first | rfl | exact h.elim) (fun f cdv A outer s H vs Q E hr h => ⟨_, (pss_cons (ps_set (i := 2) sc__law_purse.nd rfl (by first | exact Or.inl rfl | exact Or.inr rfl) (pe_callTy c_int (by rfl) tp.b_int (by decide +kernel) (pa_cons (pe_callB (k_sum K rfl rfl) (by rfl) tp.b_sum (by decide +kernel) (pa_cons (pe_slice (k_sl K rfl) (gv 0) (po_some (gv 1)) (po_some (pe_op op_addG (gv 1) pe_int))) pa_nil)) pa_nil))) (pss_one (ps_ret (g_lst (pa_cons (pe_op op_mulG (pe_callTy c_int (by rfl) tp.b_int (by decide +kernel) (pa_cons (g_cmpV op_geG (gv 2) (pe_op op_powW pe_int pe_int) (nomark _)) pa_nil)) (pe_op op_modG (gv 2) (pe_op op_powW (pe_op op_powW pe_int pe_int) pe_int))) (pa_cons (pe_op op_modG (gv 2) pe_int) (pa_cons (pe_op op_mulG pe_int (gv 1)) pa_nil))))))), ?_⟩)
  unfold sp__law_purse at h
  split at h
  next q at_ =>
    obtain ⟨xs, hq, k⟩ := h
    walk_at "w"
    refine ⟨_, rfl, ?_⟩
    walk_at "w"
    refine ⟨_, rfl, ?_⟩
    walk_at "w"
    refine ⟨_, hq, fun p1 H1 hp1 s1 e1 => ?_⟩
    obtain ⟨ys, ey⟩ := cutV_int xs (some at_) (some (at_ + 1))
    rw [ey] at e1
    walk_at "w"
    refine ⟨ys, SqL.of e1, ?_⟩
    walk_at "w"
    refine ⟨⟨by decide, by decide +kernel⟩, ?_⟩
    walk_at "w"
    refine ⟨⟨by decide, by decide +kernel⟩, ?_⟩
    refine ⟨⟨by decide, by decide +kernel⟩, ?_⟩
    walk_at "w"
    refine ⟨(by show (0 : Int) < _; decide +kernel), ?_⟩
    walk_at "w"
    refine ⟨Or.inl (by split <;> decide), ?_⟩
    walk_at "w"
    refine ⟨(by show (0 : Int) < _; decide), ?_⟩
    walk_at "w"
    refine ⟨Or.inl (by decide), ?_⟩
    exact ⟨(by show 3 ≤ sizeLine; decide), fun p2 H2 hp2 s2 e2 => k p2 H2 (by
      cases hz : H p2 with
      | none => rfl
      | some o => rw [s1 _ _ hz] at hp2; cases hp2) (s1.trans s2) ⟨_, _, _, e2⟩⟩
  next => exact h.elim
def sp__law_draw (K : PySem.W.Frag) : Sp := fun vs H Q _ => match vs with
  | [.ref p, .int m] => Pu H p ∧ 0 < m ∧ m < 1073741824 ∧ ∀ d H', 0 ≤ d → d < m → SameX p H H' → Pu H' p → Q (.int d) H'
  | _ => False
theorem ok__law_draw (tp : Top K mg) : FnN P w K mg base 1 "_law_draw" [] (sp__law_draw K) := by
  refine fn_by tp.f__law_draw sc__law_draw (fun vs H Q E h => by unfold sp__law_draw at h; split at h <;> first | rfl | exact h.elim) (fun f cdv A outer s H vs Q E hr h => ⟨_, (pss_cons (g_if (g_cmp op_gtG (pe_ix (k_ix K rfl) (gv 0) pe_int (fun _ _ => rfl)) pe_int (nomark _)) (pss_cons (ps_set (i := 2) sc__law_draw.nd rfl (by first | exact Or.inl rfl | exact Or.inr rfl) (pe_op op_modG (pe_ix (k_ix K rfl) (gv 0) pe_int (fun _ _ => rfl)) (gv 1))) (pss_cons (ps_asg (pe_op op_fdivG (pe_ix (k_ix K rfl) (gv 0) pe_int (fun _ _ => rfl)) (gv 1)) (pg_sub (gv 0) pe_int s_set)) (pss_one (ps_ret (gv 2))))) pss_nil) (pss_cons (ps_asg (pe_op op_addG (pe_ix (k_ix K rfl) (gv 0) pe_int (fun _ _ => rfl)) pe_int) (pg_sub (gv 0) pe_int s_set)) (pss_cons (ps_set (i := 3) sc__law_draw.nd rfl (by first | exact Or.inl rfl | exact Or.inr rfl) (pe_op op_modG (pe_op op_addG (pe_op op_addG (pe_op op_mulG (pe_ix (k_ix K rfl) (gv 0) pe_int (fun _ _ => rfl)) pe_int) (pe_op op_mulG (pe_ix (k_ix K rfl) (gv 0) pe_int (fun _ _ => rfl)) pe_int)) pe_int) pe_int)) (pss_cons (ps_set (i := 3) sc__law_draw.nd rfl (by first | exact Or.inl rfl | exact Or.inr rfl) (pe_op op_modG (pe_op op_addG (pe_op op_mulG (gv 3) (gv 3)) (pe_ix (k_ix K rfl) (gv 0) pe_int (fun _ _ => rfl))) pe_int)) (pss_cons (ps_set (i := 3) sc__law_draw.nd rfl (by first | exact Or.inl rfl | exact Or.inr rfl) (pe_op op_modG (pe_op op_addG (pe_op op_mulG (gv 3) (gv 3)) pe_int) pe_int)) (pss_one (ps_ret (pe_op op_modG (pe_op op_fdivG (gv 3) pe_int) (gv 1))))))))), ?_⟩)
  unfold sp__law_draw at h
  split at h
  next p m =>
    obtain ⟨⟨a, b, c, hp⟩, h0, h1, k⟩ := h
    walk_at "w"
    refine ⟨_, .int a, Or.inl (SqL.of hp), at_of (j := 0) rfl rfl, ?_⟩
    walk_at "w"
    refine way_d (fun ha => ?_) fun ha => ?_
    · walk_at "w"
      refine ⟨_, .int a, Or.inl (SqL.of hp), at_of (j := 0) rfl rfl, ?_⟩
      refine ⟨h0, ?_⟩
      walk_at "w"
      refine ⟨_, .int a, Or.inl (SqL.of hp), at_of (j := 0) rfl rfl, ?_⟩
      refine ⟨⟨h0, h1⟩, ?_⟩
      refine ⟨_, 0, hp, rfl, fun H1 s1 e1 => ?_⟩
      exact k _ H1 (Int.emod_nonneg _ (by omega)) (Int.emod_lt_of_pos _ h0) s1 ⟨_, _, _, e1⟩
    · walk_at "w"
      refine ⟨_, .int c, Or.inl (SqL.of hp), at_of (j := 2) rfl rfl, ?_⟩
      refine ⟨_, 2, hp, rfl, fun H1 s1 e1 => ?_⟩
      walk_at "w"
      refine ⟨_, .int b, Or.inl (SqL.of e1), at_of (j := 1) rfl rfl, ?_⟩
      walk_at "w"
      refine ⟨Or.inr (by decide), ?_⟩
      walk_at "w"
      refine ⟨_, .int (c + 1), Or.inl (SqL.of e1), at_of (j := 2) rfl rfl, ?_⟩
      walk_at "w"
      refine ⟨Or.inr (by decide), ?_⟩
      walk_at "w"
      refine ⟨(by show (0 : Int) < _; decide), ?_⟩
      have r1 := Int.emod_nonneg (b * 48271 + (c + 1) * 1299709 + 907) (b := 2147483629) (by decide)
      have r2 := Int.emod_lt_of_pos (b * 48271 + (c + 1) * 1299709 + 907) (b := 2147483629) (by decide)
      generalize (b * 48271 + (c + 1) * 1299709 + 907) % 2147483629 = n1 at r1 r2 ⊢
      walk_at "w"
      refine ⟨Or.inl (by omega), ?_⟩
      walk_at "w"
      refine ⟨_, .int (c + 1), Or.inl (SqL.of e1), at_of (j := 2) rfl rfl, ?_⟩
      walk_at "w"
      refine ⟨(by show (0 : Int) < _; decide), ?_⟩
      have r3 := Int.emod_nonneg (n1 * n1 + (c + 1)) (b := 2147483587) (by decide)
      have r4 := Int.emod_lt_of_pos (n1 * n1 + (c + 1)) (b := 2147483587) (by decide)
      generalize (n1 * n1 + (c + 1)) % 2147483587 = n2 at r3 r4 ⊢
      walk_at "w"
      refine ⟨Or.inl (by omega), ?_⟩
      walk_at "w"
      refine ⟨(by show (0 : Int) < _; decide), ?_⟩
      walk_at "w"
      refine ⟨⟨by decide, by decide⟩, ?_⟩
      refine ⟨h0, ?_⟩
      exact k _ H1 (Int.emod_nonneg _ (by omega)) (Int.emod_lt_of_pos _ h0) s1 ⟨_, _, _, e1⟩
  next => exact h.elim
def sp__law_ranks (K : PySem.W.Frag) : Sp := fun vs H Q _ => match vs with
  | [.ref p, .int tk, .int mo] => Pu H p ∧ 0 < tk ∧ tk ≤ 1000 ∧ ∀ rk r H', RkOk rk tk.toNat → H r = none → SameX p H H' → Pu H' p → H' r = some (.lst (rk.map V.int)) → Q (.ref r) H'
  | _ => False
theorem inV_int (n : Int) (S : List Int) : inV (.int n) (S.map V.int) = decide (n ∈ S) := by
  induction S with
  | nil => rfl
  | cons a S ih =>
    unfold inV at ih ⊢
    rw [List.map_cons, List.any_cons, ih]
    by_cases h : n = a
    · subst h; simp [eqV]
    · have : ¬ a = n := fun q => h q.symm
      simp [eqV, h, this]
theorem flat_ints (S : List Int) : (S.map V.int).all flatV = true := by
  rw [List.all_eq_true]
  intro v hv
  obtain ⟨z, _, rfl⟩ := List.mem_map.mp hv
  rfl
/-- ranks drawn so far -/
structure RkD (rk : List Int) (m : Int) : Prop where
  ne : rk ≠ []
  nd : rk.Nodup
  bd : ∀ r ∈ rk, 1 ≤ r ∧ r ≤ m
theorem RkD.sorted {rk rk' : List Int} {m : Int} (h : RkD rk m) (hm : 0 ≤ m) (pm : rk'.Perm rk) (pw : rk'.Pairwise (· ≤ ·)) : RkOk rk' m.toNat := by
  refine ⟨fun e => ?_, ?_, fun r hr => (h.bd r (pm.mem_iff.mp hr)).1, fun r hr => by have := (h.bd r (pm.mem_iff.mp hr)).2; omega⟩
  · subst e
    exact h.ne (List.length_eq_zero_iff.mp (by simpa using pm.length_eq.symm))
  · have nd : rk'.Nodup := pm.nodup_iff.mpr h.nd
    exact (pw.and nd).imp fun ⟨a, b⟩ => by omega
theorem nine_at {d : Int} (h0 : 0 ≤ d) (h1 : d < 9) : ∃ n : Int, ([.int 0, .int 0, .int 0, .int 1, .int 1, .int 2, .int 3, .int 4, .int 9] : List V)[d.toNat]? = some (.int n) ∧ 0 ≤ n ∧ n ≤ 9 := by
  have : d.toNat = 0 ∨ d.toNat = 1 ∨ d.toNat = 2 ∨ d.toNat = 3 ∨ d.toNat = 4 ∨ d.toNat = 5 ∨ d.toNat = 6 ∨ d.toNat = 7 ∨ d.toNat = 8 := by omega
  rcases this with q | q | q | q | q | q | q | q | q <;> rw [q] <;> exact ⟨_, rfl, by decide, by decide⟩
theorem ok__law_ranks (tp : Top K mg) : FnN P w K mg base 2 "_law_ranks" [] (sp__law_ranks K) := by
  refine fn_by tp.f__law_ranks sc__law_ranks (fun vs H Q E h => by unfold sp__law_ranks at h; split at h <;> first | rfl | exact h.elim) (fun f cdv A outer s H vs Q E hr h => ⟨_, (pss_cons (ps_set (i := 3) sc__law_ranks.nd rfl (by first | exact Or.inl rfl | exact Or.inr rfl) (g_lst (pa_cons (pe_op op_addG pe_int (g_call (ok__law_draw tp) hr rfl (by omega) (pa_cons (gv 0) (pa_cons (gv 1) pa_nil)))) pa_nil))) (pss_cons (g_for PassesOwn.never rfl (w_range1 rfl tp.b_range (pa_cons (pe_op op_mulG (pe_ix (k_ix K rfl) (g_lst (pa_cons pe_int (pa_cons pe_int (pa_cons pe_int (pa_cons pe_int (pa_cons pe_int (pa_cons pe_int (pa_cons pe_int (pa_cons pe_int (pa_cons pe_int pa_nil)))))))))) (g_call (ok__law_draw tp) hr rfl (by omega) (pa_cons (gv 0) (pa_cons pe_int pa_nil))) (fun _ _ => rfl)) (pe_callTy c_int (by rfl) tp.b_int (by decide +kernel) (pa_cons (g_cmpV op_gtG (gv 2) pe_int (nomark _)) pa_nil))) pa_nil)) (pg_name (i := 4) sc__law_ranks.nd rfl (by first | exact Or.inl rfl | exact Or.inr rfl)) (pss_cons (ps_set (i := 5) sc__law_ranks.nd rfl (by first | exact Or.inl rfl | exact Or.inr rfl) (pe_op op_addG pe_int (g_call (ok__law_draw tp) hr rfl (by omega) (pa_cons (gv 0) (pa_cons (gv 1) pa_nil))))) (pss_one (g_if (PW.pt (g_and (g_cmp (k_ninG K rfl) (gv 5) (gv 3) (by with_unfolding_all rfl)) (pw_and1 (g_cmp op_ltG (pe_callB (k_len K rfl) (by rfl) tp.b_len (by decide +kernel) (pa_cons (gv 3) pa_nil)) (gv 2) (nomark _))))) (pss_one (ps_expr (pe_bm PySem.F.plainAttrs_list PySem.F.slot_list_append PySem.F.type_list_append m_append (gv 3) (pa_cons (gv 5) pa_nil)))) pss_nil)))) (pss_one (ps_ret (pe_callB (k_sorted K rfl) (by rfl) tp.b_sorted (by decide +kernel) (pa_cons (gv 3) pa_nil)))))), ?_⟩)
  unfold sp__law_ranks at h
  split at h
  next p tk mo =>
    obtain ⟨hp, h0, h1, k⟩ := h
    walk_at "w"
    refine ⟨hp, h0, by omega, fun d H1 d0 d1 s1 hp1 => ?_⟩
    walk_at "w"
    refine ⟨(by show 1 ≤ sizeLine; decide), fun p2 H2 hn2 s2 e2 => ?_⟩
    have hp2 := hp1.same s2
    have s02 : SameX p H H2 := s1.trans (SameX.of s2)
    have f2 : H p2 = none := s1.none_ hp1 hn2
    walk_at "w"
    refine ⟨(by show 9 ≤ sizeLine; decide), fun p3 H3 hn3 s3 e3 => ?_⟩
    refine ⟨hp2.same s3, by decide, by decide, fun d4 H4 a4 b4 s4 hp4 => ?_⟩
    have e4 := s4 _ _ (hp2.ne hn3) e3
    obtain ⟨n, hn, n0, n9⟩ := nine_at a4 b4
    walk_at "w"
    refine ⟨_, .int n, Or.inl (SqL.of e4), at_of (j := d4.toNat) (by omega) hn, ?_⟩
    walk_at "w"
    refine ⟨Or.inl (by omega), ?_⟩
    have hb : 0 ≤ n * (if decide (1 < mo) = true then 1 else 0) ∧ n * (if decide (1 < mo) = true then 1 else 0) ≤ 9 := by
      split
      · omega
      · omega
    generalize n * (if decide (1 < mo) = true then 1 else 0) = turns at hb ⊢
    refine ⟨by omega, ?_⟩
    have nep : p2 ≠ p := hp.ne f2
    have e24 : H4 p2 = some (.lst (([1 + d] : List Int).map V.int)) := s4 _ _ nep (s3 _ _ e2)
    refine forw_range (fun i σ G => ∃ v4 v5 rk, σ = [some (.ref p), some (.int tk), some (.int mo), some (.ref p2), v4, v5] ∧ SameX p H G ∧ Pu G p ∧ G p2 = some (.lst (rk.map V.int)) ∧ RkD rk tk ∧ rk.length ≤ i + 1)
      ⟨none, none, [1 + d], rfl, s02.trans ((SameX.of s3).trans s4), hp4, e24, ⟨by simp, by simp, fun r hr => by rw [List.mem_singleton.mp hr]; omega⟩, Nat.le_refl _⟩ ?_ ?_
    · rintro i σ G hi ⟨v4, v5, rk, rfl, sG, hpG, eG, rd, rl⟩
      walk_at "w"
      refine ⟨hpG, h0, by omega, fun d6 H6 a6 b6 s6 hp6 => ?_⟩
      have e6 := s6 _ _ nep eG
      walk_at "w"
      refine ⟨_, Or.inl (SqL.of e6), rfl, flat_ints rk, ?_⟩
      rw [inV_int]
      refine way_nd (fun hin => ?_) fun hin => ?_
      · walk_at "w"
        refine ⟨_, Or.inl (SqL.of e6), ?_⟩
        rw [List.length_map]
        walk_at "w"
        refine way_d (fun hl => ?_) fun hl => ?_
        · walk_at "w"
          refine ⟨Or.inl ⟨rfl, _, SqL.of e6⟩, ?_⟩
          refine ⟨_, e6, ?_, fun H7 s7 e7 => ?_⟩
          · rw [List.length_map]; exact lt1000 (by omega)
          · have hp7 : Pu H7 p := by
              obtain ⟨x, y, z, e⟩ := hp6
              exact ⟨x, y, z, s7 _ _ nep.symm e⟩
            have s67 : SameX p H H7 := fun b o nb eb => s7 b o (ne_of_none eb f2) (s6 b o nb (sG b o nb eb))
            refine ⟨_, _, rk ++ [1 + d6], rfl, s67, hp7, by rw [e7, List.map_append]; rfl, ⟨by simp, ?_, fun r hr => ?_⟩, by rw [List.length_append]; simp; omega⟩
            · rw [List.nodup_append]
              exact ⟨rd.nd, by simp, fun a ha b hb e => hin (by rw [List.mem_singleton.mp hb] at e; rw [← e]; exact ha)⟩
            · rcases List.mem_append.mp hr with q | q
              · exact rd.bd r q
              · rw [List.mem_singleton.mp q]; omega
        · exact ⟨_, _, rk, rfl, sG.trans s6, hp6, e6, rd, by omega⟩
      · refine way_f ?_
        exact ⟨_, _, rk, rfl, sG.trans s6, hp6, e6, rd, by omega⟩
    · rintro σ G ⟨v4, v5, rk, rfl, sG, hpG, eG, rd, rl⟩
      walk_at "w"
      refine ⟨rk, SqL.of eG, fun ns' p5 H5 pm pw hp5 s5 e5 => ?_⟩
      exact k ns' p5 H5 (rd.sorted (by omega) pm pw) (sG.none_ hpG hp5) (sG.trans (SameX.of s5)) (hpG.same s5) e5
  next => exact h.elim
def sp__law_split (K : PySem.W.Frag) : Sp := fun vs H Q _ => match vs with
  | [.ref p, .ref q] => ∃ ns : List Str, Pu H p ∧ H q = some (.lst (ns.map V.str)) ∧ 2 ≤ ns.length ∧ ns.length ≤ 46 ∧
    ∀ (Rs : List (List Str)) us r H', (∀ R ∈ Rs, R ≠ [] ∧ R.length < ns.length) → Rs ≠ [] → Rs.length ≤ 46 → Rs.flatten.Perm ns → LS (fresh H H') Rs us → SameX p H H' → Pu H' p → fresh H H' r = some (.lst us) → Q (.ref r) H'
  | _ => False
theorem ok__law_split (tp : Top K mg) : FnN P w K mg base 2 "_law_split" [] (sp__law_split K) := by
  refine fn_by tp.f__law_split sc__law_split (fun vs H Q E h => by unfold sp__law_split at h; split at h <;> first | rfl | exact h.elim) (fun f cdv A outer s H vs Q E hr h => ⟨_, (pss_cons (g_setLc (i := 2) rfl sc__law_split.nd rfl rfl (sw_true rfl rfl rfl (by decide +kernel)) (w_range1 rfl tp.b_range (pa_cons (pe_op op_addG pe_int (g_call (ok__law_draw tp) hr rfl (by omega) (pa_cons (gv 0) (pa_cons pe_int pa_nil)))) pa_nil)) (blkOk_by (own := [("k", 4)]) (N := (["purse", "names", "rows", "name", "k", "row"] : List Str)) (sc := defScope s__law_split) (by decide +kernel)) (fun _ _ _ _ _ => pg_name (i := 4) sc__law_split.nd rfl (by first | exact Or.inl rfl | exact Or.inr rfl)) (fun _ _ _ _ _ => pts_nil) (fun _ _ _ _ _ => (g_lst pa_nil))) (pss_cons (g_for PassesOwn.never rfl (kw_list K rfl (gv 1)) (pg_name (i := 3) sc__law_split.nd rfl (by first | exact Or.inl rfl | exact Or.inr rfl)) (pss_one (ps_expr (pe_bm PySem.F.plainAttrs_list PySem.F.slot_list_append PySem.F.type_list_append m_append (pe_ix (k_ix K rfl) (gv 2) (g_call (ok__law_draw tp) hr rfl (by omega) (pa_cons (gv 0) (pa_cons (pe_callB (k_len K rfl) (by rfl) tp.b_len (by decide +kernel) (pa_cons (gv 2) pa_nil)) pa_nil))) (fun _ _ => rfl)) (pa_cons (gv 3) pa_nil))))) (pss_cons (g_setLc (i := 2) rfl sc__law_split.nd rfl rfl (sw_true rfl rfl rfl (by decide +kernel)) (kw_list K rfl (gv 2)) (blkOk_by (own := [("row", 5)]) (N := (["purse", "names", "rows", "name", "k", "row"] : List Str)) (sc := defScope s__law_split) (by decide +kernel)) (fun _ _ _ _ _ => pg_name (i := 5) sc__law_split.nd rfl (by first | exact Or.inl rfl | exact Or.inr rfl)) (fun _ _ _ _ _ => (pts_one (g_cmp (k_neG K rfl hr.units) (gv 5) (g_lst pa_nil) (nomark _)))) (fun _ _ _ _ _ => (gv 5))) (pss_cons (g_if (g_cmp (k_eqG K rfl hr.units) (pe_callB (k_len K rfl) (by rfl) tp.b_len (by decide +kernel) (pa_cons (gv 2) pa_nil)) pe_int (nomark _)) (pss_one (ps_ret (g_lst (pa_cons (pe_slice (k_sl K rfl) (gv 1) po_none (po_some pe_int)) (pa_cons (pe_slice (k_sl K rfl) (gv 1) (po_some pe_int) po_none) pa_nil))))) pss_nil) (pss_one (ps_ret (gv 2))))))), ?_⟩)
  unfold sp__law_split at h
  split at h
  next p q =>
    obtain ⟨ns, hp, hq, h2, h46, k⟩ := h
    have hpq : q ≠ p := by rintro rfl; obtain ⟨x, y, z, e⟩ := hp; rw [hq] at e; cases ns with
      | nil => simp at e
      | cons a l => simp at e
    walk_at "w"
    refine ⟨hp, by decide, by decide, fun d H1 d0 d1 s1 hp1 => ?_⟩
    refine ⟨by omega, ?_⟩
    have hn : (2 + d).toNat = 2 + d.toNat := by omega
    rw [hn]
    refine comp_range (fun i acc G => Same H1 G ∧ LS (fresh H1 G) (List.replicate i []) acc ∧ acc.Nodup) (lt1000 (by omega)) ⟨Same.refl _, rfl, List.nodup_nil⟩ (fun D i acc H' hi hD hDl hq' f => ⟨rfl, ?_⟩) (fun D H' acc hD hDl hq' f => ?_)
    · obtain ⟨s2, ls, nd⟩ := f
      refine way_t ?_
      walk_at "w"
      refine ⟨(by show 0 ≤ sizeLine; decide), fun p3 H3 hp3 s3 e3 => ?_⟩
      have n3 : p3 ≠ D := (ne_of_none hDl hp3).symm
      refine ⟨s3 _ _ hDl, s2.trans (off_mono s3), ?_, ?_⟩
      · rw [List.replicate_succ']
        have f3 : H1 p3 = none := by
          cases hz : H1 p3 with
          | none => rfl
          | some o => rw [(s2.trans off_same) _ _ hz] at hp3; cases hp3
        refine (ls.mono fun b o e => ?_).app (LS.one (fresh_at f3 (by rw [off_at n3, e3]; rfl)))
        obtain ⟨n, e⟩ := fresh_some e
        exact fresh_at n (off_mono s3 _ _ e)
      · rw [List.nodup_append]
        refine ⟨nd, by simp, fun a ha b hb e => ?_⟩
        rw [List.mem_singleton.mp hb] at e
        obtain ⟨q2, o, e2, e3'⟩ := ls.mem a ha
        rw [e2] at e
        cases e
        have := (fresh_some e3').2
        rw [off_at n3, hp3] at this; cases this
    · obtain ⟨s2, ls, nd⟩ := f
      have s3 : Same H1 H' := s2.trans off_same
      have hp' := hp1.same s3
      have sH : SameX p H H' := s1.trans (SameX.of s3)
      have fD : H D = none := s1.none_ hp1 hD
      have nDp : D ≠ p := hp.ne fD
      walk_at "w"
      refine forw_list (xs := ns.map V.str) (fun i σ G => ∃ v3 Rs us, σ = [some (.ref p), some (.ref q), some (.ref D), v3, none, none] ∧ SameX p H G ∧ Pu G p ∧ G D = some (.lst us) ∧ Rs.length = 2 + d.toNat ∧ LS (off D (fresh H G)) Rs us ∧ us.Nodup ∧ Rs.flatten.Perm (ns.take i))
        ⟨none, _, acc, rfl, sH, hp', hDl, List.length_replicate .., ls.mono (fun b o e => ?_), nd, by rw [flat_rep]; exact List.Perm.refl _⟩ (fun i σ G _ ⟨_, _, _, _, sG, _⟩ => SqL.of (sG _ _ hpq hq)) ?_ ?_
      · obtain ⟨n, e⟩ := fresh_some e
        obtain ⟨n2, e⟩ := off_some e
        rw [off_at n2]
        exact fresh_at (s1.none_ hp1 n) e
      · rintro i x σ G hx ⟨v3, Rs, us, rfl, sG, hpG, eG, rl, lsG, ndG, pm⟩
        obtain ⟨n, hn, rfl⟩ := map_atG hx
        have hus := lsG.length
        walk_at "w"
        refine ⟨_, Or.inl (SqL.of eG), ?_⟩
        rw [hus, rl]
        refine ⟨hpG, by omega, by omega, fun d6 H6 a6 b6 s6 hp6 => ?_⟩
        have eG6 := s6 _ _ nDp eG
        obtain ⟨R, q7, hR, hu7, hq7⟩ : ∃ R q7, Rs[d6.toNat]? = some R ∧ us[d6.toNat]? = some (.ref q7) ∧ off D (fresh H G) q7 = some (.lst (R.map V.str)) := by
          have hlt : d6.toNat < us.length := by omega
          obtain ⟨R, q7, a, b, c⟩ := lsG.at_ (List.getElem?_eq_getElem hlt)
          exact ⟨R, q7, a, by rw [List.getElem?_eq_getElem hlt, b], c⟩
        obtain ⟨n7, hq7⟩ := off_some hq7
        obtain ⟨f7, hq7⟩ := fresh_some hq7
        have n7p : q7 ≠ p := hp.ne f7
        have e67 := s6 _ _ n7p hq7
        walk_at "w"
        refine ⟨_, .ref q7, Or.inl (SqL.of eG6), at_of (j := d6.toNat) (by omega) hu7, ?_⟩
        walk_at "w"
        refine ⟨Or.inl ⟨rfl, _, SqL.of e67⟩, ?_⟩
        have hRl : R.length ≤ 46 := by
          have := (List.sublist_flatten_of_mem (List.mem_of_getElem? hR)).length_le
          rw [pm.length_eq, List.length_take] at this
          omega
        refine ⟨_, e67, ?_, fun H8 s8 e8 => ?_⟩
        · rw [List.length_map]; exact lt1000 (by omega)
        · have hp8 : Pu H8 p := by
            obtain ⟨x, y, z, e⟩ := hp6
            exact ⟨x, y, z, s8 _ _ n7p.symm e⟩
          refine ⟨_, Rs.set d6.toNat (R ++ [n]), us, rfl, fun b o nb eb => s8 b o (ne_of_none eb f7) (s6 b o nb (sG b o nb eb)), hp8, s8 _ _ n7.symm eG6, by rw [List.length_set, rl], ?_, ndG, ?_⟩
          · refine lsG.put (q := q7) (fun b o nb e => ?_) ?_ ndG hu7
            · obtain ⟨n1, e⟩ := off_some e
              obtain ⟨n2, e⟩ := fresh_some e
              rw [off_at n1]
              exact fresh_at n2 (s8 _ _ nb (s6 _ _ (hp.ne n2) e))
            · rw [off_at n7]
              exact fresh_at f7 (by rw [e8, List.map_append]; rfl)
          · rw [List.take_add_one, hn]
            exact (flat_put hR).trans (pm.append_right _)
      · rintro σ G ⟨v3, Rs, us, rfl, sG, hpG, eG, rl, lsG, ndG, pm⟩
        rw [List.length_map, List.take_length] at pm
        have hus := lsG.length
        walk_at "w"
        refine comp_list (xs := us) (fun i acc G2 => Same G G2 ∧ LS (fresh H G) ((Rs.take i).filter fun R => !R.isEmpty) acc) (by rw [hus]; exact lt1000 (by omega)) ⟨Same.refl _, rfl⟩ (fun i acc G2 f => SqL.of (f.1 _ _ eG)) (fun D2 i x acc G2 hx hD2 hDl2 hq2 f => ⟨rfl, ?_⟩) (fun D2 G2 acc hD2 hDl2 hq2 f => ?_)
        · obtain ⟨s9, ls9⟩ := f
          obtain ⟨R, q7, hR, rfl, hq7⟩ := lsG.at_ hx
          obtain ⟨n7, hq7⟩ := off_some hq7
          have e := filt_take (p := fun R : List Str => !R.isEmpty) hR
          walk_at "w"
          refine ⟨(by show 0 ≤ sizeLine; decide), fun p10 H10 hp10 s10 e10 => Or.inl ⟨_, SqL.of (s10 _ _ (s9.trans off_same _ _ (fresh_some hq7).2)), e10, ?_⟩⟩
          have ee : (R.map V.str).isEmpty = R.isEmpty := by cases R <;> rfl
          rw [ee]
          have keep : H10 D2 = some (.lst acc) := s10 _ _ hDl2
          have same : Same G (off D2 H10) := s9.trans (off_mono s10)
          refine way_n (fun c => ?_) fun c => ?_
          · refine ⟨keep, same, ?_⟩
            rw [e, if_pos (by rw [c]; rfl)]
            exact ls9.app (LS.one hq7)
          · refine ⟨keep, same, ?_⟩
            rw [e, if_neg (by rw [c]; decide), List.append_nil]
            exact ls9
        · obtain ⟨s9, ls9⟩ := f
          rw [hus, List.take_length] at ls9
          have s10 : Same G G2 := s9.trans off_same
          have fl : (Rs.filter fun R => !R.isEmpty).flatten.Perm ns := by rw [flat_filter]; exact pm
          have hne : ∀ R ∈ Rs.filter (fun R => !R.isEmpty), R ≠ [] := fun R hR e => by
            have := (List.mem_filter.mp hR).2
            rw [e] at this; exact absurd this (by decide)
          have hll : (Rs.filter fun R => !R.isEmpty).length ≤ 46 := Nat.le_trans (List.length_filter_le _ _) (by omega)
          have pG2 := hpG.same s10
          have sG2 : SameX p H G2 := sG.trans (SameX.of s10)
          have hal := ls9.length
          walk_at "w"
          refine ⟨_, Or.inl (SqL.of hDl2), ?_⟩
          walk_at "w"
          refine way_d (fun c => ?_) fun c => ?_
          · walk_at "w"
            have eq2 := sG2 _ _ hpq hq
            refine ⟨_, rfl, ?_⟩
            refine ⟨_, SqL.of eq2, fun p11 H11 hp11 s11 e11 => ?_⟩
            rw [cutV_take1] at e11
            walk_at "w"
            refine ⟨_, rfl, ?_⟩
            refine ⟨_, SqL.of (s11 _ _ eq2), fun p12 H12 hp12 s12 e12 => ?_⟩
            rw [cutV_drop1] at e12
            refine ⟨(by show 2 ≤ sizeLine; decide), fun p13 H13 hp13 s13 e13 => ?_⟩
            have f11 : H p11 = none := sG2.none_ pG2 hp11
            have f12 : H p12 = none := sG2.none_ pG2 (by
              cases hz : G2 p12 with
              | none => rfl
              | some o => rw [s11 _ _ hz] at hp12; cases hp12)
            have f13 : H p13 = none := sG2.none_ pG2 (by
              cases hz : G2 p13 with
              | none => rfl
              | some o => rw [(s11.trans s12) _ _ hz] at hp13; cases hp13)
            refine k [ns.take 1, ns.drop 1] [.ref p11, .ref p12] p13 H13 (fun R hR => ?_) (by simp) (by simp) (by show (ns.take 1 ++ (ns.drop 1 ++ [])).Perm ns; rw [List.append_nil, List.take_append_drop]) ?_ (sG2.trans (SameX.of (s11.trans (s12.trans s13)))) (pG2.same (s11.trans (s12.trans s13))) (fresh_at f13 e13)
            · rcases List.mem_cons.mp hR with z | z
              · subst z
                refine ⟨fun e => ?_, by rw [List.length_take]; omega⟩
                have := congrArg List.length e
                rw [List.length_take, List.length_nil] at this
                omega
              · rw [List.mem_singleton.mp z]
                refine ⟨fun e => ?_, by rw [List.length_drop]; omega⟩
                have := congrArg List.length e
                rw [List.length_drop, List.length_nil] at this
                omega
            · exact ⟨p11, _, rfl, fresh_at f11 (by rw [(s12.trans s13) _ _ e11, List.map_take]), p12, _, rfl, fresh_at f12 (by rw [s13 _ _ e12, List.map_drop]), rfl⟩
          · have c2 : ¬ (acc.length = 1) := fun z => c (by rw [z]; rfl)
            have l2 : 2 ≤ (Rs.filter fun R => !R.isEmpty).length := by
              rcases Nat.lt_or_ge (Rs.filter fun R => !R.isEmpty).length 2 with z | z
              · exfalso
                have z0 : (Rs.filter fun R => !R.isEmpty).length = 0 := by omega
                rw [List.length_eq_zero_iff.mp z0] at fl
                have := fl.length_eq
                simp at this; omega
              · exact z
            walk_at "w"
            refine k _ acc D2 G2 (fun R hR => ⟨hne R hR, ?_⟩) (by intro e; rw [e] at l2; simp at l2) hll fl (ls9.mono (fresh_later hp (SameX.of s10))) sG2 pG2 (fresh_at (sG.none_ hpG hD2) hDl2)
            have := flat_lt hne l2 R hR
            rw [fl.length_eq] at this
            exact this
  next => exact h.elim
/-- a name as the law calls them -/
def LwNm (z : Str) : Prop := (run z.cps.toList).1 ∈ lets ∧ (run z.cps.toList).2 ≤ 2
def sp__law_called (K : PySem.W.Frag) : Sp := fun vs H Q _ => match vs with
  | [.ref p, .int m] => Pu H p ∧ 0 ≤ m ∧ m ≤ 46 ∧ ∀ (ns : List Str) r H', ns.length = m.toNat → ns.Nodup → (∀ z ∈ ns, IsNm z) → (∀ z ∈ ns, LwNm z) → H r = none → SameX p H H' → Pu H' p → H' r = some (.lst (ns.map V.str)) → Q (.ref r) H'
  | _ => False
theorem tls_at {d : Int} (h0 : 0 ≤ d) (h1 : d < 5) : ∃ z, (tls.map V.str)[d.toNat]? = some (.str z) ∧ z ∈ tls := by
  have : d.toNat < tls.length := by
    have e : tls.length = 5 := rfl
    omega
  refine ⟨tls[d.toNat], ?_, List.getElem_mem this⟩
  rw [List.getElem?_map, List.getElem?_eq_getElem this]
  rfl
theorem let_at (i sh : Nat) : atI ("abcdefghijklmnopqrstuvw" : Str).cps.toList (((0 : Int) + (i : Int) + (sh : Int)) % 23) = some (letAt i sh) := by
  have e : ((0 : Int) + (i : Int) + (sh : Int)) % 23 = (((i + sh) % 23 : Nat) : Int) := by omega
  rw [e]
  have h : (i + sh) % 23 < lets.length := by rw [lets_len]; exact Nat.mod_lt _ (by omega)
  refine atI_nat ?_
  show lets[(i + sh) % 23]? = _
  rw [List.getElem?_eq_getElem h]
  unfold letAt
  rw [List.getD_eq_getElem?_getD, List.getElem?_eq_getElem h]
  rfl
theorem str_q (y : Nat) : decide ((⟨#[y]⟩ : Str) = "q") = decide (y = 113) := by
  have e : ("q" : Str) = ⟨#[113]⟩ := by decide +kernel
  rw [e]
  refine decide_eq_decide.mpr ⟨fun h => ?_, fun h => by rw [h]⟩
  have := congrArg (fun z : Str => z.cps.toList) h
  simpa using this
theorem q_alph : 113 ∈ alph ∧ 114 ∈ alph := by decide +kernel
theorem str_qr : ("q" : Str) = ⟨#[113]⟩ ∧ ("r" : Str) = ⟨#[114]⟩ := by decide +kernel
theorem app_cps (a b : Str) : (a ++ b).cps.toList = a.cps.toList ++ b.cps.toList := by
  show (a.cps ++ b.cps).toList = _
  simp
theorem lst_pos {z : Str} (h : IsNm z) : ∃ y, z.cps.toList.getLast? = some y := by
  have n : z.cps.toList ≠ [] := by
    intro e
    have h1 := h.1
    have : z.length = z.cps.toList.length := by rw [Array.length_toList]; rfl
    rw [this, e] at h1
    simp at h1
  exact ⟨_, List.getLast?_eq_some_getLast n⟩
def InvC (H : Hp) (p p1 : Addr) (m : Int) (sh i : Nat) (σ : L2.St) (G : Hp) : Prop := ∃ v4 v5 v6 v7 ns, σ = [some (.ref p), some (.int m), some (.ref p1), some (.int (sh : Int)), v4, v5, v6, v7] ∧ SameX p H G ∧ Pu G p ∧ G p1 = some (.lst (ns.map V.str)) ∧ Cd sh i ns
theorem InvC.step {H G G' : Hp} {p p1 : Addr} {m : Int} {sh i : Nat} {ns : List Str} {z : Str} {v4 v5 v6 v7 : Option V} (n1 : p1 ≠ p) (f1 : H p1 = none) (s : SameX p H G) (hp : Pu G p) (cd : Cd sh i (ns ++ [z])) (s8 : SameX p1 G G') (e8 : G' p1 = some (.lst (ns.map V.str ++ [.str z]))) :
    InvC H p p1 m sh i [some (.ref p), some (.int m), some (.ref p1), some (.int (sh : Int)), v4, v5, v6, v7] G' :=
  ⟨_, _, _, _, ns ++ [z], rfl, fun b o n e => s8 b o (ne_of_none e f1) (s b o n e), let ⟨x, y, z, e⟩ := hp; ⟨x, y, z, s8 _ _ n1.symm e⟩, by rw [e8, List.map_append]; rfl, cd⟩
theorem last_split {α : Type} {l : List α} (h : l ≠ []) : ∃ i x, l = i ++ [x] ∧ l.getLast? = some x :=
  ⟨l.dropLast, l.getLast h, (List.dropLast_concat_getLast h).symm, List.getLast?_eq_some_getLast h⟩
theorem ok__law_called (tp : Top K mg) : FnN P w K mg base 2 "_law_called" [] (sp__law_called K) := by
  refine fn_by tp.f__law_called sc__law_called (fun vs H Q E h => by unfold sp__law_called at h; split at h <;> first | rfl | exact h.elim) (fun f cdv A outer s H vs Q E hr h => ⟨_, (pss_cons (ps_par rfl sc__law_called.nd (i := 2) (j := 3) rfl rfl (by decide) rfl rfl (pa_cons (g_lst pa_nil) (pa_cons (g_call (ok__law_draw tp) hr rfl (by omega) (pa_cons (gv 0) (pa_cons pe_int pa_nil))) pa_nil)) rfl) (pss_cons (g_for PassesOwn.never rfl (w_range1 rfl tp.b_range (pa_cons (gv 1) pa_nil)) (pg_name (i := 4) sc__law_called.nd rfl (by first | exact Or.inl rfl | exact Or.inr rfl)) (pss_cons (ps_set (i := 5) sc__law_called.nd rfl (by first | exact Or.inl rfl | exact Or.inr rfl) (pe_ix (k_ix K rfl) pe_str (pe_op op_modG (pe_op op_addG (gv 4) (gv 3)) pe_int) (fun _ _ => rfl))) (pss_cons (ps_set (i := 6) sc__law_called.nd rfl (by first | exact Or.inl rfl | exact Or.inr rfl) (pe_ix (k_ix K rfl) (g_lst (pa_cons pe_str (pa_cons pe_str (pa_cons pe_str (pa_cons pe_str (pa_cons pe_str pa_nil)))))) (g_call (ok__law_draw tp) hr rfl (by omega) (pa_cons (gv 0) (pa_cons pe_int pa_nil))) (fun _ _ => rfl))) (pss_cons (ps_set (i := 7) sc__law_called.nd rfl (by first | exact Or.inl rfl | exact Or.inr rfl) (pe_op op_addG (pe_op op_mulG (gv 5) (pe_op op_addG pe_int (pe_op op_fdivG (gv 4) pe_int))) (gv 6))) (pss_cons (g_if (PW.pt (g_and (g_cmp (k_neG K rfl hr.units) (gv 2) (g_lst pa_nil) (nomark _)) (g_and (g_cmp op_ltG (pe_callB (k_len K rfl) (by rfl) tp.b_len (by decide +kernel) (pa_cons (pe_ix (k_ix K rfl) (gv 2) (pe_un un_negG pe_int) (fun _ _ => rfl)) pa_nil)) pe_int (nomark _)) (pw_and1 (g_cmp (k_eqG K rfl hr.units) (g_call (ok__law_draw tp) hr rfl (by omega) (pa_cons (gv 0) (pa_cons pe_int pa_nil))) pe_int (nomark _)))))) (pss_one (ps_set (i := 7) sc__law_called.nd rfl (by first | exact Or.inl rfl | exact Or.inr rfl) (pe_op op_addG (pe_ix (k_ix K rfl) (gv 2) (pe_un un_negG pe_int) (fun _ _ => rfl)) (g_ifE (g_cmp (k_eqG K rfl hr.units) (pe_slice (k_sl K rfl) (pe_ix (k_ix K rfl) (gv 2) (pe_un un_negG pe_int) (fun _ _ => rfl)) (po_some (pe_un un_negG pe_int)) po_none) pe_str (nomark _)) pe_str pe_str)))) pss_nil) (pss_one (ps_expr (pe_bm PySem.F.plainAttrs_list PySem.F.slot_list_append PySem.F.type_list_append m_append (gv 2) (pa_cons (gv 7) pa_nil))))))))) (pss_one (ps_ret (gv 2))))), ?_⟩)
  unfold sp__law_called at h
  split at h
  next p m =>
    obtain ⟨hp, h0, h46, k⟩ := h
    walk_at "w"
    refine ⟨(by show 0 ≤ sizeLine; decide), fun p1 H1 hp1 s1 e1 => ?_⟩
    refine ⟨hp.same s1, by decide, by decide, fun d H2 d0 d1 s2 hp2 => ?_⟩
    have n1 : p1 ≠ p := hp.ne hp1
    have e2 := s2 _ _ n1 e1
    have s02 : SameX p H H2 := (SameX.of s1).trans s2
    obtain ⟨sh, rfl⟩ : ∃ sh : Nat, d = (sh : Int) := ⟨d.toNat, by omega⟩
    walk_at "w"
    refine ⟨_, _, rfl, ?_⟩
    walk_at "w"
    refine ⟨by omega, ?_⟩
    refine forw_range (InvC H p p1 m sh)
      ⟨none, none, none, none, [], rfl, s02, hp2, e2, Cd.nil sh⟩ ?_ ?_
    · rintro i σ G hi ⟨v4, v5, v6, v7, ns, rfl, sG, hpG, eG, cd⟩
      have hi46 : i < 46 := by omega
      walk_at "w"
      refine ⟨(by show (0 : Int) < _; decide), ?_⟩
      walk_at "w"
      refine ⟨_, (by show 23 ≤ sizeLine; decide), let_at i sh, ?_⟩
      walk_at "w"
      refine ⟨(by show 5 ≤ sizeLine; decide), fun p3 H3 hp3 s3 e3 => ?_⟩
      refine ⟨hpG.same s3, by decide, by decide, fun d4 H4 a4 b4 s4 hp4 => ?_⟩
      have e34 := s4 _ _ (hpG.ne hp3) e3
      have eG4 := s4 _ _ n1 (s3 _ _ eG)
      have sG4 : SameX p H H4 := sG.trans ((SameX.of s3).trans s4)
      obtain ⟨tl, htl, htm⟩ := tls_at a4 b4
      walk_at "w"
      refine ⟨_, .str tl, Or.inl (SqL.of e34), at_of (j := d4.toNat) (by omega) htl, ?_⟩
      walk_at "w"
      refine ⟨⟨by decide, by decide⟩, ?_⟩
      have er : (1 : Int) + ((0 : Int) + (i : Int)) / 23 = ((1 + i / 23 : Nat) : Int) := by omega
      obtain ⟨mo, me⟩ := mul_ch (letAt i sh) (1 + i / 23) (by omega) (by omega)
      walk_at "w"
      rw [er]
      refine ⟨mo, ?_⟩
      rw [me]
      walk_at "w"
      have tlen := (tls_ok tl htm).1
      have rlen : (⟨(List.replicate (1 + i / 23) (letAt i sh)).toArray⟩ : Str).length = 1 + i / 23 := by
        show (List.replicate (1 + i / 23) (letAt i sh)).toArray.size = _
        simp
      refine ⟨?_, ?_⟩
      · rw [rlen]; exact Nat.le_trans (by omega : _ ≤ 1000) (by decide)
      have fr : Cd sh (i + 1) (ns ++ [(⟨(List.replicate (1 + i / 23) (letAt i sh)).toArray⟩ : Str) ++ tl]) := cd.fresh hi46 htm (by rw [app_cps])
      generalize (⟨(List.replicate (1 + i / 23) (letAt i sh)).toArray⟩ : Str) ++ tl = nm at fr ⊢
      have l46 := cd.len
      walk_at "w"
      refine ⟨(by show 0 ≤ sizeLine; decide), fun p5 H5 hp5 s5 e5 => Or.inl ⟨_, SqL.of (s5 _ _ eG4), e5, ?_⟩⟩
      have eG5 := s5 _ _ eG4
      have hp55 := hp4.same s5
      have sG5 : SameX p H H5 := sG4.trans (SameX.of s5)
      refine way_n (fun c => ?_) fun c => ?_
      · have nne : ns ≠ [] := by
          rintro rfl
          exact absurd c (by decide)
        obtain ⟨ini, l, el, gl⟩ := last_split nne
        have lat : atI (ns.map V.str) (-1) = some (.str l) := by rw [el, List.map_append]; exact atI_last _ _
        have lm : l ∈ ns := by rw [el]; simp
        have lnm := (cd.nm l lm).1
        obtain ⟨y, hy⟩ := lst_pos lnm
        walk_at "w"
        refine ⟨_, .str l, Or.inl (SqL.of eG5), lat, ?_⟩
        refine ⟨Nat.le_trans lnm.2.1 (by decide), ?_⟩
        walk_at "w"
        refine way_d (fun c8 => ?_) fun c8 => ?_
        · walk_at "w"
          refine ⟨hp55, by decide, by decide, fun d6 H6 a6 b6 s6 hp6 => ?_⟩
          have eG6 := s6 _ _ n1 eG5
          have sG6 := sG5.trans s6
          walk_at "w"
          refine way_d (fun c0 => ?_) fun c0 => ?_
          · walk_at "w"
            refine ⟨_, .str l, Or.inl (SqL.of eG6), lat, ?_⟩
            walk_at "w"
            refine ⟨_, .str l, Or.inl (SqL.of eG6), lat, ?_⟩
            refine ⟨_, rfl, ?_⟩
            refine ⟨Nat.le_trans lnm.2.1 (by decide), ?_⟩
            rw [cutS_last hy]
            walk_at "w"
            rw [str_q]
            refine way_d (fun cq => ?_) fun cq => ?_
            · walk_at "w"
              refine ⟨Nat.le_trans (Nat.add_le_add_right lnm.2.1 _) (by decide +kernel), ?_⟩
              walk_at "w"
              refine ⟨Or.inl ⟨rfl, _, SqL.of eG6⟩, _, eG6, by rw [List.length_map]; exact lt1000 (by omega), fun H8 s8 e8 => InvC.step n1 hp1 sG6 hp6 (cd.chain gl (by omega) q_alph.2 hy (by omega) ?_) s8 e8⟩
              rw [app_cps, str_qr.2]
            · walk_at "w"
              refine ⟨Nat.le_trans (Nat.add_le_add_right lnm.2.1 _) (by decide +kernel), ?_⟩
              walk_at "w"
              refine ⟨Or.inl ⟨rfl, _, SqL.of eG6⟩, _, eG6, by rw [List.length_map]; exact lt1000 (by omega), fun H8 s8 e8 => InvC.step n1 hp1 sG6 hp6 (cd.chain gl (by omega) q_alph.1 hy cq ?_) s8 e8⟩
              rw [app_cps, str_qr.1]
          · walk_at "w"
            exact ⟨Or.inl ⟨rfl, _, SqL.of eG6⟩, _, eG6, by rw [List.length_map]; exact lt1000 (by omega), fun H8 s8 e8 => InvC.step n1 hp1 sG6 hp6 fr s8 e8⟩
        · walk_at "w"
          refine way_f ?_
          walk_at "w"
          exact ⟨Or.inl ⟨rfl, _, SqL.of eG5⟩, _, eG5, by rw [List.length_map]; exact lt1000 (by omega), fun H8 s8 e8 => InvC.step n1 hp1 sG5 hp55 fr s8 e8⟩
      · refine way_f ?_
        walk_at "w"
        exact ⟨Or.inl ⟨rfl, _, SqL.of eG5⟩, _, eG5, by rw [List.length_map]; exact lt1000 (by omega), fun H8 s8 e8 => InvC.step n1 hp1 sG5 hp55 fr s8 e8⟩
    · rintro σ G ⟨v4, v5, v6, v7, ns, rfl, sG, hpG, eG, cd⟩
      walk_at "w"
      exact k ns p1 G (by rw [cd.len]) cd.nd (fun z hz => (cd.nm z hz).1) (fun z hz => by
        obtain ⟨_, j, hj, e⟩ := cd.nm z hz
        unfold LwNm
        rw [e]
        exact ⟨letAt_mem _ _, by show 1 + j / 23 ≤ 2; omega⟩) hp1 sG hpG eG
  next => exact h.elim
def sp__law_grown (K : PySem.W.Frag) (n : Nat) : Sp := fun vs H Q _ => match vs with
  | [.ref p, .ref q, .int mo] => ∃ ns : List Str, Pu H p ∧ H q = some (.lst (ns.map V.str)) ∧ 1 ≤ ns.length ∧ ns.length ≤ 46 ∧ ns.length < n ∧ (∀ z ∈ ns, IsNm z) ∧
    ∀ t v H', SameX p H H' → Pu H' p → LT (fresh H H') t v → t.Sh → t.names.Perm ns → t.depth ≤ ns.length → Q v H'
  | _ => False
theorem RkOk.one {m : Nat} (h : 1 ≤ m) : RkOk [1] m := ⟨by simp, by simp, fun r hr => by rw [List.mem_singleton.mp hr]; exact Int.le_refl _, fun r hr => by rw [List.mem_singleton.mp hr]; omega⟩
theorem T.namesL_snoc (ts : List T) (t : T) : T.namesL (ts ++ [t]) = T.namesL ts ++ t.names := by
  rw [T.namesL_eq, T.namesL_eq, List.flatMap_append]
  simp
theorem T.depthL_lt {n : Nat} : ∀ {ts : List T}, (∀ t ∈ ts, t.depth < n) → ts ≠ [] → T.depthL ts < n
  | [], _, h => absurd rfl h
  | [t], h, _ => by rw [T.depthL, T.depthL]; have := h t (List.mem_cons_self ..); omega
  | t :: u :: ts, h, _ => by
    have a := h t (List.mem_cons_self ..)
    have b := T.depthL_lt (n := n) (ts := u :: ts) (fun t ht => h t (List.mem_cons_of_mem _ ht)) (by simp)
    rw [T.depthL]; omega
/-- the parts grown from the first rows -/
structure Grw (ts : List T) (Rs : List (List Str)) (m : Nat) : Prop where
  sh : T.ShL ts
  pm : (T.namesL ts).Perm Rs.flatten
  dp : ∀ t ∈ ts, t.depth < m
theorem Grw.snoc {ts : List T} {Rs : List (List Str)} {m : Nat} (g : Grw ts Rs m) {t : T} {R : List Str} (h1 : t.Sh) (h2 : t.names.Perm R) (h3 : t.depth ≤ R.length) (h4 : R.length < m) : Grw (ts ++ [t]) (Rs ++ [R]) m := by
  refine ⟨T.ShL_iff.mpr fun u hu => ?_, ?_, fun u hu => ?_⟩
  · rcases List.mem_append.mp hu with z | z
    · exact T.ShL_iff.mp g.sh u z
    · rw [List.mem_singleton.mp z]; exact h1
  · rw [T.namesL_snoc, List.flatten_append]
    have e : [R].flatten = R := by simp
    rw [e]
    exact g.pm.append h2
  · rcases List.mem_append.mp hu with z | z
    · exact g.dp u z
    · rw [List.mem_singleton.mp z]; omega
theorem T.taken_pos : ∀ {ts : List T}, T.ShL ts → ts ≠ [] → 1 ≤ T.taken ts
  | [], _, h => absurd rfl h
  | t :: ts, h, _ => by
    rw [T.ShL] at h
    have : 1 ≤ t.width := by
      cases t with
      | leaf z => exact Nat.le_refl _
      | grp rk ps =>
        have := h.1
        rw [T.Sh] at this
        exact pos_len this.2.1.ne
    rw [T.taken]; omega
theorem ok__law_grown (tp : Top K mg) : ∀ n, FnN P w K mg base (n + 3) "_law_grown" [] (sp__law_grown K n)
  | 0 => by
    refine fn_by tp.f__law_grown sc__law_grown (fun vs H Q E h => by unfold sp__law_grown at h; split at h <;> first | rfl | exact h.elim) (fun f cdv A outer s H vs Q E hr h => ?_)
    exfalso
    unfold sp__law_grown at h
    split at h
    next p q mo => obtain ⟨ns, _, _, _, _, h, _⟩ := h; omega
    next => exact h
  | n + 1 => by
    have ih := ok__law_grown tp n
    refine fn_by tp.f__law_grown sc__law_grown (fun vs H Q E h => by unfold sp__law_grown at h; split at h <;> first | rfl | exact h.elim) (fun f cdv A outer s H vs Q E hr h => ⟨_, (pss_cons (g_if (g_cmp (k_eqG K rfl hr.units) (pe_callB (k_len K rfl) (by rfl) tp.b_len (by decide +kernel) (pa_cons (gv 1) pa_nil)) pe_int (nomark _)) (pss_one (ps_ret (g_ifE (g_cmp op_gtG (g_call (ok__law_draw tp) hr rfl (by omega) (pa_cons (gv 0) (pa_cons pe_int pa_nil))) pe_int (nomark _)) (pe_ix (k_ix K rfl) (gv 1) pe_int (fun _ _ => rfl)) (g_tup (pa_cons pe_str (pa_cons (g_lst (pa_cons pe_int pa_nil)) (pa_cons (g_lst (pa_cons (pe_ix (k_ix K rfl) (gv 1) pe_int (fun _ _ => rfl)) pa_nil)) pa_nil))))))) pss_nil) (pss_cons (g_setLc (i := 3) rfl sc__law_grown.nd rfl rfl (sw_true rfl rfl rfl (by decide +kernel)) (kw_list K rfl (g_call (ok__law_split tp) hr rfl (by omega) (pa_cons (gv 0) (pa_cons (gv 1) pa_nil)))) (blkOk_by (own := [("row", 5)]) (N := (["purse", "names", "most", "parts", "taken", "row", "part"] : List Str)) (sc := defScope s__law_grown) (by decide +kernel)) (fun _ _ _ _ _ => pg_name (i := 5) sc__law_grown.nd rfl (by first | exact Or.inl rfl | exact Or.inr rfl)) (fun _ _ _ _ _ => pts_nil) (fun _ _ _ _ _ => (g_call (ih) hr rfl (by omega) (pa_cons (gv 0) (pa_cons (gv 5) (pa_cons (gv 2) pa_nil)))))) (pss_cons (ps_set (i := 4) sc__law_grown.nd rfl (by first | exact Or.inl rfl | exact Or.inr rfl) (pe_callB (k_sum K rfl rfl) (by rfl) tp.b_sum (by decide +kernel) (pa_cons (g_lc rfl sc__law_grown.nd (kw_list K rfl (gv 3)) (blkOk_by (own := [("part", 6)]) (N := (["purse", "names", "most", "parts", "taken", "row", "part"] : List Str)) (sc := defScope s__law_grown) (by decide +kernel)) (fun _ _ _ _ _ => pg_name (i := 6) sc__law_grown.nd rfl (by first | exact Or.inl rfl | exact Or.inr rfl)) (fun _ _ _ _ _ => pts_nil) (fun _ _ _ _ _ => (g_call (ok__law_width tp) hr rfl (by omega) (pa_cons (gv 6) pa_nil)))) pa_nil))) (pss_one (ps_ret (g_tup (pa_cons pe_str (pa_cons (g_call (ok__law_ranks tp) hr rfl (by omega) (pa_cons (gv 0) (pa_cons (gv 4) (pa_cons (gv 2) pa_nil)))) (pa_cons (gv 3) pa_nil))))))))), ?_⟩)
    unfold sp__law_grown at h
    split at h
    next p q mo =>
      obtain ⟨ns, hp, hq, h1, h46, hn, hnm, k⟩ := h
      have hpq : q ≠ p := by rintro rfl; obtain ⟨x, y, z, e⟩ := hp; rw [hq] at e; cases ns with
        | nil => simp at e
        | cons a l => simp at e
      walk_at "w"
      refine ⟨_, Or.inl (SqL.of hq), ?_⟩
      rw [List.length_map]
      walk_at "w"
      refine way_d (fun c => ?_) fun c => ?_
      · obtain ⟨a, rfl⟩ : ∃ a, ns = [a] := List.length_eq_one_iff.mp (by omega)
        have an := hnm a (List.mem_cons_self ..)
        walk_at "w"
        refine ⟨hp, by decide, by decide, fun d H1 d0 d1 s1 hp1 => ?_⟩
        have hq1 := s1 _ _ hpq hq
        walk_at "w"
        refine way_d (fun c1 => ?_) fun c1 => ?_
        · walk_at "w"
          refine ⟨_, .str a, Or.inl (SqL.of hq1), at_of (j := 0) rfl rfl, ?_⟩
          exact k (.leaf a) (.str a) H1 s1 hp1 rfl an (List.Perm.refl _) (Nat.zero_le _)
        · walk_at "w"
          refine ⟨(by show 1 ≤ sizeLine; decide), fun p2 H2 hp2 s2 e2 => ?_⟩
          walk_at "w"
          refine ⟨_, .str a, Or.inl (SqL.of (s2 _ _ hq1)), at_of (j := 0) rfl rfl, ?_⟩
          walk_at "w"
          refine ⟨(by show 1 ≤ sizeLine; decide), fun p3 H3 hp3 s3 e3 => ?_⟩
          walk_at "w"
          refine ⟨(by show 3 ≤ sizeLine; decide), fun p4 H4 hp4 s4 e4 => ?_⟩
          have f2 : H p2 = none := s1.none_ hp1 hp2
          have f3 : H p3 = none := s1.none_ hp1 (by
            cases hz : H1 p3 with
            | none => rfl
            | some o => rw [s2 _ _ hz] at hp3; cases hp3)
          have f4 : H p4 = none := s1.none_ hp1 (by
            cases hz : H1 p4 with
            | none => rfl
            | some o => rw [(s2.trans s3) _ _ hz] at hp4; cases hp4)
          have s14 : Same H1 H4 := s2.trans (s3.trans s4)
          refine k (.grp [1] [.leaf a]) (.ref p4) H4 (s1.trans (SameX.of s14)) (hp1.same s14) ⟨p4, p2, p3, [.str a], rfl, fresh_at f4 e4, fresh_at f2 ((s3.trans s4) _ _ e2), fresh_at f3 (s4 _ _ e3), .str a, [], rfl, rfl, rfl⟩ ?_ ?_ ?_
          · rw [T.Sh]
            exact ⟨by simp, RkOk.one (Nat.le_refl _), an, trivial⟩
          · exact List.Perm.refl _
          · show 1 ≤ 1
            exact Nat.le_refl _
      · have h2 : 2 ≤ ns.length := by omega
        walk_at "w"
        refine ⟨ns, hp, hq, h2, h46, fun Rs us r H1 hR hRne hRl pm ls s1 hp1 er => ?_⟩
        obtain ⟨fr, er1⟩ := fresh_some er
        have hus := ls.length
        refine comp_list (xs := us) (fun i acc G => SameX p H1 G ∧ Pu G p ∧ ∃ ts, LTs (fresh H G) ts acc ∧ Grw ts (Rs.take i) ns.length ∧ ts.length = i) (by rw [hus]; exact lt1000 (by omega)) ⟨SameX.refl, hp1, [], rfl, ⟨trivial, List.Perm.refl _, fun t ht => by simp at ht⟩, rfl⟩
          (fun i acc G f => SqL.of (f.1 _ _ (hp.ne fr) er1)) (fun D i x acc H' hx hD hDl hq' f => ⟨rfl, ?_⟩) (fun D H' acc hD hDl hq' f => ?_)
        · obtain ⟨s2, hp2, ts, lt, gw, tl⟩ := f
          obtain ⟨R, qR, hRi, rfl, eR⟩ := ls.at_ hx
          obtain ⟨fR, eR⟩ := fresh_some eR
          have hp2' : Pu H' p := hp2.same off_same
          have nD : D ≠ p := hp1.ne hD
          have fD : H D = none := s1.none_ hp1 hD
          have eR' : H' qR = some (.lst (R.map V.str)) := off_same _ _ (s2 _ _ (hp.ne fR) eR)
          have hRR := hR R (List.mem_of_getElem? hRi)
          have sub : ∀ z ∈ R, z ∈ ns := fun z hz => pm.mem_iff.mp (List.mem_flatten.mpr ⟨R, List.mem_of_getElem? hRi, hz⟩)
          refine way_t ?_
          walk_at "w"
          refine ⟨R, hp2', eR', pos_len hRR.1, by omega, by omega, fun z hz => hnm z (sub z hz), fun t v H4 s4 hp4 lt4 sh4 pm4 dp4 => ?_⟩
          have h4D := s4 _ _ nD hDl
          refine ⟨h4D, s2.trans (fun b o n e => ?_), ?_, ts ++ [t], ?_, ?_, ?_⟩
          · obtain ⟨n2, e⟩ := off_some e
            rw [off_at n2]; exact s4 b o n e
          · obtain ⟨x, y, z, e⟩ := hp4
            exact ⟨x, y, z, by rw [off_at nD.symm]; exact e⟩
          · refine LTs.snoc (lt4.mono fun b o e => ?_) (lt.mono fun b o e => ?_)
            · obtain ⟨n, e⟩ := fresh_some e
              have sH : SameX p H H' := s1.trans (s2.trans (SameX.of off_same))
              have nbD : b ≠ D := (ne_of_none hDl n).symm
              exact fresh_at (sH.none_ hp2' n) (by rw [off_at nbD]; exact e)
            · obtain ⟨n, e⟩ := fresh_some e
              obtain ⟨n2, e⟩ := off_some e
              exact fresh_at n (by rw [off_at n2]; exact s4 b o (hp.ne n) e)
          · rw [List.take_add_one, hRi]
            exact gw.snoc sh4 pm4 dp4 hRR.2
          · rw [List.length_append, tl]; rfl
        · obtain ⟨s2, hp2, ts, lt, gw, tl⟩ := f
          rw [hus, List.take_length] at gw
          have hp2' : Pu H' p := hp2.same off_same
          have nD : D ≠ p := hp1.ne hD
          have fD : H D = none := s1.none_ hp1 hD
          have sH : SameX p H H' := s1.trans (s2.trans (SameX.of off_same))
          have lt' : LTs (fresh H H') ts acc := lt.mono fun b o e => by
            obtain ⟨n, e⟩ := fresh_some e
            exact fresh_at n (off_same _ _ e)
          have hal := lt'.length
          have tne : ts ≠ [] := by
            rintro rfl
            have : us.length = 0 := tl.symm
            rw [hus] at this
            exact hRne (List.length_eq_zero_iff.mp this)
          have tkl := T.taken_le gw.sh
          have nml : (T.namesL ts).length = ns.length := (gw.pm.trans pm).length_eq
          have tkp := T.taken_pos gw.sh tne
          walk_at "w"
          refine comp_list (xs := acc) (fun i a2 G => Same H' G ∧ a2 = (ts.take i).map fun t => V.int t.width) (by rw [hal]; exact lt1000 (by omega)) ⟨Same.refl _, rfl⟩ (fun i a2 G f => SqL.of (f.1 _ _ hDl)) (fun D2 i x a2 G hx hD2 hDl2 hq2 f => ⟨rfl, ?_⟩) (fun D2 G a2 hD2 hDl2 hq2 f => ?_)
          · obtain ⟨s3, rfl⟩ := f
            obtain ⟨t, ht, mt⟩ := lt'.at_ hx
            refine way_t ?_
            walk_at "w"
            refine ⟨t, mt.mono (fresh_same.trans (s3.trans off_same)), ?_⟩
            refine ⟨hDl2, s3, ?_⟩
            rw [List.take_add_one, ht, List.map_append]
            rfl
          · obtain ⟨s3, rfl⟩ := f
            rw [hal, List.take_length] at hDl2
            have s4 : Same H' G := s3.trans off_same
            walk_at "w"
            refine ⟨ts.map fun t => (t.width : Int), SqL.of (by rw [List.map_map]; exact hDl2), ?_⟩
            rw [← T.taken_eq]
            have hp4 := hp2'.same s4
            walk_at "w"
            refine ⟨hp4, by omega, by omega, fun rk rp H5 rko f5 s5 hp5 e5 => ?_⟩
            have sG : SameX p H G := sH.trans (SameX.of s4)
            have f5' : H rp = none := sG.none_ hp4 f5
            rw [Int.toNat_natCast] at rko
            walk_at "w"
            refine ⟨(by show 3 ≤ sizeLine; decide), fun p6 H6 hp6 s6 e6 => ?_⟩
            have s5' : SameX p H H5 := sG.trans s5
            have f6 : H p6 = none := s5'.none_ hp5 hp6
            refine k (.grp rk ts) (.ref p6) H6 (s5'.trans (SameX.of s6)) (hp5.same s6) ⟨p6, rp, D, acc, rfl, fresh_at f6 e6, fresh_at f5' (s6 _ _ e5), fresh_at fD (s6 _ _ (s5 _ _ nD (s4 _ _ hDl))), lt'.mono ?_⟩ ?_ ?_ ?_
            · exact fresh_later hp ((SameX.of s4).trans (s5.trans (SameX.of s6)))
            · rw [T.Sh]
              exact ⟨tne, rko, gw.sh⟩
            · rw [T.names]
              exact gw.pm.trans pm
            · rw [T.depth]
              have := T.depthL_lt gw.dp tne
              omega
    next => exact h.elim
def sp__law_tree (K : PySem.W.Frag) : Sp := fun vs H Q _ => match vs with
  | [.ref p, .int l, .int mo] => Pu H p ∧ 1 ≤ l ∧ l ≤ 45 ∧ ∀ t v H', SameX p H H' → Pu H' p → LT (fresh H H') t v → t.Gd → t.names.length ≤ l.toNat → (∀ z ∈ t.names, LwNm z) → Q v H'
  | _ => False
theorem ok__law_tree (tp : Top K mg) : FnN P w K mg base 60 "_law_tree" [] (sp__law_tree K) := by
  refine fn_by tp.f__law_tree sc__law_tree (fun vs H Q E h => by unfold sp__law_tree at h; split at h <;> first | rfl | exact h.elim) (fun f cdv A outer s H vs Q E hr h => ⟨_, (pss_cons (ps_set (i := 3) sc__law_tree.nd rfl (by first | exact Or.inl rfl | exact Or.inr rfl) (g_call (ok__law_called tp) hr rfl (by omega) (pa_cons (gv 0) (pa_cons (pe_op op_addG pe_int (g_call (ok__law_draw tp) hr rfl (by omega) (pa_cons (gv 0) (pa_cons (gv 1) pa_nil)))) pa_nil)))) (pss_one (ps_ret (g_call (ok__law_grown tp 46) hr rfl (by omega) (pa_cons (gv 0) (pa_cons (gv 3) (pa_cons (gv 2) pa_nil))))))), ?_⟩)
  unfold sp__law_tree at h
  split at h
  next p l mo =>
    obtain ⟨hp, h1, h45, k⟩ := h
    walk_at "w"
    refine ⟨hp, by omega, by omega, fun d H1 d0 d1 s1 hp1 => ?_⟩
    walk_at "w"
    refine ⟨hp1, by omega, by omega, fun ns r H2 nl nd nm lw f2 s2 hp2 e2 => ?_⟩
    walk_at "w"
    refine ⟨ns, hp2, e2, by omega, by omega, by omega, nm, fun t v H3 s3 hp3 lt sh pm dp => ?_⟩
    have s12 := s1.trans s2
    have ln := pm.length_eq
    exact k t v H3 (s12.trans s3) hp3 (lt.mono (fresh_before s12 hp2)) ⟨sh, pm.nodup_iff.mpr nd, by omega, by omega⟩ (by omega) (fun z hz => lw z (pm.mem_iff.mp hz))
  next => exact h.elim
end LW
namespace LW
open PySem PySem.Spec L2 GG
variable {P : Program} {w : World} {K : PySem.W.Frag} {mg : Str → Option Value} {base : Heap}
abbrev CLo (K : PySem.W.Frag) : Addr := He.ga K "Lot"
def kvI (ps : List (Str × Int)) : List (Key × V) := ps.map fun p => (.inr p.1, .int p.2)
def look (ps : List (Str × Int)) (z : Str) : Option Int := (ps.find? fun p => decide (p.1 = z)).map (·.2)
theorem look_cons (p : Str × Int) (ps : List (Str × Int)) (z : Str) : look (p :: ps) z = if p.1 = z then some p.2 else look ps z := by
  unfold look
  rw [List.find?_cons]
  by_cases c : p.1 = z
  · rw [decide_eq_true c, if_pos c]; rfl
  · rw [decide_eq_false c, if_neg c]
theorem valV_cons {κ : Type} [DecidableEq κ] (p : κ × V) (kvs : List (κ × V)) (k : κ) : valV (p :: kvs) k = if p.1 = k then some p.2 else valV kvs k := by
  unfold valV
  rw [List.find?_cons]
  by_cases c : p.1 = k
  · rw [decide_eq_true c, if_pos c]; rfl
  · rw [decide_eq_false c, if_neg c]
theorem valV_kvI : ∀ (ps : List (Str × Int)) (z : Str), valV (kvI ps) (.inr z) = (look ps z).map V.int
  | [], z => rfl
  | p :: ps, z => by
    rw [look_cons, show kvI (p :: ps) = ((.inr p.1 : Key), V.int p.2) :: kvI ps from rfl, valV_cons, valV_kvI ps z]
    by_cases c : p.1 = z
    · rw [if_pos c, if_pos (congrArg Sum.inr c)]; rfl
    · rw [if_neg c, if_neg (fun q => c (Sum.inr.inj q))]
theorem look_some : ∀ {ps : List (Str × Int)} {z : Str}, z ∈ ps.map (·.1) ↔ ∃ c, look ps z = some c
  | [], z => by simp [look]
  | p :: ps, z => by
    rw [look_cons, List.map_cons, List.mem_cons, look_some (ps := ps)]
    by_cases c : p.1 = z
    · rw [if_pos c]; exact ⟨fun _ => ⟨_, rfl⟩, fun _ => .inl c.symm⟩
    · rw [if_neg c]; exact ⟨fun q => q.elim (fun q => absurd q.symm c) id, .inr⟩
theorem look_isSome (ps : List (Str × Int)) (z : Str) : (look ps z).isSome = decide (z ∈ ps.map (·.1)) := by
  rw [Bool.eq_iff_iff, decide_eq_true_eq, look_some, Option.isSome_iff_exists]
theorem look_mem : ∀ {ps : List (Str × Int)} {z : Str} {c : Int}, look ps z = some c → (z, c) ∈ ps
  | [], z, c, h => by simp [look] at h
  | p :: ps, z, c, h => by
    rw [look_cons] at h
    by_cases q : p.1 = z
    · rw [if_pos q] at h
      have : p = (z, c) := by rw [← q, ← Option.some.inj h]
      rw [this]; exact List.mem_cons_self ..
    · rw [if_neg q] at h
      exact List.mem_cons_of_mem _ (look_mem h)
theorem look_of : ∀ {ps : List (Str × Int)} {z : Str} {c : Int}, (ps.map (·.1)).Nodup → (z, c) ∈ ps → look ps z = some c
  | [], z, c, _, h => by simp at h
  | p :: ps, z, c, nd, h => by
    rw [List.map_cons, List.nodup_cons] at nd
    rw [look_cons]
    rcases List.mem_cons.mp h with q | q
    · rw [← q, if_pos rfl]
    · rw [if_neg (fun e => nd.1 (by rw [e]; exact List.mem_map.mpr ⟨_, q, rfl⟩))]
      exact look_of nd.2 q
theorem look_perm {ps qs : List (Str × Int)} (p : ps.Perm qs) (nd : (ps.map (·.1)).Nodup) (z : Str) : look ps z = look qs z := by
  have nd2 : (qs.map (·.1)).Nodup := (p.map _).nodup_iff.mp nd
  cases h : look ps z with
  | none =>
    cases h2 : look qs z with
    | none => rfl
    | some c => rw [look_of nd (p.mem_iff.mpr (look_mem h2))] at h; cases h
  | some c => rw [look_of nd2 (p.mem_iff.mp (look_mem h))]
structure PsOk (ps : List (Str × Int)) : Prop where
  nd : (ps.map (·.1)).Nodup
  nm : ∀ p ∈ ps, IsNm p.1
  ln : ps.length ≤ 1000
theorem PsOk.perm {ps qs : List (Str × Int)} (h : PsOk ps) (p : ps.Perm qs) : PsOk qs := ⟨(p.map _).nodup_iff.mp h.nd, fun x hx => h.nm x (p.mem_iff.mpr hx), by rw [← p.length_eq]; exact h.ln⟩
theorem PsOk.sub {ps qs : List (Str × Int)} (h : PsOk ps) (s : qs.Sublist ps) : PsOk qs := ⟨h.nd.sublist (s.map _), fun x hx => h.nm x (s.subset hx), Nat.le_trans s.length_le h.ln⟩
def lof (d : Addr) : List (Str × V) := [("worths", .ref d)]
structure LotAt (K : PySem.W.Frag) (H : Hp) (a d : Addr) (ps : List (Str × Int)) : Prop where
  o : ∃ dx, H a = some (.ins (CLo K) dx (lof d))
  k : H d = some (.dK (kvI ps))
  ok : PsOk ps
theorem LotAt.mono {K : PySem.W.Frag} {H H' : Hp} {a d : Addr} {ps : List (Str × Int)} (h : LotAt K H a d ps) (s : Same H H') : LotAt K H' a d ps := ⟨h.o.imp fun _ e => s _ _ e, s _ _ h.k, h.ok⟩
theorem LotAt.ne {K : PySem.W.Frag} {H : Hp} {a d : Addr} {ps : List (Str × Int)} (h : LotAt K H a d ps) : a ≠ d := by
  rintro rfl
  obtain ⟨dx, e⟩ := h.o
  rw [h.k] at e; cases e
theorem free_back {H H1 : Hp} {p : Addr} (s : Same H H1) (h : H1 p = none) : H p = none := by
  cases z : H p with
  | none => rfl
  | some o => rw [s _ _ z] at h; cases h
theorem IsNm.le1000 {z : Str} (h : IsNm z) : z.length ≤ 1000 := by have := h.2.1; omega
def sp_are_pairs (K : PySem.W.Frag) : Sp := fun vs H Q _ => match vs with
  | [.ref p] => ∃ ps xs, H p = some (.lst xs) ∧ PL H ps xs ∧ PsOk ps ∧ ∀ H', Same H H' → Q (.bl true) H'
  | _ => False
def kvT (ps : List (Str × Int)) : List (Key × V) := ps.map fun p => (.inr p.1, .bl true)
theorem valV_kvT : ∀ (ps : List (Str × Int)) (z : Str), (valV (kvT ps) (.inr z)).isSome = decide (z ∈ ps.map (·.1))
  | [], z => rfl
  | p :: ps, z => by
    rw [show kvT (p :: ps) = ((.inr p.1 : Key), V.bl true) :: kvT ps from rfl, valV_cons]
    by_cases c : p.1 = z
    · rw [if_pos (congrArg Sum.inr c)]; simp [c]
    · rw [if_neg (fun q => c (Sum.inr.inj q)), valV_kvT ps z]
      simp [Ne.symm c]
theorem putK_new {κ : Type} [DecidableEq κ] {kvs : List (κ × V)} {k : κ} {v : V} (h : valV kvs k = none) : putK kvs k v = kvs ++ [(k, v)] := by
  unfold putK
  rw [if_neg]
  intro q
  obtain ⟨x, hx, hk⟩ := List.any_eq_true.mp q
  unfold valV at h
  rw [Option.map_eq_none_iff, List.find?_eq_none] at h
  exact h x hx hk
theorem take_fst {ps : List (Str × Int)} {i : Nat} {p : Str × Int} (nd : (ps.map (·.1)).Nodup) (h : ps[i]? = some p) : p.1 ∉ (ps.take i).map (·.1) := by
  have e : ps = ps.take i ++ p :: ps.drop (i + 1) := by
    obtain ⟨hi, e⟩ := List.getElem?_eq_some_iff.mp h
    rw [← e, List.getElem_cons_drop, List.take_append_drop]
  rw [e, List.map_append, List.map_cons, List.nodup_append] at nd
  intro q
  exact nd.2.2 _ q _ (List.mem_cons_self ..) rfl
theorem ok_are_pairs (tp : Top K mg) : FnN P w K mg base 2 "are_pairs" [] (sp_are_pairs K) := by
  refine fn_by tp.f_are_pairs sc_are_pairs (fun vs H Q E h => by unfold sp_are_pairs at h; split at h <;> first | rfl | exact h.elim) (fun f cdv A outer s H vs Q E hr h => ⟨_, (pss_cons (g_if (pt_not (g_val (pe_callB (k_isi K rfl) (by rfl) tp.b_isinstance (by decide +kernel) (pa_cons (gv 0) (pa_cons (pe_bltn (v := .ty "list") rfl tp.b_list (by decide +kernel) rfl) pa_nil))))) (pss_one (ps_ret pe_bl)) pss_nil) (pss_cons (ps_set (i := 1) sc_are_pairs.nd rfl (by first | exact Or.inl rfl | exact Or.inr rfl) g_dnew) (pss_cons (g_for PassesOwn.never rfl (kw_list K rfl (gv 0)) (pg_name (i := 2) sc_are_pairs.nd rfl (by first | exact Or.inl rfl | exact Or.inr rfl)) (pss_cons (g_if (PW.pt (g_or (pt_not (g_val (pe_callB (k_isi K rfl) (by rfl) tp.b_isinstance (by decide +kernel) (pa_cons (gv 2) (pa_cons (pe_bltn (v := .ty "tuple") rfl tp.b_tuple (by decide +kernel) rfl) pa_nil))))) (g_or (g_cmp (k_neG K rfl hr.units) (pe_callB (k_len K rfl) (by rfl) tp.b_len (by decide +kernel) (pa_cons (gv 2) pa_nil)) pe_int (nomark _)) (g_or (pt_not (g_val (g_call (ok_is_name tp) hr rfl (by omega) (pa_cons (pe_ix (k_ix K rfl) (gv 2) pe_int (fun _ _ => rfl)) pa_nil)))) (pw_or1 (pt_not (g_val (g_call (ok_is_whole tp) hr rfl (by omega) (pa_cons (pe_ix (k_ix K rfl) (gv 2) pe_int (fun _ _ => rfl)) pa_nil))))))))) (pss_one (ps_ret pe_bl)) pss_nil) (pss_cons (g_if (g_cmp (k_din (Nat.lt_of_le_of_lt (Nat.add_le_add_left (by decide : 1 ≤ 64) _) hr.units)) (pe_ix (k_ix K rfl) (gv 2) pe_int (fun _ _ => rfl)) (gv 1) (by with_unfolding_all rfl)) (pss_one (ps_ret pe_bl)) pss_nil) (pss_one (ps_asg pe_bl (pg_sub (gv 1) (pe_ix (k_ix K rfl) (gv 2) pe_int (fun _ _ => rfl)) (s_dict (Nat.lt_of_le_of_lt (Nat.add_le_add_left (by decide : 1 ≤ 64) _) hr.units)))))))) (pss_one (ps_ret pe_bl))))), ?_⟩)
  unfold sp_are_pairs at h
  split at h
  next p =>
    obtain ⟨ps, xs, hp, pl, ok, k⟩ := h
    have hl := pl.length
    walk_at "w"
    refine ⟨_, is_ll hp, way_f ?_⟩
    walk_at "w"
    refine fun pd H1 f1 s1 e1 => ?_
    walk_at "w"
    refine forw_list (xs := xs) (fun i σ G => ∃ v, σ = [some (.ref p), some (.ref pd), v] ∧ Same H G ∧ G pd = some (.dK (kvT (ps.take i)))) ⟨none, rfl, s1, e1⟩ (fun i σ G _ ⟨_, _, sG, _⟩ => SqL.of (sG _ _ hp)) ?_ ?_
    · rintro i x σ G hx ⟨v, rfl, sG, eG⟩
      obtain ⟨pr, q, hpr, rfl, hq⟩ := (pl.mono sG).at_ hx
      have nm := ok.nm pr (List.mem_of_getElem? hpr)
      have nin := take_fst ok.nd hpr
      walk_at "w"
      refine ⟨_, is_tt hq, way_f ?_⟩
      walk_at "w"
      refine ⟨_, Or.inr (SqT.of hq), way_f ?_⟩
      walk_at "w"
      refine ⟨_, .str pr.1, Or.inr (SqT.of hq), at_of (j := 0) rfl rfl, ?_⟩
      refine ⟨IsNm.le1000 nm, fun G2 s2 => ?_⟩
      rw [decide_eq_true nm]
      refine way_f ?_
      walk_at "w"
      refine ⟨_, .int pr.2, Or.inr (SqT.of (s2 _ _ hq)), at_of (j := 1) rfl rfl, ?_⟩
      refine way_f ?_
      walk_at "w"
      refine ⟨_, .str pr.1, Or.inr (SqT.of (s2 _ _ hq)), at_of (j := 0) rfl rfl, ?_⟩
      refine ⟨_, s2 _ _ eG, ?_⟩
      rw [valV_kvT, decide_eq_false nin]
      refine way_f ?_
      walk_at "w"
      refine ⟨_, .str pr.1, Or.inr (SqT.of (s2 _ _ hq)), at_of (j := 0) rfl rfl, ?_⟩
      have tk : kvT (ps.take (i + 1)) = putK (kvT (ps.take i)) (.inr pr.1) (.bl true) := by
        have z := valV_kvT (ps.take i) pr.1
        rw [decide_eq_false nin] at z
        rw [putK_new (Option.not_isSome_iff_eq_none.mp (by rw [z]; simp)), List.take_add_one, hpr]
        unfold kvT
        rw [List.map_append]
        rfl
      refine ⟨_, s2 _ _ eG, ?_, fun G3 s3 e3 => ⟨_, rfl, SameX.un (sG.trans s2) f1 s3, by rw [tk]; exact e3⟩⟩
      unfold kvT
      rw [List.length_map, List.length_take]
      have := ok.ln
      exact lt1000 (by omega)
    · rintro σ G ⟨v, rfl, sG, eG⟩
      walk_at "w"
      exact k G sG
  next => exact h.elim
/-- Lot(pairs), Lot(None) -/
def sp_Lot (K : PySem.W.Frag) : Sp := fun vs H Q _ => match vs with
  | [.ref p] => ∃ ps xs, H p = some (.lst xs) ∧ PL H ps xs ∧ PsOk ps ∧ ∀ a d H', H a = none → H d = none → Same H H' → LotAt K H' a d ps → Q (.ref a) H'
  | [.non] => ∀ a d H', H a = none → H d = none → Same H H' → LotAt K H' a d [] → Q (.ref a) H'
  | _ => False
def sp_Lot___init__ (K : PySem.W.Frag) : Sp := fun vs H Q _ => match vs with
  | [.ref a, .ref p] => ∃ dx H0 ps xs, H a = some (.ins (CLo K) dx []) ∧ H0 a = none ∧ Same H0 H ∧ H0 p = some (.lst xs) ∧ PL H0 ps xs ∧ PsOk ps ∧ ∀ d H', H0 d = none → Same H0 H' → LotAt K H' a d ps → Q .non H'
  | [.ref a, .non] => ∃ dx H0, H a = some (.ins (CLo K) dx []) ∧ H0 a = none ∧ Same H0 H ∧ ∀ d H', H0 d = none → Same H0 H' → LotAt K H' a d [] → Q .non H'
  | _ => False
theorem kvI_snoc {ps : List (Str × Int)} {i : Nat} {p : Str × Int} (nd : (ps.map (·.1)).Nodup) (h : ps[i]? = some p) : kvI (ps.take (i + 1)) = putK (kvI (ps.take i)) (.inr p.1) (.int p.2) := by
  have z : valV (kvI (ps.take i)) (.inr p.1) = none := by
    rw [valV_kvI]
    cases e : look (ps.take i) p.1 with
    | none => rfl
    | some c => exact absurd (look_some.mpr ⟨c, e⟩) (take_fst nd h)
  rw [putK_new z, List.take_add_one, h]
  unfold kvI
  rw [List.map_append]
  rfl
theorem mk_Lot (tp : Top K mg) : MkN P w K mg base 3 "Lot" (sp_Lot K) ∧ MkN P w K mg base 3 "Lot" (fun vs H Q E => sp_Lot K (vs ++ [.non]) H Q E) := by
  refine mk_byD (sp0 := sp_Lot___init__ K) tp.m_Lot___init__ tp.k_Lot.1 tp.k_Lot.2 tp.c_Lot sc_Lot___init__ (fun vs H Q E h => by unfold sp_Lot___init__ at h; split at h <;> first | rfl | exact h.elim) (fun vs H Q h y dy hy hdy hne => ?_) (fun f cdv A outer s H vs Q E hr h => ⟨_, (pss_cons (ps_set (i := 2) sc_Lot___init__.nd rfl (by first | exact Or.inl rfl | exact Or.inr rfl) (g_ifE (g_cmp op_isG (gv 1) pe_non (nomark _)) (g_lst pa_nil) (gv 1))) (pss_cons (g_if (pt_not (g_val (g_call (ok_are_pairs tp) hr rfl (by omega) (pa_cons (gv 2) pa_nil)))) (pss_one ps_never) pss_nil) (pss_one (k_fldS K rfl (gv 0) (g_dc rfl sc_Lot___init__.nd (kw_list K rfl (gv 2)) (blkOk_by (own := [("name", 3), ("worth", 4)]) (N := (["self", "pairs", "rows", "name", "worth"] : List Str)) (sc := defScope s_Lot___init__) (by decide +kernel)) (fun _ _ _ _ _ => k_tg2 K rfl rfl (pg_name (i := 3) sc_Lot___init__.nd rfl (by first | exact Or.inl rfl | exact Or.inr rfl)) (pg_name (i := 4) sc_Lot___init__.nd rfl (by first | exact Or.inl rfl | exact Or.inr rfl))) (fun _ _ _ _ _ => pts_nil) (fun _ _ _ _ _ => (gv 3)) (fun _ _ _ _ _ => (gv 4))) rfl)))), ?_⟩)
  · have s0 : ∀ o, Same H (upd (upd H dy (.own y)) y o) := fun o b u e => by rw [upd_ne (ne_of_none e hy), upd_ne (ne_of_none e hdy)]; exact e
    unfold sp_Lot at h
    split at h
    next p =>
      obtain ⟨ps, xs, h1, h2, h3, q⟩ := h
      exact ⟨dy, H, ps, xs, upd_same, hy, s0 _, h1, h2, h3, fun d H' f s l => ⟨rfl, q y d H' hy f s l⟩⟩
    next => exact ⟨dy, H, upd_same, hy, s0 _, fun d H' f s l => ⟨rfl, h y d H' hy f s l⟩⟩
    next => exact h.elim
  · unfold sp_Lot___init__ at h
    split at h
    next a p =>
      obtain ⟨dx, H0, ps, xs, ha, h0a, s0, hp, pl, ok, q⟩ := h
      have hl := pl.length
      walk_at "w"
      refine way_f ?_
      walk_at "w"
      refine ⟨ps, xs, s0 _ _ hp, pl.mono s0, ok, fun H1 s1 => ?_⟩
      refine way_f ?_
      have s2 := s0.trans s1
      walk_at "w"
      refine ⟨⟨xs, SqL.of (s2 _ _ hp)⟩, ?_⟩
      have hp1 := s2 _ _ hp
      refine dcG_by tg2_up (walkS_of walk_list) (fun i acc G => Same H1 G ∧ acc = kvI (ps.take i)) (fun i acc G G' s f => ⟨f.1.trans s, f.2⟩) (by rw [hl]; exact lt1000 ok.ln) ⟨Same.refl _, rfl⟩ (fun i acc H G _ f s => SqL.of (s _ _ (f.1 _ _ hp1))) (fun D i x acc H' hi hx hD hDl ha' f => ?_) (fun D H' acc hD hDl ha' f => ?_)
      · obtain ⟨s3, rfl⟩ := f
        obtain ⟨pr, b, hpr, rfl, hb⟩ := (pl.mono (s2.trans (s3.trans off_same))).at_ hx
        refine tg2_of hb ⟨rfl, way_t ?_⟩
        walk_at "w"
        exact ⟨hDl, s3, (kvI_snoc ok.nd hpr).symm⟩
      · obtain ⟨s3, rfl⟩ := f
        have s4 : Same H1 H' := s3.trans off_same
        have f0 := free_back s2 hD
        rw [hl, List.take_length] at hDl
        refine ⟨_, dx, [], s4 _ _ (s1 _ _ ha), tp.i_Lot.cl, tp.n_Lot_worths, (by decide), fun H5 s5 e5 => ?_⟩
        have nD : D ≠ a := by rintro rfl; rw [s1 _ _ ha] at hD; cases hD
        exact q D H5 f0 (SameX.un (s2.trans s4) h0a s5) ⟨⟨dx, e5⟩, s5 _ _ nD hDl, ok⟩
    next a =>
      obtain ⟨dx, H0, ha, h0a, s0, q⟩ := h
      walk_at "w"
      refine way_t ?_
      walk_at "w"
      refine ⟨(by show 0 ≤ sizeLine; decide), fun p H1 f1 s1 e1 => ?_⟩
      walk_at "w"
      refine ⟨[], [], e1, rfl, ⟨by simp, by simp, by simp⟩, fun H2 s2 => ?_⟩
      refine way_f ?_
      have hp1 := s2 _ _ e1
      walk_at "w"
      refine ⟨⟨[], SqL.of hp1⟩, ?_⟩
      refine dcG_by tg2_up (walkS_of (walk_list (xs := []))) (fun i acc G => Same H2 G ∧ acc = []) (fun i acc G G' s f => ⟨f.1.trans s, f.2⟩) (by decide) ⟨Same.refl _, rfl⟩ (fun i acc H G _ f s => SqL.of (s _ _ (f.1 _ _ hp1))) (fun D i x acc H' hi hx hD hDl ha' f => ?_) (fun D H' acc hD hDl ha' f => ?_)
      · simp at hx
      · obtain ⟨s3, rfl⟩ := f
        have s4 : Same H2 H' := s3.trans off_same
        have s02 : Same H0 H2 := s0.trans (s1.trans s2)
        have f0 := free_back s02 hD
        refine ⟨_, dx, [], s4 _ _ (s2 _ _ (s1 _ _ ha)), tp.i_Lot.cl, tp.n_Lot_worths, (by decide), fun H5 s5 e5 => ?_⟩
        have nD : D ≠ a := by rintro rfl; rw [s2 _ _ (s1 _ _ ha)] at hD; cases hD
        exact q D H5 f0 (SameX.un (s02.trans s4) h0a s5) ⟨⟨dx, e5⟩, s5 _ _ nD hDl, ⟨by simp, by simp, by simp⟩⟩
    next => exact h.elim
def sp_Lot___contains__ (K : PySem.W.Frag) : Sp := fun vs H Q _ => match vs with
  | [.ref a, .str z] => ∃ d ps, LotAt K H a d ps ∧ z.length ≤ 1000 ∧ ∀ H', Same H H' → Q (.bl (decide (z ∈ ps.map (·.1)))) H'
  | _ => False
theorem ok_Lot___contains__ (tp : Top K mg) : MtN P w K mg base 2 (CLo K) "__contains__" [] (sp_Lot___contains__ K) := by
  refine mt_by tp.m_Lot___contains__ sc_Lot___contains__ (fun vs H Q E h => by unfold sp_Lot___contains__ at h; split at h <;> first | rfl | exact h.elim) (fun f cdv A outer s H vs Q E hr h => ⟨_, (pss_one (ps_ret (g_andV (g_call (ok_is_name tp) hr rfl (by omega) (pa_cons (gv 1) pa_nil)) (pe_one (g_cmpV (k_din (Nat.lt_of_le_of_lt (Nat.add_le_add_left (by decide : 1 ≤ 64) _) hr.units)) (gv 1) (k_fld K rfl (gv 0) rfl) (by with_unfolding_all rfl)))))), ?_⟩)
  unfold sp_Lot___contains__ at h
  split at h
  next a z =>
    obtain ⟨d, ps, l, hz, k⟩ := h
    walk_at "w"
    refine ⟨hz, fun H1 s1 => ?_⟩
    by_cases c : IsNm z
    · rw [decide_eq_true c]
      refine way_t ?_
      obtain ⟨dx, ha⟩ := l.o
      walk_at "w"
      refine ⟨_, dx, _, .ref d, s1 _ _ ha, tp.i_Lot.cl, tp.n_Lot_worths, rfl, ?_⟩
      refine ⟨_, s1 _ _ l.k, ?_⟩
      rw [valV_kvI, Option.isSome_map, look_isSome]
      exact k H1 s1
    · rw [decide_eq_false c]
      refine way_f ?_
      have z1 := k H1 s1
      rw [decide_eq_false (fun q => by
        obtain ⟨p, hp, e⟩ := List.mem_map.mp q
        exact c (e ▸ l.ok.nm p hp))] at z1
      exact z1
  next => exact h.elim
def sp_Lot___getitem__ (K : PySem.W.Frag) : Sp := fun vs H Q _ => match vs with
  | [.ref a, .str z] => ∃ d ps c, LotAt K H a d ps ∧ look ps z = some c ∧ ∀ H', Same H H' → Q (.int c) H'
  | _ => False
theorem ok_Lot___getitem__ (tp : Top K mg) : MtN P w K mg base 3 (CLo K) "__getitem__" [] (sp_Lot___getitem__ K) := by
  refine mt_by tp.m_Lot___getitem__ sc_Lot___getitem__ (fun vs H Q E h => by unfold sp_Lot___getitem__ at h; split at h <;> first | rfl | exact h.elim) (fun f cdv A outer s H vs Q E hr h => ⟨_, (pss_cons (ps_expr (g_call (ok_check_name tp) hr rfl (by omega) (pa_cons (gv 1) pa_nil))) (pss_cons (g_if (g_cmp (k_ndin (Nat.lt_of_le_of_lt (Nat.add_le_add_left (by decide : 1 ≤ 64) _) hr.units)) (gv 1) (k_fld K rfl (gv 0) rfl) (by with_unfolding_all rfl)) (pss_one ps_never) pss_nil) (pss_one (ps_ret (g_dget (Nat.lt_of_le_of_lt (Nat.add_le_add_left (by decide : 1 ≤ 64) _) hr.units) (k_fld K rfl (gv 0) rfl) (gv 1)))))), ?_⟩)
  unfold sp_Lot___getitem__ at h
  split at h
  next a z =>
    obtain ⟨d, ps, c, l, hc, k⟩ := h
    have nm : IsNm z := l.ok.nm _ (look_mem hc)
    walk_at "w"
    refine ⟨nm, fun H1 s1 => ?_⟩
    obtain ⟨dx, ha⟩ := l.o
    walk_at "w"
    refine ⟨_, dx, _, .ref d, s1 _ _ ha, tp.i_Lot.cl, tp.n_Lot_worths, rfl, ?_⟩
    refine ⟨_, s1 _ _ l.k, ?_⟩
    rw [valV_kvI, hc]
    refine way_f ?_
    walk_at "w"
    refine ⟨_, dx, _, .ref d, s1 _ _ ha, tp.i_Lot.cl, tp.n_Lot_worths, rfl, ?_⟩
    refine ⟨_, .int c, s1 _ _ l.k, by rw [valV_kvI, hc]; rfl, ?_⟩
    exact k H1 s1
  next => exact h.elim
theorem kvI_len (ps : List (Str × Int)) : (kvI ps).length = ps.length := by unfold kvI; rw [List.length_map]
def sp_Lot___setitem__ (K : PySem.W.Frag) : Sp := fun vs H Q _ => match vs with
  | [.ref a, .str z, .int c] => ∃ d ps, LotAt K H a d ps ∧ IsNm z ∧ z ∉ ps.map (·.1) ∧ ps.length < 1000 ∧ ∀ H', SameX d H H' → LotAt K H' a d (ps ++ [(z, c)]) → Q .non H'
  | _ => False
theorem ok_Lot___setitem__ (tp : Top K mg) : MtN P w K mg base 3 (CLo K) "__setitem__" [] (sp_Lot___setitem__ K) := by
  refine mt_by tp.m_Lot___setitem__ sc_Lot___setitem__ (fun vs H Q E h => by unfold sp_Lot___setitem__ at h; split at h <;> first | rfl | exact h.elim) (fun f cdv A outer s H vs Q E hr h => ⟨_, (pss_cons (ps_expr (g_call (ok_check_name tp) hr rfl (by omega) (pa_cons (gv 1) pa_nil))) (pss_cons (ps_expr (g_call (ok_check_whole tp) hr rfl (by omega) (pa_cons (gv 2) pa_nil))) (pss_one (ps_asg (gv 2) (pg_sub (k_fld K rfl (gv 0) rfl) (gv 1) (s_dict (Nat.lt_of_le_of_lt (Nat.add_le_add_left (by decide : 1 ≤ 64) _) hr.units))))))), ?_⟩)
  unfold sp_Lot___setitem__ at h
  split at h
  next a z c =>
    obtain ⟨d, ps, l, nm, hz, ln, k⟩ := h
    walk_at "w"
    refine ⟨nm, fun H1 s1 => ?_⟩
    have l1 := l.mono s1
    obtain ⟨dx, ha1⟩ := l1.o
    walk_at "w"
    refine ⟨_, dx, _, .ref d, ha1, tp.i_Lot.cl, tp.n_Lot_worths, rfl, ?_⟩
    walk_at "w"
    refine ⟨kvI ps, l1.k, by unfold kvI; rw [List.length_map]; exact lt1000 (by omega), fun H5 s5 e5 => ?_⟩
    have pke : putK (kvI ps) (.inr z) (.int c) = kvI (ps ++ [(z, c)]) := by
      rw [putK_new]
      · unfold kvI; rw [List.map_append]; rfl
      · rw [valV_kvI]
        cases e : look ps z with
        | none => rfl
        | some v => exact absurd (look_some.mpr ⟨v, e⟩) hz
    rw [pke] at e5
    refine k H5 ((SameX.of s1).trans s5) ⟨⟨dx, s5 _ _ l1.ne ha1⟩, e5, ?_, ?_, ?_⟩
    · rw [List.map_append, List.nodup_append]
      exact ⟨l.ok.nd, by simp, fun x hx y hy e => hz ((e.trans (by simpa using hy)) ▸ hx)⟩
    · intro x hx
      rcases List.mem_append.mp hx with q | q
      · exact l.ok.nm x q
      · rw [List.mem_singleton.mp q]; exact nm
    · rw [List.length_append]; show _ + 1 ≤ _; omega
  next => exact h.elim
def sp_check_tree (K : PySem.W.Frag) : Sp := fun vs H Q _ => match vs with
  | [v] => ∃ t, MTk K H t v ∧ Q .non H
  | _ => False
theorem ok_check_tree (tp : Top K mg) : FnN P w K mg base 1 "check_tree" [] (sp_check_tree K) := by
  refine fn_by tp.f_check_tree sc_check_tree (fun vs H Q E h => by unfold sp_check_tree at h; split at h <;> first | rfl | exact h.elim) (fun f cdv A outer s H vs Q E hr h => ⟨_, (pss_one (g_if (pt_not (g_val (pe_callB (k_isi K rfl) (by rfl) tp.b_isinstance (by decide +kernel) (pa_cons (gv 0) (pa_cons (pe_glob (v := .ref _) rfl tp.c_Tree rfl) pa_nil))))) (pss_one ps_never) pss_nil)), ?_⟩)
  unfold sp_check_tree at h
  split at h
  next v =>
    obtain ⟨t, m, q⟩ := h
    walk_at "w"
    exact ⟨_, is_tree tp m, way_f q⟩
  next => exact h.elim
def sp_check_lot (K : PySem.W.Frag) : Sp := fun vs H Q _ => match vs with
  | [.ref a] => (∃ d ps, LotAt K H a d ps) ∧ Q .non H
  | _ => False
theorem ok_check_lot (tp : Top K mg) : FnN P w K mg base 1 "check_lot" [] (sp_check_lot K) := by
  refine fn_by tp.f_check_lot sc_check_lot (fun vs H Q E h => by unfold sp_check_lot at h; split at h <;> first | rfl | exact h.elim) (fun f cdv A outer s H vs Q E hr h => ⟨_, (pss_one (g_if (pt_not (g_val (pe_callB (k_isi K rfl) (by rfl) tp.b_isinstance (by decide +kernel) (pa_cons (gv 0) (pa_cons (pe_glob (v := .ref _) rfl tp.c_Lot rfl) pa_nil))))) (pss_one ps_never) pss_nil)), ?_⟩)
  unfold sp_check_lot at h
  split at h
  next a =>
    obtain ⟨⟨d, ps, l⟩, q⟩ := h
    obtain ⟨dx, ha⟩ := l.o
    walk_at "w"
    exact ⟨_, is_own ha tp.i_Lot tp.kit_Lot_Lot, way_f q⟩
  next => exact h.elim
def sp_check_end (K : PySem.W.Frag) : Sp := fun vs H Q _ => match vs with
  | [v, .int j] => ∃ t, MTk K H t v ∧ 1 ≤ j ∧ j ≤ t.width ∧ Q .non H
  | _ => False
theorem ok_check_end (tp : Top K mg) : FnN P w K mg base 3 "check_end" [] (sp_check_end K) := by
  refine fn_by tp.f_check_end sc_check_end (fun vs H Q E h => by unfold sp_check_end at h; split at h <;> first | rfl | exact h.elim) (fun f cdv A outer s H vs Q E hr h => ⟨_, (pss_one (ps_expr (g_call (ok_check_within tp) hr rfl (by omega) (pa_cons (gv 1) (pa_cons pe_int (pa_cons (PEor (g_prop (ok_Leaf_width tp) hr (by omega) (gv 0) rfl) (g_prop (ok_Group_width tp) hr (by omega) (gv 0) rfl)) pa_nil)))))), ?_⟩)
  unfold sp_check_end at h
  split at h
  next v j =>
    obtain ⟨t, m, h1, h2, q⟩ := h
    walk_at "w"
    refine rd_width (i := 0) rfl m ?_
    exact ⟨h1, h2, q⟩
  next => exact h.elim
theorem map_atS {α : Type} {f : α → V} {l : List α} {i : Nat} {x : V} (h : (l.map f)[i]? = some x) : ∃ a, l[i]? = some a ∧ x = f a := by
  rw [List.getElem?_map] at h
  cases e : l[i]? with
  | none => rw [e] at h; cases h
  | some a => rw [e] at h; exact ⟨a, rfl, (Option.some.inj h).symm⟩
theorem sh_nm : ∀ {t : T}, t.Sh → ∀ z ∈ t.names, IsNm z := by
  have key : ∀ n (t : T), sizeOf t ≤ n → t.Sh → ∀ z ∈ t.names, IsNm z := by
    intro n
    induction n with
    | zero => intro t h; cases t <;> simp at h
    | succ n ih =>
      intro t h sh z hz
      cases t with
      | leaf y =>
        obtain rfl : z = y := by simpa [T.names] using hz
        exact sh
      | grp rk ps =>
        rw [T.Sh] at sh
        rw [T.names] at hz
        obtain ⟨u, hu, hzu⟩ := T.mem_namesL.mp hz
        have : sizeOf u < sizeOf (T.grp rk ps) := by
          have := List.sizeOf_lt_of_mem hu
          simp only [T.grp.sizeOf_spec]; omega
        exact ih u (by omega) (T.ShL_iff.mp sh.2.2 u hu) z hzu
  exact fun {t} => key _ t (Nat.le_refl _)
def sp_check_full (K : PySem.W.Frag) : Sp := fun vs H Q _ => match vs with
  | [v, .ref a] => ∃ t d ps, MTk K H t v ∧ t.Gd ∧ LotAt K H a d ps ∧ (∀ z ∈ t.names, z ∈ ps.map (·.1)) ∧ ∀ H', Same H H' → Q .non H'
  | _ => False
theorem ok_check_full (tp : Top K mg) : FnN P w K mg base 48 "check_full" [] (sp_check_full K) := by
  refine fn_by tp.f_check_full sc_check_full (fun vs H Q E h => by unfold sp_check_full at h; split at h <;> first | rfl | exact h.elim) (fun f cdv A outer s H vs Q E hr h => ⟨_, (pss_one (g_for PassesOwn.never rfl (kw_list K rfl (PEor (g_meth0 (ok_Leaf_names tp) hr (by omega) (gv 0)) (g_meth0 (ok_Group_names tp 45) hr (by omega) (gv 0)))) (pg_name (i := 2) sc_check_full.nd rfl (by first | exact Or.inl rfl | exact Or.inr rfl)) (pss_one (g_if (g_cmp (op_ninO ((ok_Lot___contains__ tp).sp') (hr.mono (by omega))) (gv 2) (gv 1) (by with_unfolding_all rfl)) (pss_one ps_never) pss_nil)))), ?_⟩)
  unfold sp_check_full at h
  split at h
  next v a =>
    obtain ⟨t, d, ps, m, g, l, hall, k⟩ := h
    walk_at "w"
    refine rd_names (i := 0) (n := 45) rfl m g.dp g.sz fun p H1 f1 s1 e1 => ?_
    refine forw_list (xs := t.names.map V.str) (fun i σ G => ∃ v2, σ = [some v, some (.ref a), v2] ∧ Same H1 G) ⟨none, rfl, Same.refl _⟩ (fun i σ G _ ⟨_, _, sG⟩ => SqL.of (sG _ _ e1)) ?_ ?_
    · rintro i x σ G hx ⟨v2, rfl, sG⟩
      obtain ⟨z, hz, rfl⟩ := map_atS hx
      have hm := List.mem_of_getElem? hz
      have lG := l.mono (s1.trans sG)
      obtain ⟨dx, ha⟩ := lG.o
      walk_at "w"
      refine ⟨dx, _, ha, d, ps, lG, IsNm.le1000 (sh_nm g.sh z hm), fun G2 s2 => ?_⟩
      refine ⟨_, rfl, ?_⟩
      rw [decide_eq_true (hall z hm)]
      refine way_f ?_
      exact ⟨_, rfl, sG.trans s2⟩
    · rintro σ G ⟨v2, rfl, sG⟩
      exact k G (s1.trans sG)
  next => exact h.elim
def sp_check_partial (K : PySem.W.Frag) : Sp := fun vs H Q _ => match vs with
  | [v, .ref a, .int j] => ∃ t, MTk K H t v ∧ (∃ d ps, LotAt K H a d ps) ∧ 1 ≤ j ∧ j ≤ t.width ∧ Q .non H
  | _ => False
theorem ok_check_partial (tp : Top K mg) : FnN P w K mg base 49 "check_partial" [] (sp_check_partial K) := by
  refine fn_by tp.f_check_partial sc_check_partial (fun vs H Q E h => by unfold sp_check_partial at h; split at h <;> first | rfl | exact h.elim) (fun f cdv A outer s H vs Q E hr h => ⟨_, (pss_cons (ps_expr (g_call (ok_check_tree tp) hr rfl (by omega) (pa_cons (gv 0) pa_nil))) (pss_cons (ps_expr (g_call (ok_check_lot tp) hr rfl (by omega) (pa_cons (gv 1) pa_nil))) (pss_one (ps_expr (g_call (ok_check_end tp) hr rfl (by omega) (pa_cons (gv 0) (pa_cons (gv 2) pa_nil))))))), ?_⟩)
  unfold sp_check_partial at h
  split at h
  next v a j =>
    obtain ⟨t, m, l, h1, h2, q⟩ := h
    walk_at "w"
    refine ⟨t, m, ?_⟩
    walk_at "w"
    refine ⟨l, ?_⟩
    walk_at "w"
    exact ⟨t, m, h1, h2, q⟩
  next => exact h.elim
end LW
namespace LW
open PySem PySem.Spec L2 GG
variable {P : Program} {w : World} {K : PySem.W.Frag} {mg : Str → Option Value} {base : Heap}
theorem inV_strS (n : Str) (S : List Str) : inV (.str n) (S.map V.str) = decide (n ∈ S) := by
  induction S with
  | nil => rfl
  | cons a S ih =>
    unfold inV at ih ⊢
    rw [List.map_cons, List.any_cons, ih]
    by_cases h : n = a
    · subst h; simp [eqV]
    · have : ¬ a = n := fun q => h q.symm
      simp [eqV, h, this]
theorem inV_intS (n : Int) (S : List Int) : inV (.int n) (S.map V.int) = decide (n ∈ S) := by
  induction S with
  | nil => rfl
  | cons a S ih =>
    unfold inV at ih ⊢
    rw [List.map_cons, List.any_cons, ih]
    by_cases h : n = a
    · subst h; simp [eqV]
    · have : ¬ a = n := fun q => h q.symm
      simp [eqV, h, this]
theorem flat_strsS (S : List Str) : (S.map V.str).all flatV = true := by
  rw [List.all_eq_true]
  intro v hv
  obtain ⟨z, _, rfl⟩ := List.mem_map.mp hv
  rfl
theorem flat_intsS (S : List Int) : (S.map V.int).all flatV = true := by
  rw [List.all_eq_true]
  intro v hv
  obtain ⟨z, _, rfl⟩ := List.mem_map.mp hv
  rfl
theorem lowL_sumS (S : List Str) : ∀ ts : List T, (ts.map fun t => (t.low S : Int)).sum = (T.lowL S ts : Int)
  | [] => rfl
  | t :: ts => by rw [List.map_cons, List.sum_cons, lowL_sumS S ts, T.lowL]; omega
theorem filt_takeS {α : Type} {p : α → Bool} {l : List α} {i : Nat} {x : α} (h : l[i]? = some x) : (l.take (i + 1)).filter p = (l.take i).filter p ++ (if p x = true then [x] else []) := by
  rw [List.take_add_one, h, List.filter_append]
  show _ ++ [x].filter p = _
  rw [List.filter_cons, List.filter_nil]
def sp_Leaf___contains__ (K : PySem.W.Frag) : Sp := fun vs H Q _ => match vs with
  | [v, .str z] => ∃ n, MTk K H (.leaf n) v ∧ Q (.bl (decide (z = n))) H
  | _ => False
theorem ok_Leaf___contains__ (tp : Top K mg) : MtN P w K mg base 1 (CLf K) "__contains__" [] (sp_Leaf___contains__ K) := by
  refine mt_by tp.m_Leaf___contains__ sc_Leaf___contains__ (fun vs H Q E h => by unfold sp_Leaf___contains__ at h; split at h <;> first | rfl | exact h.elim) (fun f cdv A outer s H vs Q E hr h => ⟨_, (pss_one (ps_ret (g_andV (pe_callB (k_isi K rfl) (by rfl) tp.b_isinstance (by decide +kernel) (pa_cons (gv 1) (pa_cons (pe_bltn (v := .ty "str") rfl tp.b_str (by decide +kernel) rfl) pa_nil))) (pe_one (g_cmpV (k_eqG K rfl hr.units) (gv 1) (k_fld K rfl (gv 0) rfl) (nomark _)))))), ?_⟩)
  unfold sp_Leaf___contains__ at h
  split at h
  next v z =>
    obtain ⟨n, ⟨a, dx, rfl, h1⟩, q⟩ := h
    walk_at "w"
    refine ⟨_, is_ss, way_t ?_⟩
    walk_at "w"
    exact ⟨_, dx, _, .str n, h1, tp.i_Leaf.cl, tp.n_Leaf_label, rfl, q⟩
  next => exact h.elim
def sp_Group___contains__ (K : PySem.W.Frag) : Sp := fun vs H Q _ => match vs with
  | [v, .str z] => ∃ rk ps, MTk K H (.grp rk ps) v ∧ T.depthL ps < 45 ∧ (T.namesL ps).length ≤ 1000 ∧ ∀ H', Same H H' → Q (.bl (decide (z ∈ T.namesL ps))) H'
  | _ => False
theorem ok_Group___contains__ (tp : Top K mg) : MtN P w K mg base 47 (CGf K) "__contains__" [] (sp_Group___contains__ K) := by
  refine mt_by tp.m_Group___contains__ sc_Group___contains__ (fun vs H Q E h => by unfold sp_Group___contains__ at h; split at h <;> first | rfl | exact h.elim) (fun f cdv A outer s H vs Q E hr h => ⟨_, (pss_one (ps_ret (g_andV (pe_callB (k_isi K rfl) (by rfl) tp.b_isinstance (by decide +kernel) (pa_cons (gv 1) (pa_cons (pe_bltn (v := .ty "str") rfl tp.b_str (by decide +kernel) rfl) pa_nil))) (pe_one (g_cmpV (k_inG K rfl) (gv 1) (g_meth0 (ok_Group_names tp 45) hr (by omega) (gv 0)) (by with_unfolding_all rfl)))))), ?_⟩)
  unfold sp_Group___contains__ at h
  split at h
  next v z =>
    obtain ⟨rk, ps, m, hd, hz, k⟩ := h
    have m' := m
    obtain ⟨a, dx, p, r, us, rfl, h1, _⟩ := m
    walk_at "w"
    refine ⟨_, is_ss, way_t ?_⟩
    walk_at "w"
    refine ⟨dx, _, h1, rfl, rk, ps, m', hd, hz, fun p2 H2 f2 s2 e2 => ?_⟩
    refine ⟨_, Or.inl (SqL.of e2), rfl, flat_strsS _, ?_⟩
    rw [inV_strS]
    exact k H2 s2
  next => exact h.elim
/-- name in part -/
theorem rd_in {K : PySem.W.Frag} {f : Bool → Bool} {H : Hp} {Q : VK} {t : T} {v : V} {z : Str} (m : MTk K H t v) (g : t.Gd) (q : ∀ H', Same H H' → Q (.bl (f (decide (z ∈ t.names)))) H') :
    rInO (CLf K) (sp_Leaf___contains__ K) f (.str z) v H Q ∨ rInO (CGf K) (sp_Group___contains__ K) f (.str z) v H Q := by
  cases t with
  | leaf n =>
    have m' := m
    obtain ⟨a, dx, rfl, h⟩ := m
    left
    have z1 := q H (Same.refl _)
    rw [show decide (z ∈ (T.leaf n).names) = decide (z = n) from decide_eq_decide.mpr (by rw [T.names, List.mem_singleton])] at z1
    exact ⟨dx, _, h, n, m', _, rfl, z1⟩
  | grp rk ps =>
    have m' := m
    obtain ⟨a, dx, p, r, us, rfl, h, _⟩ := m
    obtain ⟨ok, _, _⟩ := g.pts
    right
    exact ⟨dx, _, h, rk, ps, m', ok.dp, ok.sz, fun H' s => ⟨_, rfl, q H' s⟩⟩
def sp_Leaf_low_ends (K : PySem.W.Frag) : Sp := fun vs H Q _ => match vs with
  | [v, .ref q] => ∃ z S, MTk K H (.leaf z) v ∧ H q = some (.lst (S.map V.str)) ∧ Q (.int ((T.leaf z).low S)) H
  | _ => False
theorem ok_Leaf_low_ends (tp : Top K mg) : MtN P w K mg base 1 (CLf K) "low_ends" [] (sp_Leaf_low_ends K) := by
  refine mt_by tp.m_Leaf_low_ends sc_Leaf_low_ends (fun vs H Q E h => by unfold sp_Leaf_low_ends at h; split at h <;> first | rfl | exact h.elim) (fun f cdv A outer s H vs Q E hr h => ⟨_, (pss_one (ps_ret (pe_callTy c_int (by rfl) tp.b_int (by decide +kernel) (pa_cons (g_cmpV (k_inG K rfl) (k_fld K rfl (gv 0) rfl) (gv 1) (by with_unfolding_all rfl)) pa_nil)))), ?_⟩)
  unfold sp_Leaf_low_ends at h
  split at h
  next v q =>
    obtain ⟨z, S, ⟨a, dx, rfl, h1⟩, hq, k⟩ := h
    walk_at "w"
    refine ⟨_, dx, _, .str z, h1, tp.i_Leaf.cl, tp.n_Leaf_label, rfl, ?_⟩
    refine ⟨_, Or.inl (SqL.of hq), rfl, flat_strsS S, ?_⟩
    rw [inV_strS]
    rw [T.low] at k
    walk_at "w"
    by_cases hm : z ∈ S
    · rw [if_pos hm] at k
      rw [decide_eq_true hm]; exact k
    · rw [if_neg hm] at k
      rw [decide_eq_false hm]; exact k
  next => exact h.elim
def sp_Group_low_ends (K : PySem.W.Frag) (n : Nat) : Sp := fun vs H Q _ => match vs with
  | [v, .ref q] => ∃ rk ps S, MTk K H (.grp rk ps) v ∧ (T.grp rk ps).Gd ∧ T.depthL ps < n ∧ H q = some (.lst (S.map V.str)) ∧ ∀ H', Same H H' → Q (.int ((T.grp rk ps).low S)) H'
  | _ => False
/-- what low_ends is asked of a tree -/
def spLow (K : PySem.W.Frag) (t : T) (v : V) : List V → Hp → VK → Prop := fun vs H Q => match vs with
  | [.ref q] => ∃ S, MTk K H t v ∧ H q = some (.lst (S.map V.str)) ∧ ∀ H', Same H H' → Q (.int (t.low S)) H'
  | _ => False
theorem rd_low {K : PySem.W.Frag} {i n : Nat} {σ : L2.St} {H : Hp} {Q : VK} {t : T} {v : V} {ta : TA} (hi : σ[i]? = some (some v)) (m : MTk K H t v) (hd : t.depth ≤ n) (g : t.Gd) (q : ta σ H fun vs H2 => spLow K t v vs H2 Q) :
    gMeth (CLf K) "low_ends" (sp_Leaf_low_ends K) [] (gVar i) (mcA ta) σ H Q ∨ gMeth (CGf K) "low_ends" (sp_Group_low_ends K n) [] (gVar i) (mcA ta) σ H Q := by
  cases t with
  | leaf z =>
    obtain ⟨a, dx, rfl, h⟩ := m
    left; unfold gMeth gVar; rw [hi]
    refine ⟨dx, _, h, rfl, _, fun vs H2 r => ?_, q⟩
    unfold spLow at r
    split at r
    next q' =>
      obtain ⟨S, m, hq, k⟩ := r
      exact ⟨z, S, m, hq, k H2 (Same.refl _)⟩
    next => exact r.elim
  | grp rk ps =>
    obtain ⟨a, dx, p, r, us, rfl, h, _⟩ := m
    right; unfold gMeth gVar; rw [hi]
    rw [T.depth] at hd
    refine ⟨dx, _, h, rfl, _, fun vs H2 r => ?_, q⟩
    unfold spLow at r
    split at r
    next q' =>
      obtain ⟨S, m, hq, k⟩ := r
      exact ⟨rk, ps, S, m, g, by omega, hq, k⟩
    next => exact r.elim
theorem ok_Group_low_ends (tp : Top K mg) : ∀ n, MtN P w K mg base (n + 2) (CGf K) "low_ends" [] (sp_Group_low_ends K n)
  | 0 => by
    refine mt_by tp.m_Group_low_ends sc_Group_low_ends (fun vs H Q E h => by unfold sp_Group_low_ends at h; split at h <;> first | rfl | exact h.elim) (fun f cdv A outer s H vs Q E hr h => ?_)
    exfalso
    unfold sp_Group_low_ends at h
    split at h
    next v q => obtain ⟨rk, ps, S, _, _, h, _⟩ := h; omega
    next => exact h
  | n + 1 => by
    have ih := ok_Group_low_ends tp n
    have okL : MtN P w K mg base (n + 2) (CLf K) "low_ends" [] (sp_Leaf_low_ends K) := (ok_Leaf_low_ends tp).up (by omega)
    refine mt_by tp.m_Group_low_ends sc_Group_low_ends (fun vs H Q E h => by unfold sp_Group_low_ends at h; split at h <;> first | rfl | exact h.elim) (fun f cdv A outer s H vs Q E hr h => ⟨_, (pss_cons (ps_set (i := 2) sc_Group_low_ends.nd rfl (by first | exact Or.inl rfl | exact Or.inr rfl) (pe_callB (k_sum K rfl rfl) (by rfl) tp.b_sum (by decide +kernel) (pa_cons (g_lc rfl sc_Group_low_ends.nd (kw_tup K rfl (k_fld K rfl (gv 0) rfl)) (blkOk_by (own := [("part", 3)]) (N := (["self", "low", "total", "part", "rank"] : List Str)) (sc := defScope s_Group_low_ends) (by decide +kernel)) (fun _ _ _ _ _ => pg_name (i := 3) sc_Group_low_ends.nd rfl (by first | exact Or.inl rfl | exact Or.inr rfl)) (fun _ _ _ _ _ => pts_nil) (fun _ _ _ _ _ => (PEor (g_meth (okL) hr (by omega) (gv 3) (PAm (pa_cons (gv 1) pa_nil))) (g_meth (ih) hr (by omega) (gv 3) (PAm (pa_cons (gv 1) pa_nil)))))) pa_nil))) (pss_one (ps_ret (pe_callB (k_len K rfl) (by rfl) tp.b_len (by decide +kernel) (pa_cons (g_lc rfl sc_Group_low_ends.nd (kw_tup K rfl (k_fld K rfl (gv 0) rfl)) (blkOk_by (own := [("rank", 4)]) (N := (["self", "low", "total", "part", "rank"] : List Str)) (sc := defScope s_Group_low_ends) (by decide +kernel)) (fun _ _ _ _ _ => pg_name (i := 4) sc_Group_low_ends.nd rfl (by first | exact Or.inl rfl | exact Or.inr rfl)) (fun _ _ _ _ _ => (pts_one (g_cmp op_leG (gv 4) (gv 2) (nomark _)))) (fun _ _ _ _ _ => (gv 4))) pa_nil))))), ?_⟩)
    unfold sp_Group_low_ends at h
    split at h
    next v q =>
      obtain ⟨rk, ps, S, m, g, hd, hq, k⟩ := h
      obtain ⟨a, dx, p, r, us, rfl, h1, h2, h3, h4⟩ := m
      have hus := h4.length
      obtain ⟨ok, rok, hrl⟩ := g.pts
      walk_at "w"
      refine ⟨_, dx, _, .ref r, h1, tp.i_Group.cl, tp.n_Group_rows, rfl, ?_⟩
      walk_at "w"
      refine comp_tup (xs := us) (fun i acc G => Same H G ∧ acc = (ps.take i).map fun t => V.int (t.low S)) (by rw [hus]; exact lt1000 ok.ln) ⟨Same.refl _, rfl⟩ (fun i acc G f => SqT.of (f.1 _ _ h3)) (fun D i x acc H' hx hD hDl hq' f => ⟨rfl, ?_⟩) (fun D H' acc hD hDl hq' f => ?_)
      · obtain ⟨s1, rfl⟩ := f
        have s2 := s1.trans off_same
        obtain ⟨t, ht, mt⟩ := (h4.mono s2).at_ hx
        have hm := List.mem_of_getElem? ht
        have hdt := T.depthL_le hm
        refine way_t ?_
        refine rd_low (i := 3) rfl mt (by omega) (g.part hm) ?_
        walk_at "w"
        refine ⟨S, mt, s2 _ _ hq, fun H4 s4 => ?_⟩
        refine ⟨s4 _ _ hDl, s1.trans (off_mono s4), ?_⟩
        rw [List.take_add_one, ht, List.map_append]
        rfl
      · obtain ⟨s1, rfl⟩ := f
        rw [hus, List.take_length] at hDl
        have s2 : Same H H' := s1.trans off_same
        walk_at "w"
        refine ⟨ps.map fun t => (t.low S : Int), SqL.of (by rw [List.map_map]; exact hDl), ?_⟩
        rw [lowL_sumS]
        walk_at "w"
        refine ⟨_, dx, _, .ref p, s2 _ _ h1, tp.i_Group.cl, tp.n_Group_picks, rfl, ?_⟩
        walk_at "w"
        refine comp_tup (xs := rk.map V.int) (fun i acc G => Same H' G ∧ acc = ((rk.take i).filter fun d => decide (d ≤ (T.lowL S ps : Int))).map V.int) (by rw [List.length_map]; exact lt1000 hrl) ⟨Same.refl _, rfl⟩ (fun i acc G f => SqT.of (f.1 _ _ (s2 _ _ h2))) (fun D i x acc H3 hx hD hDl hq3 f => ⟨rfl, ?_⟩) (fun D H3 acc hD hDl hq3 f => ?_)
        · obtain ⟨s3, rfl⟩ := f
          obtain ⟨r0, hr0, rfl⟩ := map_at hx
          have e := filt_takeS (p := fun d => decide (d ≤ (T.lowL S ps : Int))) hr0
          walk_at "w"
          refine way_d (fun c => ?_) fun c => ?_
          · refine ⟨hDl, s3, ?_⟩
            rw [e, if_pos (decide_eq_true c), List.map_append]
            rfl
          · refine ⟨hDl, s3, ?_⟩
            rw [e, if_neg (by simpa using c), List.append_nil]
        · obtain ⟨s3, rfl⟩ := f
          rw [List.length_map, List.take_length] at hDl
          walk_at "w"
          refine ⟨_, Or.inl (SqL.of hDl), ?_⟩
          rw [List.length_map]
          have z1 := k H3 (s2.trans (s3.trans off_same))
          rw [T.low] at z1
          exact z1
    next => exact h.elim
def sp_swings (K : PySem.W.Frag) (n : Nat) : Sp := fun vs H Q _ => match vs with
  | [v, .str z, .ref lq, .ref fq] => ∃ t L F, MTk K H t v ∧ t.Gd ∧ t.depth < n ∧ z ∈ t.names ∧ H lq = some (.lst (L.map V.str)) ∧ H fq = some (.lst (F.map V.str)) ∧ L.length + F.length ≤ 1000 ∧ t.names.length ≤ 60 ∧
    ∀ (ns : List Int) p H', ns.Pairwise (· < ·) → (∀ k, k ∈ ns ↔ t.SW z L F k) → H p = none → Same H H' → H' p = some (.lst (ns.map V.int)) → Q (.ref p) H'
  | _ => False
theorem SWL_snoc {n : Str} {L F : List Str} {k : Int} {as : List T} {p : T} : T.SWL n L F (as ++ [p]) k ↔ T.SWL n L F as k ∨ (n ∈ p.names ∧ p.SW n L F k) := by
  rw [T.SWL_iff, T.SWL_iff]
  simp only [List.mem_append, List.mem_singleton]
  constructor
  · rintro ⟨q, h | h, a, b⟩
    · exact .inl ⟨q, h, a, b⟩
    · subst h; exact .inr ⟨a, b⟩
  · rintro (⟨q, h, a, b⟩ | ⟨a, b⟩)
    · exact ⟨q, .inl h, a, b⟩
    · exact ⟨p, .inr rfl, a, b⟩
theorem others_snoc {n : Str} {as : List T} {p : T} : T.others n (as ++ [p]) = T.others n as ++ (if n ∈ p.names then [] else [p]) := by
  unfold T.others
  rw [List.filter_append, List.filter_cons, List.filter_nil]
  by_cases h : n ∈ p.names <;> simp [h]
theorem not_before {n : Str} {ps : List T} {i : Nat} {p : T} (nd : (T.namesL ps).Nodup) (hp : ps[i]? = some p) (hn : n ∈ p.names) : n ∉ T.namesL (ps.take i) := by
  have e : ps = ps.take i ++ p :: ps.drop (i + 1) := by
    obtain ⟨hi, e⟩ := List.getElem?_eq_some_iff.mp hp
    rw [← e, List.getElem_cons_drop, List.take_append_drop]
  rw [e, T.namesL_append, T.namesL, List.nodup_append] at nd
  intro q
  exact nd.2.2 _ q _ (List.mem_append_left _ hn) rfl
theorem SW_le {n : Str} {L F : List Str} {k : Int} {t : T} (h : t.SW n L F k) : 0 ≤ k ∧ k ≤ t.width := by
  cases t with
  | leaf z =>
    rw [T.SW] at h
    subst h
    exact ⟨Int.le_refl _, by show (0 : Int) ≤ (1 : Nat); omega⟩
  | grp rk ps =>
    rw [T.SW] at h
    obtain ⟨num, more, _, _, _, _, rfl⟩ := h
    have := List.length_filter_le (fun r => decide (r ≤ num + more)) rk
    rw [T.width]
    omega
theorem SWL_le {n : Str} {L F : List Str} {k : Int} {ps : List T} (h : T.SWL n L F ps k) : 0 ≤ k ∧ k ≤ T.taken ps := by
  obtain ⟨p, hp, _, sw⟩ := T.SWL_iff.mp h
  have a := SW_le sw
  have b : p.width ≤ T.taken ps := by
    clear h a sw
    induction ps with
    | nil => simp at hp
    | cons q ps ih =>
      rw [T.taken]
      rcases List.mem_cons.mp hp with e | e
      · subst e; omega
      · have := ih e; omega
  omega
theorem lowL_le1000 {S : List Str} {ps : List T} {n : Str} (ok : PtsOk ps) (i : Nat) : T.lowL S (T.others n (ps.take i)) ≤ 1000 := by
  have a := T.lowL_le (S := S) (T.others n (ps.take i))
  have b : ∀ {as bs : List T}, as.Sublist bs → T.taken as ≤ T.taken bs := by
    intro as bs h
    induction h with
    | slnil => exact Nat.le_refl _
    | cons x _ ih => rw [T.taken]; omega
    | cons_cons x _ ih => rw [T.taken, T.taken]; omega
  have c := b (List.filter_sublist (l := ps.take i) (p := fun t => !decide (n ∈ t.names)))
  have d := T.taken_take_le ps i
  have := ok.tk
  unfold T.others at a ⊢
  omega
theorem ok_swings (tp : Top K mg) : ∀ n, FnN P w K mg base (n + 50) "swings" [] (sp_swings K n)
  | 0 => by
    refine fn_by tp.f_swings sc_swings (fun vs H Q E h => by unfold sp_swings at h; split at h <;> first | rfl | exact h.elim) (fun f cdv A outer s H vs Q E hr h => ?_)
    exfalso
    unfold sp_swings at h
    split at h
    next v z lq fq => obtain ⟨t, L, F, _, _, h, _⟩ := h; omega
    next => exact h
  | n + 1 => by
    have ih := ok_swings tp n
    refine fn_by tp.f_swings sc_swings (fun vs H Q E h => by unfold sp_swings at h; split at h <;> first | rfl | exact h.elim) (fun f cdv A outer s H vs Q E hr h => ⟨_, (pss_cons (g_if (g_val (pe_callB (k_isi K rfl) (by rfl) tp.b_isinstance (by decide +kernel) (pa_cons (gv 0) (pa_cons (pe_glob (v := .ref _) rfl tp.c_Leaf rfl) pa_nil)))) (pss_one (ps_ret (g_lst (pa_cons pe_int pa_nil)))) pss_nil) (pss_cons (ps_set (i := 4) sc_swings.nd rfl (by first | exact Or.inl rfl | exact Or.inr rfl) pe_int) (pss_cons (ps_set (i := 5) sc_swings.nd rfl (by first | exact Or.inl rfl | exact Or.inr rfl) pe_int) (pss_cons (ps_set (i := 6) sc_swings.nd rfl (by first | exact Or.inl rfl | exact Or.inr rfl) (g_lst pa_nil)) (pss_cons (g_for PassesOwn.never rfl (kw_list K rfl (g_prop (ok_Group_parts tp) hr (by omega) (gv 0) rfl)) (pg_name (i := 7) sc_swings.nd rfl (by first | exact Or.inl rfl | exact Or.inr rfl)) (pss_one (g_if (g_cmp (OpRor (op_inO (((ok_Leaf___contains__ tp).sp')) (hr.mono (by omega))) (op_inO (((ok_Group___contains__ tp).sp')) (hr.mono (by omega)))) (gv 1) (gv 7) (by with_unfolding_all rfl)) (pss_one (ps_set (i := 6) sc_swings.nd rfl (by first | exact Or.inl rfl | exact Or.inr rfl) (g_call (ih) hr rfl (by omega) (pa_cons (gv 7) (pa_cons (gv 1) (pa_cons (gv 2) (pa_cons (gv 3) pa_nil))))))) (pss_cons (g_aug (i := 4) sc_swings.nd rfl (by first | exact Or.inl rfl | exact Or.inr rfl) (PEor (g_meth (ok_Leaf_low_ends tp) hr (by omega) (gv 7) (PAm (pa_cons (gv 2) pa_nil))) (g_meth (ok_Group_low_ends tp 45) hr (by omega) (gv 7) (PAm (pa_cons (gv 2) pa_nil))))) (pss_one (g_aug (i := 5) sc_swings.nd rfl (by first | exact Or.inl rfl | exact Or.inr rfl) (PEor (g_meth (ok_Leaf_low_ends tp) hr (by omega) (gv 7) (PAm (pa_cons (pe_op op_addG (gv 2) (gv 3)) pa_nil))) (g_meth (ok_Group_low_ends tp 45) hr (by omega) (gv 7) (PAm (pa_cons (pe_op op_addG (gv 2) (gv 3)) pa_nil)))))))))) (pss_cons (g_setLc2 (i := 8) rfl sc_swings.nd rfl rfl (sw_true rfl rfl rfl (by decide +kernel)) (kw_list K rfl (gv 6)) (blkOk_by (own := [("number", 10), ("more", 11)]) (N := (["tree", "name", "low", "free", "least", "most", "inner", "part", "totals", "ranks", "number", "more", "rank", "total"] : List Str)) (sc := defScope s_swings) (by decide +kernel)) (vs1 := [11]) (by decide) (fun _ _ _ _ _ => pg_name (i := 10) sc_swings.nd rfl (by first | exact Or.inl rfl | exact Or.inr rfl)) (fun _ _ _ _ _ => (w_range2 rfl tp.b_range (pa_cons (gv 4) (pa_cons (pe_op op_addG (gv 5) pe_int) pa_nil)))) (fun _ _ _ _ _ => pg_name (i := 11) sc_swings.nd rfl (by first | exact Or.inl rfl | exact Or.inr rfl)) (fun _ _ _ _ _ => (pe_op op_addG (gv 10) (gv 11)))) (pss_cons (ps_set (i := 9) sc_swings.nd rfl (by first | exact Or.inl rfl | exact Or.inr rfl) (g_prop (ok_Group_ranks tp) hr (by omega) (gv 0) rfl)) (pss_one (ps_ret (pe_callB (c_sortSet w rfl rfl) (by rfl) tp.b_sorted (by decide +kernel) (pa_cons (k_set1 w rfl rfl sc_swings.nd (kw_list K rfl (gv 8)) (blkOk_by (own := [("total", 13)]) (N := (["tree", "name", "low", "free", "least", "most", "inner", "part", "totals", "ranks", "number", "more", "rank", "total"] : List Str)) (sc := defScope s_swings) (by decide +kernel)) (fun _ _ _ _ _ => pg_name (i := 13) sc_swings.nd rfl (by first | exact Or.inl rfl | exact Or.inr rfl)) (fun _ _ _ _ _ => (pts_one (g_cmp (k_inG K rfl) (pe_op op_addG (gv 13) pe_int) (gv 9) (by with_unfolding_all rfl)))) (fun _ _ _ _ _ => (PEm (pe_callB (k_len K rfl) (by rfl) tp.b_len (by decide +kernel) (pa_cons (g_lc rfl sc_swings.nd (kw_list K rfl (gv 9)) (blkOk_by (own := [("rank", 12)]) (N := (["tree", "name", "low", "free", "least", "most", "inner", "part", "totals", "ranks", "number", "more", "rank", "total"] : List Str)) (by kernel_rfl)) (fun _ _ _ _ _ => pg_name (i := 12) sc_swings.nd rfl (by first | exact Or.inl rfl | exact Or.inr rfl)) (fun _ _ _ _ _ => (pts_one (g_cmp op_leG (gv 12) (gv 13) (nomark _)))) (fun _ _ _ _ _ => (gv 12))) pa_nil))))) pa_nil))))))))))), ?_⟩)
    unfold sp_swings at h
    split at h
    next v z lq fq =>
      obtain ⟨t, L, F, m, g, hd, hz, hL, hF, hlen, h60, k⟩ := h
      walk_at "w"
      refine ⟨_, is_leafT tp m, ?_⟩
      cases t with
      | leaf y =>
        refine way_t ?_
        walk_at "w"
        refine ⟨(by show 1 ≤ sizeLine; decide), fun p H' f1 s1 e1 => k [0] p H' (by simp) (fun q => by rw [T.SW]; simp) f1 s1 e1⟩
      | grp rk ps =>
        have m' := m
        obtain ⟨a, dx, pp, rr, us, rfl, h1, h2, h3, h4⟩ := m
        obtain ⟨ok, rok, hrl⟩ := g.pts
        rw [T.depth] at hd
        rw [T.names] at hz
        refine way_f ?_
        walk_at "w"
        refine ⟨(by show 0 ≤ sizeLine; decide), fun p0 H0 f0 s0 e0 => ?_⟩
        walk_at "w"
        refine ⟨dx, _, s0 _ _ h1, rk, ps, m'.mono s0, fun p1 us1 H1 f1 s1 hm1 e1 => ?_⟩
        have hus := hm1.length
        have s01 := s0.trans s1
        refine forw_list (xs := us1) (fun i σ G => ∃ p3 v3 ns, σ = [some (.ref a), some (.str z), some (.ref lq), some (.ref fq), some (.int (T.lowL L (T.others z (ps.take i)))), some (.int (T.lowL (L ++ F) (T.others z (ps.take i)))), some (.ref p3), v3, none, none, none, none, none, none] ∧ Same H1 G ∧ G p3 = some (.lst (ns.map V.int)) ∧ ns.Pairwise (· < ·) ∧ ∀ k, k ∈ ns ↔ T.SWL z L F (ps.take i) k)
          ⟨p0, none, [], rfl, Same.refl _, s1 _ _ e0, by simp, fun k => by rw [List.take_zero, T.SWL]; simp⟩ (fun i σ G _ ⟨_, _, _, _, sG, _⟩ => SqL.of (sG _ _ e1)) ?_ ?_
        · rintro i x σ G hx ⟨p3, v3, ns, rfl, sG, e3, asc, mem⟩
          obtain ⟨t, ht, mt⟩ := (hm1.mono (s1.trans sG)).at_ hx
          have hm := List.mem_of_getElem? ht
          have hdt := T.depthL_le hm
          have gt := g.part hm
          have tk : ps.take (i + 1) = ps.take i ++ [t] := by rw [List.take_add_one, ht]; rfl
          have s1G := s01.trans sG
          walk_at "w"
          refine rd_in mt gt fun G2 s2 => ?_
          refine way_d (fun c => ?_) fun c => ?_
          · walk_at "w"
            refine ⟨t, L, F, mt.mono s2, gt, by omega, c, s2 _ _ (s1G _ _ hL), s2 _ _ (s1G _ _ hF), hlen, Nat.le_trans (T.namesL_mem hm).length_le h60, fun ns2 p4 G3 asc2 mem2 f3 s3 e4 => ?_⟩
            have nb := not_before ok.nd ht c
            refine ⟨p4, some x, ns2, ?_, sG.trans (s2.trans s3), e4, asc2, fun k => ?_⟩
            · rw [tk, others_snoc, if_pos c, List.append_nil]; rfl
            · rw [mem2, tk, SWL_snoc]
              refine ⟨fun q => .inr ⟨c, q⟩, fun q => q.elim (fun q => ?_) fun q => q.2⟩
              obtain ⟨p, hp, hn, _⟩ := T.SWL_iff.mp q
              exact absurd (T.mem_namesL.mpr ⟨p, hp, hn⟩) nb
          · have q1 : (T.lowL L (T.others z (ps.take (i + 1))) : Int) = (T.lowL L (T.others z (ps.take i)) : Int) + (t.low L : Int) := by
              rw [tk, others_snoc, if_neg c, T.lowL_append, T.lowL, T.lowL]; omega
            have q2 : (T.lowL (L ++ F) (T.others z (ps.take (i + 1))) : Int) = (T.lowL (L ++ F) (T.others z (ps.take i)) : Int) + (t.low (L ++ F) : Int) := by
              rw [tk, others_snoc, if_neg c, T.lowL_append, T.lowL, T.lowL]; omega
            walk_at "w"
            refine rd_low (i := 7) rfl (mt.mono s2) gt.dp gt ?_
            walk_at "w"
            refine ⟨L, mt.mono s2, s2 _ _ (s1G _ _ hL), fun G4 s4 => ?_⟩
            have s24 := s2.trans s4
            walk_at "w"
            refine rd_low (i := 7) rfl (mt.mono s24) gt.dp gt ?_
            walk_at "w"
            refine ⟨_, _, s24 _ _ (s1G _ _ hL), s24 _ _ (s1G _ _ hF), by rw [List.length_map, List.length_map]; exact Nat.le_trans hlen (by decide), fun p5 G5 f5 s5 e5 => ?_⟩
            refine ⟨L ++ F, mt.mono (s24.trans s5), by rw [e5, List.map_append], fun G6 s6 => ?_⟩
            have s26 := s24.trans (s5.trans s6)
            refine ⟨p3, some x, ns, ?_, sG.trans s26, s26 _ _ e3, asc, fun k => ?_⟩
            · rw [q1, q2]; rfl
            · rw [tk, SWL_snoc, ← mem]
              exact ⟨.inl, fun q => q.elim id fun q => absurd q.1 c⟩
        · rintro σ G ⟨p3, v3, ns, rfl, sG, e3, asc, mem⟩
          rw [hus, List.take_length] at mem ⊢
          have lo1 : T.lowL (L ++ F) (T.others z ps) ≤ 1000 := by
            have := lowL_le1000 (S := L ++ F) (n := z) ok ps.length
            rw [List.take_length] at this; exact this
          have lo2 : T.lowL L (T.others z ps) ≤ 1000 := by
            have := lowL_le1000 (S := L) (n := z) ok ps.length
            rw [List.take_length] at this; exact this
          have nlen : ns.length ≤ 1001 := by
            have := asc_len (lo := 0) (hi := T.taken ps) asc (fun r hr => (SWL_le ((mem r).mp hr)).1) (fun r hr => (SWL_le ((mem r).mp hr)).2)
            have := ok.tk
            omega
          generalize eA : T.lowL L (T.others z ps) = lo at lo2
          generalize eB : T.lowL (L ++ F) (T.others z ps) = hi at lo1
          walk_at "w"
          refine comp2_list (xs := ns.map V.int) (fun i acc G2 => Same G G2 ∧ ∃ ts : List Int, acc = ts.map V.int ∧ ts.length ≤ i * 1001 ∧ ∀ x, x ∈ ts ↔ ∃ num ∈ ns.take i, ∃ more : Int, (lo : Int) ≤ more ∧ more ≤ (hi : Int) ∧ x = num + more) ⟨Same.refl _, [], rfl, by simp, fun x => by simp⟩ (fun i acc G2 f => SqL.of (f.1 _ _ e3)) (fun D i x acc H' hx hD hDl f => ⟨rfl, ?_⟩) (fun D H' acc hD hDl f => ?_)
          · obtain ⟨s5, ts, rfl, tl, tm⟩ := f
            obtain ⟨num, hnum, rfl⟩ := map_at hx
            have hi' : i < ns.length := (List.getElem?_eq_some_iff.mp hnum).1
            walk_at "w"
            refine ⟨⟨by omega, by omega, by omega, by omega⟩, ?_⟩
            refine ⟨hDl, _, fun _ => True, _, fun k acc G2 => Same G G2 ∧ ∃ us : List Int, acc = us.map V.int ∧ us.length ≤ i * 1001 + k ∧ ∀ x, x ∈ us ↔ x ∈ ts ∨ ∃ r : Nat, r < k ∧ x = num + ((lo : Int) + (r : Int)), walk_range, ⟨s5, ts, rfl, by omega, fun x => by simp⟩, fun _ _ _ _ _ _ _ => trivial, fun k y acc H5 hk hy e5 f5 => ⟨rfl, ?_⟩, fun acc G2 f => ?_⟩
            · obtain ⟨s6, us, rfl, ul, um⟩ := f5
              subst hy
              walk_at "w"
              refine ⟨e5, ?_, s6, us ++ [num + ((lo : Int) + (k : Int))], by rw [List.map_append]; rfl, by rw [List.length_append]; simp; omega, fun x => ?_⟩
              · rw [List.length_map]
                exact Nat.lt_of_le_of_lt (by have := Nat.mul_le_mul_right 1001 (Nat.le_of_lt hi'); have : ns.length * 1001 ≤ 1001 * 1001 := Nat.mul_le_mul_right 1001 nlen; omega : us.length ≤ 1010000) (by decide)
              · rw [List.mem_append, List.mem_singleton, um]
                constructor
                · rintro ((h | ⟨r, hr, e⟩) | e)
                  · exact .inl h
                  · exact .inr ⟨r, by omega, e⟩
                  · exact .inr ⟨k, by omega, e⟩
                · rintro (h | ⟨r, hr, e⟩)
                  · exact .inl (.inl h)
                  · rcases Nat.lt_or_ge r k with q | q
                    · exact .inl (.inr ⟨r, q, e⟩)
                    · have : r = k := by omega
                      subst this; exact .inr e
            · obtain ⟨s6, us, rfl, ul, um⟩ := f
              refine ⟨s6, us, rfl, by omega, fun x => ?_⟩
              rw [um, tm, List.take_add_one, hnum]
              constructor
              · rintro (⟨nu, h1, mo, h2, h3, h4⟩ | ⟨r, hr, e⟩)
                · exact ⟨nu, List.mem_append_left _ h1, mo, h2, h3, h4⟩
                · exact ⟨num, List.mem_append_right _ (List.mem_cons_self ..), (lo : Int) + (r : Int), by omega, by omega, e⟩
              · rintro ⟨nu, h1, mo, h2, h3, h4⟩
                rcases List.mem_append.mp h1 with q | q
                · exact .inl ⟨nu, q, mo, h2, h3, h4⟩
                · have : nu = num := by simpa using q
                  subst this
                  exact .inr ⟨(mo - (lo : Int)).toNat, by omega, by omega⟩
          · obtain ⟨s5, ts, rfl, tl, tm⟩ := f
            rw [List.length_map, List.take_length] at tm
            have s6 : Same G H' := s5.trans off_same
            have s7 : Same H H' := s01.trans (sG.trans s6)
            walk_at "w"
            refine ⟨dx, _, s7 _ _ h1, rk, ps, m'.mono s7, fun p8 H8 f8 s8 e8 => ?_⟩
            walk_at "w"
            have hDt := s8 _ _ hDl
            refine ⟨⟨_, SqL.of hDt⟩, fun D1 G1 hD1 sG1 oG1 eG1 => ?_⟩
            have hD1' : H8 D1 = none := hD1
            have nD8 : p8 ≠ D1 := ne_of_none e8 hD1'
            refine (cl_list (K := K) (xs := ts.map V.int) gName_up (fun i G => SameX D1 H8 G ∧ ∃ l : List Int, SetL w G D1 l ∧ l.Nodup ∧ ∀ k, k ∈ l ↔ ∃ x ∈ ts.take i, x + 1 ∈ rk ∧ k = ((rk.filter fun r => decide (r ≤ x)).length : Int)) ⟨SameX.of sG1, [], SetL.nil eG1, by simp, fun k => by simp⟩ (fun i G _ f => SqL.of (f.1 _ _ (ne_of_none hDt hD1') hDt)) (fun i x G hx f => ⟨rfl, ?_⟩) (fun G f => ?_)).2
            · obtain ⟨sG, l, sl, ln, lm⟩ := f
              obtain ⟨x0, hx0, rfl⟩ := map_at hx
              have tk : ts.take (i + 1) = ts.take i ++ [x0] := by rw [List.take_add_one, hx0]; rfl
              have e8G := sG _ _ nD8 e8
              walk_at "w"
              refine ⟨_, Or.inl (SqL.of e8G), rfl, flat_intsS rk, ?_⟩
              rw [inV_intS]
              refine way_d (fun c => ?_) fun c => ?_
              · refine tAdd_ofM (l := l) ?_
                walk_at "w"
                refine comp_list (xs := rk.map V.int) (fun i acc G2 => Same G G2 ∧ acc = ((rk.take i).filter fun d => decide (d ≤ x0)).map V.int) (by rw [List.length_map]; exact lt1000 hrl) ⟨Same.refl _, rfl⟩ (fun i acc G2 f => SqL.of (f.1 _ _ e8G)) (fun D2 i2 y acc H3 hy hD2 hDl2 hq3 f => ⟨rfl, ?_⟩) (fun D2 H3 acc hD2 hDl2 hq3 f => ?_)
                · obtain ⟨s3, rfl⟩ := f
                  obtain ⟨r0, hr0, rfl⟩ := map_at hy
                  have e := filt_takeS (p := fun d => decide (d ≤ x0)) hr0
                  walk_at "w"
                  refine way_d (fun c => ?_) fun c => ?_
                  · refine ⟨hDl2, s3, ?_⟩
                    rw [e, if_pos (decide_eq_true c), List.map_append]
                    rfl
                  · refine ⟨hDl2, s3, ?_⟩
                    rw [e, if_neg (by simpa using c), List.append_nil]
                · obtain ⟨s3, rfl⟩ := f
                  rw [List.length_map, List.take_length] at hDl2
                  have s4 : Same G H3 := s3.trans off_same
                  walk_at "w"
                  refine ⟨_, Or.inl (SqL.of hDl2), ?_⟩
                  rw [List.length_map]
                  have rw60 : rk.length ≤ 60 := Nat.le_trans (T.width_le g.sh).1 h60
                  have llen : l.length ≤ 61 := by
                    have := ln.length_le_of_subset (l₂ := (List.range (rk.length + 1)).map fun k : Nat => (k : Int)) fun k hk => by
                      obtain ⟨x, _, _, rfl⟩ := (lm k).mp hk
                      have := List.length_filter_le (fun r => decide (r ≤ x)) rk
                      exact List.mem_map.mpr ⟨_, List.mem_range.mpr (by omega), rfl⟩
                    rw [List.length_map, List.length_range] at this
                    omega
                  obtain ⟨S, nn, eS, _⟩ := sl
                  refine ⟨⟨S, nn, s4 _ _ eS, ‹_›⟩, by omega, fun G6 s6' sl6 => ⟨sG.trans ((SameX.of s4).trans s6'), _, sl6, ?_, fun k => ?_⟩⟩
                  · split
                    · exact ln
                    · rename_i q
                      rw [List.nodup_append]
                      exact ⟨ln, by simp, fun a ha b hb e => q (by rw [← List.mem_singleton.mp hb, ← e]; exact ha)⟩
                  · have base : (k ∈ (if ((rk.filter fun d => decide (d ≤ x0)).length : Int) ∈ l then l else l ++ [((rk.filter fun d => decide (d ≤ x0)).length : Int)])) ↔ (k ∈ l ∨ k = ((rk.filter fun d => decide (d ≤ x0)).length : Int)) := by
                      by_cases q : ((rk.filter fun d => decide (d ≤ x0)).length : Int) ∈ l
                      · rw [if_pos q]; exact ⟨.inl, fun w => w.elim id fun w => w ▸ q⟩
                      · rw [if_neg q, List.mem_append, List.mem_singleton]
                    rw [base, lm, tk]
                    constructor
                    · rintro (⟨x, h1, h2, h3⟩ | h)
                      · exact ⟨x, List.mem_append_left _ h1, h2, h3⟩
                      · exact ⟨x0, List.mem_append_right _ (List.mem_cons_self ..), c, h⟩
                    · rintro ⟨x, h1, h2, h3⟩
                      rcases List.mem_append.mp h1 with q | q
                      · exact .inl ⟨x, q, h2, h3⟩
                      · have : x = x0 := by simpa using q
                        subst this; exact .inr h3
              · refine ⟨sG, l, sl, ln, fun k => ?_⟩
                rw [lm, tk]
                constructor
                · rintro ⟨x, h1, h2, h3⟩
                  exact ⟨x, List.mem_append_left _ h1, h2, h3⟩
                · rintro ⟨x, h1, h2, h3⟩
                  rcases List.mem_append.mp h1 with q | q
                  · exact ⟨x, q, h2, h3⟩
                  · have : x = x0 := by simpa using q
                    subst this; exact absurd h2 c
            · obtain ⟨sG, l, sl, ln, lm⟩ := f
              rw [List.length_map, List.take_length] at lm
              have s8G : Same H8 G := SameX.un (Same.refl _) hD1' sG
              have rw60 : rk.length ≤ 60 := Nat.le_trans (T.width_le g.sh).1 h60
              have llen : l.length ≤ 61 := by
                have := ln.length_le_of_subset (l₂ := (List.range (rk.length + 1)).map fun k : Nat => (k : Int)) fun k hk => by
                  obtain ⟨x, _, _, rfl⟩ := (lm k).mp hk
                  have := List.length_filter_le (fun r => decide (r ≤ x)) rk
                  exact List.mem_map.mpr ⟨_, List.mem_range.mpr (by omega), rfl⟩
                rw [List.length_map, List.length_range] at this
                omega
              walk_at "w"
              refine ⟨l, sl, by omega, fun ws pw G9 wasc wmem f9 s9 e9 => ?_⟩
              have s10 : Same H G9 := s7.trans (s8.trans (s8G.trans s9))
              refine k ws pw G9 wasc (fun q => ?_) (free_back (s7.trans (s8.trans s8G)) f9) s10 e9
              rw [wmem, lm, T.SW, eA, eB]
              constructor
              · rintro ⟨x, h1, h2, h3⟩
                obtain ⟨num, hn, more, h4, h5, rfl⟩ := (tm x).mp h1
                exact ⟨num, more, (mem num).mp hn, h4, h5, h2, h3⟩
              · rintro ⟨num, more, hn, h4, h5, h2, h3⟩
                exact ⟨num + more, (tm _).mpr ⟨num, (mem num).mpr hn, more, h4, h5, rfl⟩, h2, h3⟩
    next => exact h.elim
noncomputable def isB (p : Prop) : Bool := @decide p (Classical.propDecidable p)
theorem isB_iff {p : Prop} : isB p = true ↔ p := by unfold isB; exact @decide_eq_true_iff p (Classical.propDecidable p)
theorem isB_of {p : Prop} {b : Bool} (h : b = true ↔ p) : isB p = b := by rw [Bool.eq_iff_iff, isB_iff, h]
def freeOf (t : T) (z : Str) (kn : List Str) : List Str := t.names.filter fun y => !decide (y = z) && !decide (y ∈ kn)
def sp_can_swing (K : PySem.W.Frag) : Sp := fun vs H Q _ => match vs with
  | [v, .ref a, .str z, .ref kq, .int j] => ∃ t d ps W kn, MTk K H t v ∧ t.Gd ∧ LotAt K H a d ps ∧ z ∈ t.names ∧ H kq = some (.lst (kn.map V.str)) ∧ (∀ y ∈ kn, look ps y = some (W y)) ∧ kn.length ≤ 60 ∧ t.names.length ≤ 60 ∧
    ∀ b H', Same H H' → (b = true ↔ CanSw t W z kn (freeOf t z kn) j) → Q (.bl b) H'
  | _ => False
theorem ok_can_swing (tp : Top K mg) : FnN P w K mg base 97 "can_swing" [] (sp_can_swing K) := by
  refine fn_by tp.f_can_swing sc_can_swing (fun vs H Q E h => by unfold sp_can_swing at h; split at h <;> first | rfl | exact h.elim) (fun f cdv A outer s H vs Q E hr h => ⟨_, (pss_cons (g_setLc (i := 5) rfl sc_can_swing.nd rfl rfl (sw_true rfl rfl rfl (by decide +kernel)) (kw_list K rfl (PEor (g_meth0 (ok_Leaf_names tp) hr (by omega) (gv 0)) (g_meth0 (ok_Group_names tp 45) hr (by omega) (gv 0)))) (blkOk_by (own := [("one", 7)]) (N := (["tree", "lot", "name", "known", "j", "free", "bound", "one"] : List Str)) (sc := defScope s_can_swing) (by decide +kernel)) (fun _ _ _ _ _ => pg_name (i := 7) sc_can_swing.nd rfl (by first | exact Or.inl rfl | exact Or.inr rfl)) (fun _ _ _ _ _ => (pts_one (PW.pt (g_and (g_cmp (k_neG K rfl hr.units) (gv 7) (gv 2) (nomark _)) (pw_and1 (g_cmp (k_ninG K rfl) (gv 7) (gv 3) (by with_unfolding_all rfl))))))) (fun _ _ _ _ _ => (gv 7))) (pss_cons (g_if (g_cmp (k_inG K rfl) (pe_op op_subG (gv 4) pe_int) (g_call (ok_swings tp 46) hr rfl (by omega) (pa_cons (gv 0) (pa_cons (gv 2) (pa_cons (g_lst pa_nil) (pa_cons (gv 5) pa_nil))))) (by with_unfolding_all rfl)) (pss_one (ps_ret pe_bl)) pss_nil) (pss_cons (g_for PassesOwn.never rfl (kw_list K rfl (pe_callB (c_sortSet w rfl rfl) (by rfl) tp.b_sorted (by decide +kernel) (pa_cons (k_set1 w rfl rfl sc_can_swing.nd (kw_list K rfl (gv 3)) (blkOk_by (own := [("one", 7)]) (N := (["tree", "lot", "name", "known", "j", "free", "bound", "one"] : List Str)) (sc := defScope s_can_swing) (by decide +kernel)) (fun _ _ _ _ _ => pg_name (i := 7) sc_can_swing.nd rfl (by first | exact Or.inl rfl | exact Or.inr rfl)) (fun _ _ _ _ _ => pts_nil) (fun _ _ _ _ _ => (PEm (g_getO ((ok_Lot___getitem__ tp).sp') tp.t_Lot (hr.mono (by omega)) (gv 1) (gv 7))))) pa_nil))) (pg_name (i := 6) sc_can_swing.nd rfl (by first | exact Or.inl rfl | exact Or.inr rfl)) (pss_one (g_if (g_cmp (k_inG K rfl) (pe_op op_subG (gv 4) pe_int) (g_call (ok_swings tp 46) hr rfl (by omega) (pa_cons (gv 0) (pa_cons (gv 2) (pa_cons (g_lc rfl sc_can_swing.nd (kw_list K rfl (gv 3)) (blkOk_by (own := [("one", 7)]) (N := (["tree", "lot", "name", "known", "j", "free", "bound", "one"] : List Str)) (sc := defScope s_can_swing) (by decide +kernel)) (fun _ _ _ _ _ => pg_name (i := 7) sc_can_swing.nd rfl (by first | exact Or.inl rfl | exact Or.inr rfl)) (fun _ _ _ _ _ => (pts_one (g_cmp op_leG (g_getO ((ok_Lot___getitem__ tp).sp') tp.t_Lot (hr.mono (by omega)) (gv 1) (gv 7)) (gv 6) (nomark _)))) (fun _ _ _ _ _ => (gv 7))) (pa_cons (gv 5) pa_nil))))) (by with_unfolding_all rfl)) (pss_one (ps_ret pe_bl)) pss_nil))) (pss_one (ps_ret pe_bl))))), ?_⟩)
  unfold sp_can_swing at h
  split at h
  next v a z kq j =>
    obtain ⟨t, d, ps, W, kn, m, g, l, hz, hk, hw, kl, h60, k⟩ := h
    obtain ⟨dx, ha⟩ := l.o
    walk_at "w"
    refine rd_names (i := 0) (n := 45) rfl m g.dp g.sz fun p1 H1 f1 s1 e1 => ?_
    refine comp_list (xs := t.names.map V.str) (fun i acc G => Same H1 G ∧ acc = ((t.names.take i).filter fun y => !decide (y = z) && !decide (y ∈ kn)).map V.str) (by rw [List.length_map]; exact lt1000 g.sz) ⟨Same.refl _, rfl⟩ (fun i acc G f => SqL.of (f.1 _ _ e1)) (fun D i x acc H' hx hD hDl hq f => ⟨rfl, ?_⟩) (fun D H2 acc hD hDl hq f => ?_)
    · obtain ⟨s2, rfl⟩ := f
      obtain ⟨y, hy, rfl⟩ := map_atS hx
      have e := filt_takeS (p := fun y => !decide (y = z) && !decide (y ∈ kn)) hy
      walk_at "w"
      refine way_nd (fun c => ?_) fun c => ?_
      · walk_at "w"
        refine ⟨_, Or.inl (SqL.of ((s1.trans (s2.trans off_same)) _ _ hk)), rfl, flat_strsS _, ?_⟩
        rw [inV_strS]
        refine way_nd (fun c2 => ?_) fun c2 => ?_
        · walk_at "w"
          refine ⟨hDl, s2, ?_⟩
          rw [e, if_pos (by simp [c, c2]), List.map_append]
          rfl
        · refine ⟨hDl, s2, ?_⟩
          rw [e, if_neg (by simp [c2]), List.append_nil]
      · refine way_f ⟨hDl, s2, ?_⟩
        rw [e, if_neg (by simp [c]), List.append_nil]
    · obtain ⟨s2, rfl⟩ := f
      rw [List.length_map, List.take_length] at hDl
      have s3 : Same H H2 := s1.trans (s2.trans off_same)
      have hDl : H2 D = some (.lst ((freeOf t z kn).map V.str)) := hDl
      have fl : (freeOf t z kn).length ≤ 60 := Nat.le_trans (List.length_filter_le _ _) h60
      walk_at "w"
      refine ⟨(by show 0 ≤ sizeLine; decide), fun p3 H3 f3 s4 e3 => ?_⟩
      have s5 := s3.trans s4
      refine ⟨t, [], freeOf t z kn, m.mono s5, g, Nat.lt_succ_of_le g.dp, hz, e3, s4 _ _ hDl, by simp; omega, h60, fun ns p4 H4 asc mem f4 s6 e4 => ?_⟩
      refine ⟨_, Or.inl (SqL.of e4), rfl, flat_intsS _, ?_⟩
      rw [inV_intS]
      have s7 := s5.trans s6
      refine way_d (fun c => ?_) fun c => ?_
      · walk_at "w"
        exact k true H4 s7 ⟨fun _ => .inl ((mem _).mp c), fun _ => rfl⟩
      · walk_at "w"
        have hk4 := s7 _ _ hk
        have l4 := l.mono s7
        have hD4 := (s4.trans s6) _ _ hDl
        refine ⟨⟨_, SqL.of hk4⟩, fun D1 G1 hD1 sG1 oG1 eG1 => ?_⟩
        have hD1' : H4 D1 = none := hD1
        refine (cl_list (K := K) (xs := kn.map V.str) gName_up (fun i G => SameX D1 H4 G ∧ ∃ l : List Int, SetL w G D1 l ∧ l.Nodup ∧ ∀ k, k ∈ l ↔ ∃ y ∈ kn.take i, W y = k) ⟨SameX.of sG1, [], SetL.nil eG1, by simp, fun k => by simp⟩ (fun i G _ f => SqL.of (f.1 _ _ (ne_of_none hk4 hD1') hk4)) (fun i x G hx f => ⟨rfl, ?_⟩) (fun G f => ?_)).2
        · obtain ⟨sG, ll, sl, ln, lm⟩ := f
          obtain ⟨y, hy, rfl⟩ := map_atS hx
          have ym := List.mem_of_getElem? hy
          have tk : kn.take (i + 1) = kn.take i ++ [y] := by rw [List.take_add_one, hy]; rfl
          have s4G : Same H4 G := SameX.un (Same.refl _) hD1' sG
          refine way_t (tAdd_ofM (l := ll) ?_)
          walk_at "w"
          have lG := l4.mono s4G
          obtain ⟨dx', ha'⟩ := lG.o
          refine ⟨dx', _, ha', d, ps, W y, lG, hw y ym, fun G5 s8 => ?_⟩
          have llen : ll.length ≤ 60 := by
            have := ln.length_le_of_subset (l₂ := kn.map W) fun k hk => by
              obtain ⟨x, hx, rfl⟩ := (lm k).mp hk
              exact List.mem_map.mpr ⟨x, List.mem_of_mem_take hx, rfl⟩
            rw [List.length_map] at this
            omega
          obtain ⟨S, nn, eS, h5⟩ := sl
          refine ⟨⟨S, nn, s8 _ _ eS, h5⟩, by omega, fun G6 s6' sl6 => ⟨sG.trans ((SameX.of s8).trans s6'), _, sl6, ?_, fun k => ?_⟩⟩
          · split
            · exact ln
            · rename_i q
              rw [List.nodup_append]
              exact ⟨ln, by simp, fun a ha b hb e => q (by rw [← List.mem_singleton.mp hb, ← e]; exact ha)⟩
          · have base : (k ∈ (if W y ∈ ll then ll else ll ++ [W y])) ↔ (k ∈ ll ∨ k = W y) := by
              by_cases q : W y ∈ ll
              · rw [if_pos q]; exact ⟨.inl, fun w => w.elim id fun w => w ▸ q⟩
              · rw [if_neg q, List.mem_append, List.mem_singleton]
            rw [base, lm, tk]
            constructor
            · rintro (⟨x, h1, h2⟩ | h)
              · exact ⟨x, List.mem_append_left _ h1, h2⟩
              · exact ⟨y, List.mem_append_right _ (List.mem_cons_self ..), h.symm⟩
            · rintro ⟨x, h1, h2⟩
              rcases List.mem_append.mp h1 with q | q
              · exact .inl ⟨x, q, h2⟩
              · have : x = y := by simpa using q
                subst this; exact .inr h2.symm
        · obtain ⟨sG, ll, sl, ln, lm⟩ := f
          rw [List.length_map, List.take_length] at lm
          have s4G : Same H4 G := SameX.un (Same.refl _) hD1' sG
          have llen : ll.length ≤ 60 := by
            have := ln.length_le_of_subset (l₂ := kn.map W) fun k hk => by
              obtain ⟨x, hx, rfl⟩ := (lm k).mp hk
              exact List.mem_map.mpr ⟨x, hx, rfl⟩
            rw [List.length_map] at this
            omega
          walk_at "w"
          refine ⟨ll, sl, by omega, fun ws pw G9 wasc wmem f9 s9 e9 => ?_⟩
          have s49 := s4G.trans s9
          have s10 : Same H G9 := s7.trans s49
          refine forw_list (xs := ws.map V.int) (fun i σ G => ∃ v6, σ = [some v, some (.ref a), some (.str z), some (.ref kq), some (.int j), some (.ref D), v6, none] ∧ Same G9 G ∧ ∀ b ∈ ws.take i, ¬ t.SW z (rowB W kn b) (freeOf t z kn) (j - 1)) ⟨none, rfl, Same.refl _, fun b hb => by simp at hb⟩ (fun i σ G _ ⟨_, _, sG, _⟩ => SqL.of (sG _ _ e9)) ?_ ?_
          · rintro i x σ G5 hx ⟨v6, rfl, sG5, no⟩
            obtain ⟨b, hb, rfl⟩ := map_at hx
            have bm := List.mem_of_getElem? hb
            have s11 := s10.trans sG5
            walk_at "w"
            refine comp_list (xs := kn.map V.str) (fun i acc G => Same G5 G ∧ acc = ((kn.take i).filter fun y => decide (W y ≤ b)).map V.str) (by rw [List.length_map]; exact lt1000 (by omega)) ⟨Same.refl _, rfl⟩ (fun i acc G f => SqL.of (f.1 _ _ (s11 _ _ hk))) (fun D5 i5 x acc H' hx5 hD5 hDl5 hq5 f => ⟨rfl, ?_⟩) (fun D5 H5 acc hD5 hDl5 hq5 f => ?_)
            · obtain ⟨s12, rfl⟩ := f
              obtain ⟨y, hy, rfl⟩ := map_atS hx5
              have ym := List.mem_of_getElem? hy
              have e := filt_takeS (p := fun y => decide (W y ≤ b)) hy
              have lG := l.mono (s11.trans (s12.trans off_same))
              obtain ⟨dx', ha'⟩ := lG.o
              walk_at "w"
              refine ⟨dx', _, ha', d, ps, W y, lG, hw y ym, fun G6 s8 => ?_⟩
              refine way_d (fun c => ?_) fun c => ?_
              · refine ⟨s8 _ _ hDl5, s12.trans (off_mono s8), ?_⟩
                rw [e, if_pos (decide_eq_true c), List.map_append]
                rfl
              · refine ⟨s8 _ _ hDl5, s12.trans (off_mono s8), ?_⟩
                rw [e, if_neg (by simpa using c), List.append_nil]
            · obtain ⟨s12, rfl⟩ := f
              rw [List.length_map, List.take_length] at hDl5
              have hDl5 : H5 D5 = some (.lst ((rowB W kn b).map V.str)) := hDl5
              have s13 : Same G5 H5 := s12.trans off_same
              have s14 := s11.trans s13
              have rl : (rowB W kn b).length ≤ 60 := Nat.le_trans (List.length_filter_le _ _) kl
              refine ⟨t, rowB W kn b, freeOf t z kn, m.mono s14, g, Nat.lt_succ_of_le g.dp, hz, hDl5, (s49.trans (sG5.trans s13)) _ _ hD4, by omega, h60, fun ns p6 H6 asc6 mem6 f6 s15 e6 => ?_⟩
              refine ⟨_, Or.inl (SqL.of e6), rfl, flat_intsS _, ?_⟩
              rw [inV_intS]
              refine way_d (fun c6 => ?_) fun c6 => ?_
              · walk_at "w"
                refine k true H6 (s14.trans s15) ⟨fun _ => .inr ?_, fun _ => rfl⟩
                obtain ⟨y, hy, e⟩ := (lm b).mp ((wmem b).mp bm)
                exact ⟨y, hy, by rw [e]; exact (mem6 _).mp c6⟩
              · refine ⟨some (.int b), rfl, sG5.trans (s13.trans s15), fun b' hb' => ?_⟩
                rw [List.take_add_one, hb] at hb'
                rcases List.mem_append.mp hb' with q | q
                · exact no b' q
                · have : b' = b := by simpa using q
                  subst this
                  exact fun q => c6 ((mem6 _).mpr q)
          · rintro σ G5 ⟨v6, rfl, sG5, no⟩
            rw [List.length_map, List.take_length] at no
            walk_at "w"
            refine k false G5 (s10.trans sG5) ⟨fun q => by simp at q, fun q => ?_⟩
            rcases q with q | ⟨y, hy, q⟩
            · exact absurd ((mem _).mpr q) c
            · exact absurd q (no _ ((wmem _).mpr ((lm _).mpr ⟨y, hy, rfl⟩)))
  next => exact h.elim
def wOf (ps : List (Str × Int)) (y : Str) : Int := (look ps y).getD 0
theorem wOf_some {ps : List (Str × Int)} {y : Str} (h : y ∈ ps.map (·.1)) : look ps y = some (wOf ps y) := by
  obtain ⟨c, hc⟩ := look_some.mp h
  unfold wOf
  rw [hc]; rfl
def knownOf (t : T) (ps : List (Str × Int)) : List Str := t.names.filter fun y => decide (y ∈ ps.map (·.1))
noncomputable def mattersOf (t : T) (ps : List (Str × Int)) (j : Int) : List Str := t.names.filter fun n => !decide (n ∈ ps.map (·.1)) && isB (CanSw t (wOf ps) n (knownOf t ps) (freeOf t n (knownOf t ps)) j)
def sp_matters (K : PySem.W.Frag) : Sp := fun vs H Q _ => match vs with
  | [v, .ref a, .int j] => ∃ t d ps, MTk K H t v ∧ t.Gd ∧ LotAt K H a d ps ∧ t.names.length ≤ 60 ∧ 1 ≤ j ∧ j ≤ t.width ∧ ∀ p H', H p = none → Same H H' → H' p = some (.lst ((mattersOf t ps j).map V.str)) → Q (.ref p) H'
  | _ => False
theorem ok_matters (tp : Top K mg) : FnN P w K mg base 98 "matters" [] (sp_matters K) ∧ FnN P w K mg base 98 "matters" [.int 1] (sp_matters K) := by
  refine fn_byD tp.f_matters sc_matters (fun vs H Q E h => by unfold sp_matters at h; split at h <;> first | rfl | exact h.elim) (fun f cdv A outer s H vs Q E hr h => ⟨_, (pss_cons (ps_expr (g_call (ok_check_partial tp) hr rfl (by omega) (pa_cons (gv 0) (pa_cons (gv 1) (pa_cons (gv 2) pa_nil))))) (pss_cons (ps_set (i := 3) sc_matters.nd rfl (by first | exact Or.inl rfl | exact Or.inr rfl) (g_lc rfl sc_matters.nd (kw_list K rfl (PEor (g_meth0 (ok_Leaf_names tp) hr (by omega) (gv 0)) (g_meth0 (ok_Group_names tp 45) hr (by omega) (gv 0)))) (blkOk_by (own := [("name", 4)]) (N := (["tree", "lot", "j", "known", "name"] : List Str)) (sc := defScope s_matters) (by decide +kernel)) (fun _ _ _ _ _ => pg_name (i := 4) sc_matters.nd rfl (by first | exact Or.inl rfl | exact Or.inr rfl)) (fun _ _ _ _ _ => (pts_one (g_cmp (op_inO ((ok_Lot___contains__ tp).sp') (hr.mono (by omega))) (gv 4) (gv 1) (by with_unfolding_all rfl)))) (fun _ _ _ _ _ => (gv 4)))) (pss_one (ps_ret (g_lc rfl sc_matters.nd (kw_list K rfl (PEor (g_meth0 (ok_Leaf_names tp) hr (by omega) (gv 0)) (g_meth0 (ok_Group_names tp 45) hr (by omega) (gv 0)))) (blkOk_by (own := [("name", 4)]) (N := (["tree", "lot", "j", "known", "name"] : List Str)) (sc := defScope s_matters) (by decide +kernel)) (fun _ _ _ _ _ => pg_name (i := 4) sc_matters.nd rfl (by first | exact Or.inl rfl | exact Or.inr rfl)) (fun _ _ _ _ _ => (pts_one (PW.pt (g_and (g_cmp (op_ninO ((ok_Lot___contains__ tp).sp') (hr.mono (by omega))) (gv 4) (gv 1) (by with_unfolding_all rfl)) (pw_and1 (g_val (g_call (ok_can_swing tp) hr rfl (by omega) (pa_cons (gv 0) (pa_cons (gv 1) (pa_cons (gv 4) (pa_cons (gv 3) (pa_cons (gv 2) pa_nil)))))))))))) (fun _ _ _ _ _ => (gv 4))))))), ?_⟩)
  unfold sp_matters at h
  split at h
  next v a j =>
    obtain ⟨t, d, ps, m, g, l, h60, j1, j2, k⟩ := h
    walk_at "w"
    refine ⟨t, m, ⟨d, ps, l⟩, j1, j2, ?_⟩
    walk_at "w"
    refine rd_names (i := 0) (n := 45) rfl m g.dp g.sz fun p1 H1 f1 s1 e1 => ?_
    refine comp_list (xs := t.names.map V.str) (fun i acc G => Same H1 G ∧ acc = ((t.names.take i).filter fun y => decide (y ∈ ps.map (·.1))).map V.str) (by rw [List.length_map]; exact lt1000 g.sz) ⟨Same.refl _, rfl⟩ (fun i acc G f => SqL.of (f.1 _ _ e1)) (fun D i x acc H' hx hD hDl hq f => ⟨rfl, ?_⟩) (fun D H2 acc hD hDl hq f => ?_)
    · obtain ⟨s2, rfl⟩ := f
      obtain ⟨y, hy, rfl⟩ := map_atS hx
      have e := filt_takeS (p := fun y => decide (y ∈ ps.map (·.1))) hy
      have lG := l.mono (s1.trans (s2.trans off_same))
      obtain ⟨dx', ha'⟩ := lG.o
      walk_at "w"
      refine ⟨dx', _, ha', d, ps, lG, IsNm.le1000 (sh_nm g.sh y (List.mem_of_getElem? hy)), fun G6 s8 => ?_⟩
      refine ⟨_, rfl, ?_⟩
      refine way_d (fun c => ?_) fun c => ?_
      · walk_at "w"
        refine ⟨s8 _ _ hDl, s2.trans (off_mono s8), ?_⟩
        rw [e, if_pos (decide_eq_true c), List.map_append]
        rfl
      · refine ⟨s8 _ _ hDl, s2.trans (off_mono s8), ?_⟩
        rw [e, if_neg (by simpa using c), List.append_nil]
    · obtain ⟨s2, rfl⟩ := f
      rw [List.length_map, List.take_length] at hDl
      have hDl : H2 D = some (.lst ((knownOf t ps).map V.str)) := hDl
      have s3 : Same H H2 := s1.trans (s2.trans off_same)
      have kl : (knownOf t ps).length ≤ 60 := Nat.le_trans (List.length_filter_le _ _) h60
      walk_at "w"
      refine rd_names (i := 0) (n := 45) rfl (m.mono s3) g.dp g.sz fun p4 H4 f4 s4 e4 => ?_
      refine comp_list (xs := t.names.map V.str) (fun i acc G => Same H4 G ∧ acc = ((t.names.take i).filter fun n => !decide (n ∈ ps.map (·.1)) && isB (CanSw t (wOf ps) n (knownOf t ps) (freeOf t n (knownOf t ps)) j)).map V.str) (by rw [List.length_map]; exact lt1000 g.sz) ⟨Same.refl _, rfl⟩ (fun i acc G f => SqL.of (f.1 _ _ e4)) (fun D5 i x acc H' hx hD5 hDl5 hq f => ⟨rfl, ?_⟩) (fun D5 H5 acc hD5 hDl5 hq f => ?_)
      · obtain ⟨s5, rfl⟩ := f
        obtain ⟨y, hy, rfl⟩ := map_atS hx
        have ym := List.mem_of_getElem? hy
        have e := filt_takeS (p := fun n => !decide (n ∈ ps.map (·.1)) && isB (CanSw t (wOf ps) n (knownOf t ps) (freeOf t n (knownOf t ps)) j)) hy
        have s6 : Same H H' := s3.trans (s4.trans (s5.trans off_same))
        have lG := l.mono s6
        obtain ⟨dx', ha'⟩ := lG.o
        walk_at "w"
        refine ⟨dx', _, ha', d, ps, lG, IsNm.le1000 (sh_nm g.sh y ym), fun G6 s8 => ?_⟩
        refine ⟨_, rfl, ?_⟩
        refine way_nd (fun c => ?_) fun c => ?_
        · have s9 := s6.trans s8
          walk_at "w"
          refine ⟨t, d, ps, wOf ps, knownOf t ps, m.mono s9, g, l.mono s9, ym, (s4.trans (s5.trans (off_same.trans s8))) _ _ hDl, fun y hy => wOf_some (of_decide_eq_true (List.mem_filter.mp hy).2), kl, h60, fun b G7 s10 hb => ?_⟩
          have eb := isB_of hb
          have s11 := s8.trans s10
          cases b with
          | true =>
            refine way_t ?_
            walk_at "w"
            refine ⟨s11 _ _ hDl5, s5.trans (off_mono s11), ?_⟩
            rw [e, if_pos (by rw [eb]; simp [c]), List.map_append]
            rfl
          | false =>
            refine way_f ⟨s11 _ _ hDl5, s5.trans (off_mono s11), ?_⟩
            rw [e, if_neg (by rw [eb]; simp), List.append_nil]
        · refine way_f ⟨s8 _ _ hDl5, s5.trans (off_mono s8), ?_⟩
          rw [e, if_neg (by simp [c]), List.append_nil]
      · obtain ⟨s5, rfl⟩ := f
        rw [List.length_map, List.take_length] at hDl5
        exact k D5 H5 (free_back (s3.trans s4) hD5) (s3.trans (s4.trans (s5.trans off_same))) hDl5
  next => exact h.elim
end LW
namespace LW
open PySem PySem.Spec L2 GG
variable {P : Program} {w : World} {K : PySem.W.Frag} {mg : Str → Option Value} {base : Heap}
def sp_Leaf_name (K : PySem.W.Frag) : Sp := fun vs H Q _ => match vs with
  | [v] => ∃ z, MTk K H (.leaf z) v ∧ Q (.str z) H
  | _ => False
theorem ok_Leaf_name (tp : Top K mg) : PrN P w K mg base 1 (CLf K) "name" (sp_Leaf_name K) := by
  refine pr_by tp.m_Leaf_name sc_Leaf_name (fun vs H Q E h => by unfold sp_Leaf_name at h; split at h <;> first | rfl | exact h.elim) (fun f cdv A outer s H vs Q E hr h => ⟨_, (pss_one (ps_ret (k_fld K rfl (gv 0) rfl))), ?_⟩)
  unfold sp_Leaf_name at h
  split at h
  next v =>
    obtain ⟨z, ⟨a, dx, rfl, h1⟩, q⟩ := h
    walk_at "w"
    exact ⟨_, dx, _, .str z, h1, tp.i_Leaf.cl, tp.n_Leaf_label, rfl, q⟩
  next => exact h.elim
/-- values by names: pairs -/
def VD (K : PySem.W.Frag) (H : Hp) (q : Addr) (C : Str → Int × Int) (ns : List Str) : Prop := ∃ kvs, H q = some (.dK kvs) ∧ ∀ z ∈ ns, ∃ r, valV kvs (.inr z) = some (.ref r) ∧ SqT K H r [.int (C z).1, .int (C z).2]
theorem VD.mono {K : PySem.W.Frag} {H H' : Hp} {q : Addr} {C : Str → Int × Int} {ns : List Str} (h : VD K H q C ns) (s : Same H H') : VD K H' q C ns := let ⟨k, a, b⟩ := h; ⟨k, s _ _ a, fun z hz => let ⟨r, c, d⟩ := b z hz; ⟨r, c, SqT_same d s⟩⟩
theorem VD.sub {K : PySem.W.Frag} {H : Hp} {q : Addr} {C : Str → Int × Int} {ns ms : List Str} (h : VD K H q C ns) (s : ∀ z ∈ ms, z ∈ ns) : VD K H q C ms := let ⟨k, a, b⟩ := h; ⟨k, a, fun z hz => b z (s z hz)⟩
def sp_values_of (K : PySem.W.Frag) (n : Nat) : Sp := fun vs H Q _ => match vs with
  | [v, .ref q] => ∃ t C, MTk K H t v ∧ t.Gd ∧ t.depth < n ∧ VD K H q C t.names ∧ ∀ ys p H', H p = none → Same H H' → H' p = some (.lst ys) → PI2 K H' (t.endsP C) ys → Q (.ref p) H'
  | _ => False
theorem PI2.offT {K : PySem.W.Frag} {H : Hp} {D : Addr} {xs : List V} (h : H D = some (.lst xs)) : ∀ {ps : List (Int × Int)} {vs : List V}, PI2 K H ps vs → PI2 K (off D H) ps vs
  | [], vs, e => e
  | p :: ps, vs, ⟨q, r, e, h1, h2⟩ => ⟨q, r, e, h1.elim (fun h1 => .inl (h1.elim (fun h1 => .inl (by rw [off_at (by rintro rfl; rw [h] at h1; cases h1)]; exact h1)) fun ⟨o, h1⟩ => .inr ⟨o, by rw [off_at (by rintro rfl; rw [h] at h1; cases h1)]; exact h1⟩)) .inr, PI2.offT h h2⟩
theorem ok_values_of (tp : Top K mg) : ∀ n, FnN P w K mg base (n + 5) "values_of" [] (sp_values_of K n)
  | 0 => by
    refine fn_by tp.f_values_of sc_values_of (fun vs H Q E h => by unfold sp_values_of at h; split at h <;> first | rfl | exact h.elim) (fun f cdv A outer s H vs Q E hr h => ?_)
    exfalso
    unfold sp_values_of at h
    split at h
    next v q => obtain ⟨t, C, _, _, h, _⟩ := h; omega
    next => exact h
  | n + 1 => by
    have ih := ok_values_of tp n
    refine fn_by tp.f_values_of sc_values_of (fun vs H Q E h => by unfold sp_values_of at h; split at h <;> first | rfl | exact h.elim) (fun f cdv A outer s H vs Q E hr h => ⟨_, (pss_cons (g_if (g_val (pe_callB (k_isi K rfl) (by rfl) tp.b_isinstance (by decide +kernel) (pa_cons (gv 0) (pa_cons (pe_glob (v := .ref _) rfl tp.c_Leaf rfl) pa_nil)))) (pss_one (ps_ret (g_lst (pa_cons (g_dget (Nat.lt_of_le_of_lt (Nat.add_le_add_left (by decide : 1 ≤ 64) _) hr.units) (gv 1) (g_prop (ok_Leaf_name tp) hr (by omega) (gv 0) rfl)) pa_nil)))) pss_nil) (pss_cons (ps_set (i := 2) sc_values_of.nd rfl (by first | exact Or.inl rfl | exact Or.inr rfl) (pe_callB (k_sortI2 K rfl hr.units) (by rfl) tp.b_sorted (by decide +kernel) (pa_cons (g_lc2 rfl sc_values_of.nd (kw_list K rfl (g_prop (ok_Group_parts tp) hr (by omega) (gv 0) rfl)) (blkOk_by (own := [("part", 3), ("value", 4)]) (N := (["tree", "values", "taken", "part", "value", "rank"] : List Str)) (sc := defScope s_values_of) (by decide +kernel)) (vs1 := [4]) (by decide) (fun _ _ _ _ _ => pg_name (i := 3) sc_values_of.nd rfl (by first | exact Or.inl rfl | exact Or.inr rfl)) (fun _ _ _ _ _ => (kw_list K rfl (g_call (ih) hr rfl (by omega) (pa_cons (gv 3) (pa_cons (gv 1) pa_nil))))) (fun _ _ _ _ _ => pg_name (i := 4) sc_values_of.nd rfl (by first | exact Or.inl rfl | exact Or.inr rfl)) (fun _ _ _ _ _ => (gv 4))) pa_nil))) (pss_one (ps_ret (g_lc rfl sc_values_of.nd (kw_list K rfl (g_prop (ok_Group_ranks tp) hr (by omega) (gv 0) rfl)) (blkOk_by (own := [("rank", 5)]) (N := (["tree", "values", "taken", "part", "value", "rank"] : List Str)) (sc := defScope s_values_of) (by decide +kernel)) (fun _ _ _ _ _ => pg_name (i := 5) sc_values_of.nd rfl (by first | exact Or.inl rfl | exact Or.inr rfl)) (fun _ _ _ _ _ => pts_nil) (fun _ _ _ _ _ => (pe_ix (k_ix K rfl) (gv 2) (pe_op op_subG (gv 5) pe_int) (fun _ _ => rfl)))))))), ?_⟩)
    unfold sp_values_of at h
    split at h
    next v q =>
      obtain ⟨t, C, m, g, hd, vd, k⟩ := h
      walk_at "w"
      refine ⟨_, is_leafT tp m, ?_⟩
      cases t with
      | leaf z =>
        refine way_t ?_
        have m' := m
        obtain ⟨a, dx, rfl, h1⟩ := m
        obtain ⟨kvs, hq, hv⟩ := vd
        obtain ⟨r, hr1, hr2⟩ := hv z (List.mem_cons_self ..)
        walk_at "w"
        refine ⟨dx, _, h1, z, m', ?_⟩
        refine ⟨kvs, .ref r, hq, hr1, ?_⟩
        refine ⟨(by show 1 ≤ sizeLine; decide), fun p H' f1 s1 e1 => k _ p H' f1 s1 e1 (PI2.one (SqT_same hr2 s1))⟩
      | grp rk ps =>
        have m' := m
        obtain ⟨a, dx, pp, rr, us, rfl, h1, h2, h3, h4⟩ := m
        obtain ⟨ok, rok, hrl⟩ := g.pts
        have hd' := hd
        rw [T.depth] at hd'
        refine way_f ?_
        walk_at "w"
        refine ⟨dx, _, h1, rk, ps, m', fun p1 us1 H1 f1 s1 hm1 e1 => ?_⟩
        have hus := hm1.length
        refine comp2_list (xs := us1) (fun i acc G => Same H1 G ∧ PI2 K G (T.endsPL C (ps.take i)) acc) ⟨Same.refl _, rfl⟩ (fun i acc G f => SqL.of (f.1 _ _ e1)) (fun D i x acc H' hx hD hDl f => ⟨rfl, ?_⟩) (fun D H' acc hD hDl f => ?_)
        · obtain ⟨s2, pl⟩ := f
          have s3 : Same H1 H' := s2.trans off_same
          obtain ⟨t, ht, mt⟩ := (hm1.mono (s1.trans s3)).at_ hx
          have hm := List.mem_of_getElem? ht
          have hdt := T.depthL_le hm
          have gt := g.part hm
          have tk := T.endsPL_take (C := C) ht
          have l1 := T.endsPL_len C (ps.take i)
          have l2 := T.taken_take_le ps i
          have l3 := T.endsP_len C t
          have l4 := (T.width_le gt.sh).1
          have l5 := gt.sz
          have l6 := ok.tk
          have la := pl.length
          walk_at "w"
          refine ⟨t, C, mt, gt, by omega, (vd.mono (s1.trans s3)).sub fun z hz => (T.namesL_mem hm).subset hz, fun ys b H4 f4 s4 e4 pl4 => ?_⟩
          have nD : b ≠ D := by rintro rfl; rw [hDl] at f4; cases f4
          have ly := pl4.length
          refine inner_flat (s4 _ _ hDl) (SqL.of (by rw [off_at nD]; exact e4)) ?_ (fun z => rfl) (fun z => rfl) (fun G s5 => ⟨s2.trans ((off_mono s4).trans s5), by rw [tk]; exact (pl.mono ((off_mono s4).trans s5)).app ((PI2.offT (s4 _ _ hDl) pl4).mono s5)⟩)
          exact lt1000x (by omega)
        · obtain ⟨s2, pl⟩ := f
          rw [hus, List.take_length] at pl
          have s3 : Same H H' := s1.trans (s2.trans off_same)
          walk_at "w"
          refine ⟨acc, _, SqL.of hDl, pl.mono off_same, fun ys p5 H5 f5 s5 e5 pl5 => ?_⟩
          have s6 := s3.trans s5
          have l1 := T.endsPL_len C ps
          have ls : ((T.endsPL C ps).mergeSort iLe).length = T.taken ps := by rw [List.length_mergeSort, l1]
          walk_at "w"
          refine ⟨dx, _, s6 _ _ h1, rk, ps, m'.mono s6, fun p8 H8 f8 s8 e8 => ?_⟩
          refine comp_list (xs := rk.map V.int) (fun i acc G => Same H8 G ∧ PI2 K G ((rk.take i).map fun r => ((T.endsPL C ps).mergeSort iLe).getD (r.toNat - 1) (0, 0)) acc) (by rw [List.length_map]; exact lt1000 hrl) ⟨Same.refl _, rfl⟩ (fun i acc G f => SqL.of (f.1 _ _ e8)) (fun D9 i x acc H9 hx hD9 hDl9 hq9 f => ⟨rfl, ?_⟩) (fun D9 H9 acc hD9 hDl9 hq9 f => ?_)
          · obtain ⟨s9, pl9⟩ := f
            obtain ⟨r0, hr0, rfl⟩ := map_at hx
            have q1 := rok.lo r0 (List.mem_of_getElem? hr0)
            have q2 := rok.hi r0 (List.mem_of_getElem? hr0)
            have sy := s8.trans (s9.trans off_same)
            have lt : r0.toNat - 1 < ((T.endsPL C ps).mergeSort iLe).length := by omega
            obtain ⟨b, hb1, hb2⟩ := (pl5.mono sy).at_ (List.getElem?_eq_getElem lt)
            refine way_t ?_
            walk_at "w"
            refine ⟨ys, .ref b, Or.inl (SqL.of (sy _ _ e5)), at_of (j := r0.toNat - 1) (by omega) hb1, ?_⟩
            refine ⟨hDl9, s9, ?_⟩
            have eg : ((T.endsPL C ps).mergeSort iLe).getD (r0.toNat - 1) (0, 0) = ((T.endsPL C ps).mergeSort iLe)[r0.toNat - 1] := by rw [List.getD_eq_getElem?_getD, List.getElem?_eq_getElem lt]; rfl
            rw [List.take_add_one, hr0, List.map_append]
            refine pl9.app (PI2.offT hDl9 (PI2.one ?_))
            show SqT K H9 b [.int (((T.endsPL C ps).mergeSort iLe).getD (r0.toNat - 1) (0, 0)).1, .int (((T.endsPL C ps).mergeSort iLe).getD (r0.toNat - 1) (0, 0)).2]
            rw [eg]
            exact hb2
          · obtain ⟨s9, pl9⟩ := f
            rw [List.length_map, List.take_length] at pl9
            exact k acc D9 H9 (free_back (s6.trans s8) hD9) (s6.trans (s8.trans (s9.trans off_same))) hDl9 (pl9.mono off_same)
    next => exact h.elim
def oV : Option Int → V
  | none => .non
  | some i => .int i
/-- the worths with the lacking ones beyond -/
def farW (ps : List (Str × Int)) (far : Int) (z : Str) : Int := (look ps z).getD far
structure BdOk (ps : List (Str × Int)) (B : Int) : Prop where
  B0 : 0 < B
  bd : ∀ p ∈ ps, -B < p.2 ∧ p.2 < B
def sp_bound_of (K : PySem.W.Frag) : Sp := fun vs H Q _ => match vs with
  | [v, .ref a, .int j, .ref side] => ∃ t d ps far B, MTk K H t v ∧ t.Gd ∧ LotAt K H a d ps ∧ BdOk ps B ∧ (far = -B ∨ far = B) ∧ SqT K H side [.int (dec B far).1, .int (dec B far).2] ∧ 1 ≤ j ∧ j ≤ t.width ∧
    ∀ H', Same H H' → Q (oV (sideV B ((t.ends (farW ps far)).getD (j.toNat - 1) 0))) H'
  | _ => False
theorem dec_side {B e : Int} (hB : 0 < B) : (decide ((dec B e).1 = 1) = true → sideV B e = some (dec B e).2) ∧ (decide ((dec B e).1 = 1) = false → sideV B e = none) := by
  unfold dec sideV
  by_cases h1 : e ≤ -B
  · simp [h1]
  · by_cases h2 : B ≤ e
    · simp [h1, h2]
    · simp [h1, h2]
theorem ok_bound_of (tp : Top K mg) : FnN P w K mg base 52 "bound_of" [] (sp_bound_of K) := by
  refine fn_by tp.f_bound_of sc_bound_of (fun vs H Q E h => by unfold sp_bound_of at h; split at h <;> first | rfl | exact h.elim) (fun f cdv A outer s H vs Q E hr h => ⟨_, (pss_cons (g_setDc (i := 4) rfl sc_bound_of.nd rfl rfl (sd_true rfl rfl rfl (by decide +kernel)) (kw_list K rfl (PEor (g_meth0 (ok_Leaf_names tp) hr (by omega) (gv 0)) (g_meth0 (ok_Group_names tp 45) hr (by omega) (gv 0)))) (blkOk_by (own := [("name", 7)]) (N := (["tree", "lot", "j", "side", "values", "kind", "worth", "name"] : List Str)) (sc := defScope s_bound_of) (by decide +kernel)) (fun _ _ _ _ _ => pg_name (i := 7) sc_bound_of.nd rfl (by first | exact Or.inl rfl | exact Or.inr rfl)) (fun _ _ _ _ _ => pts_nil) (fun _ _ _ _ _ => (gv 7)) (fun _ _ _ _ _ => (g_ifE (g_cmp (op_inO ((ok_Lot___contains__ tp).sp') (hr.mono (by omega))) (gv 7) (gv 1) (by with_unfolding_all rfl)) (g_tup (pa_cons pe_int (pa_cons (g_getO ((ok_Lot___getitem__ tp).sp') tp.t_Lot (hr.mono (by omega)) (gv 1) (gv 7)) pa_nil))) (gv 3)))) (pss_cons (ps_asg (pe_ix (k_ix K rfl) (g_call (ok_values_of tp 46) hr rfl (by omega) (pa_cons (gv 0) (pa_cons (gv 4) pa_nil))) (pe_op op_subG (gv 2) pe_int) (fun _ _ => rfl)) (pg_tup rfl (pgs_cons (pg_name (i := 5) sc_bound_of.nd rfl (by first | exact Or.inl rfl | exact Or.inr rfl)) (pgs_cons (pg_name (i := 6) sc_bound_of.nd rfl (by first | exact Or.inl rfl | exact Or.inr rfl)) pgs_nil)))) (pss_one (ps_ret (g_ifE (g_cmp (k_eqG K rfl hr.units) (gv 5) pe_int (nomark _)) (gv 6) pe_non))))), ?_⟩)
  unfold sp_bound_of at h
  split at h
  next v a j side =>
    obtain ⟨t, d, ps, far, B, m, g, l, bok, hfar, hs, j1, j2, k⟩ := h
    have B0 := bok.B0
    walk_at "w"
    refine rd_names (i := 0) (n := 45) rfl m g.dp g.sz fun p1 H1 f1 s1 e1 => ?_
    refine ⟨⟨_, SqL.of e1⟩, ?_⟩
    refine dcG_by gName_up (walkS_of walk_list) (fun i acc G => Same H1 G ∧ ∀ z ∈ t.names.take i, ∃ r, valV acc (.inr z) = some (.ref r) ∧ SqT K G r [.int (dec B (farW ps far z)).1, .int (dec B (farW ps far z)).2]) (fun i acc G G' s f => ⟨f.1.trans s, fun z hz => let ⟨r, a, b⟩ := f.2 z hz; ⟨r, a, SqT_same b s⟩⟩) (by rw [List.length_map]; exact lt1000 g.sz) ⟨Same.refl _, fun z hz => by simp at hz⟩ (fun i acc H G _ f s => SqL.of (s _ _ (f.1 _ _ e1))) (fun D i x acc H' hi hx hD hDl ha' f => ?_) (fun D H' acc hD hDl ha' f => ?_)
    · obtain ⟨s2, f2⟩ := f
      obtain ⟨y, hy, rfl⟩ := map_atS hx
      have ym := List.mem_of_getElem? hy
      have s12 := s1.trans (s2.trans off_same)
      have lG := l.mono s12
      obtain ⟨dx', ha'⟩ := lG.o
      refine ⟨rfl, way_t ?_⟩
      walk_at "w"
      refine ⟨dx', _, ha', d, ps, lG, IsNm.le1000 (sh_nm g.sh y ym), fun G6 s8 => ?_⟩
      refine ⟨_, rfl, ?_⟩
      refine way_d (fun c => ?_) fun c => ?_
      · obtain ⟨cc, hcc⟩ := look_some.mp c
        have lG6 := lG.mono s8
        obtain ⟨dx6, ha6⟩ := lG6.o
        walk_at "w"
        refine ⟨dx6, _, ha6, d, ps, cc, lG6, hcc, fun G7 s9 => ?_⟩
        refine ⟨(by show 2 ≤ sizeLine; decide), fun p9 H9 f9 s10 e9 => ?_⟩
        have s89 := s8.trans (s9.trans s10)
        have nD : p9 ≠ D := by rintro rfl; rw [(s8.trans s9) _ _ hDl] at f9; cases f9
        refine ⟨s89 _ _ hDl, s2.trans (off_mono s89), fun z hz => ?_⟩
        rw [valV_put]
        rw [List.take_add_one, hy] at hz
        have bb := bok.bd _ (look_mem hcc)
        have ed : dec B (farW ps far y) = (1, cc) := by
          unfold farW dec
          rw [hcc]
          show (if cc ≤ -B then _ else if B ≤ cc then _ else _) = _
          rw [if_neg (by have := bb.1; show ¬ cc ≤ -B; exact Int.not_le.mpr this), if_neg (by have := bb.2; show ¬ B ≤ cc; exact Int.not_le.mpr this)]
          rfl
        by_cases q : z = y
        · subst q
          rw [if_pos rfl, ed]
          exact ⟨p9, rfl, SqT.of (by rw [off_at nD]; exact e9)⟩
        · rw [if_neg (fun w => q (Sum.inr.inj w))]
          rcases List.mem_append.mp hz with w | w
          · obtain ⟨r, a1, b1⟩ := f2 z w
            exact ⟨r, a1, SqT_same b1 (off_mono s89)⟩
          · exact absurd (by simpa using w) q
      · walk_at "w"
        refine ⟨s8 _ _ hDl, s2.trans (off_mono s8), fun z hz => ?_⟩
        rw [valV_put]
        rw [List.take_add_one, hy] at hz
        have ef : farW ps far y = far := by
          unfold farW
          cases e : look ps y with
          | none => rfl
          | some cc => exact absurd (look_some.mpr ⟨cc, e⟩) c
        by_cases q : z = y
        · subst q
          rw [if_pos rfl, ef]
          have sH : Same H (off D G6) := (s1.trans s2).trans (off_mono s8)
          exact ⟨side, rfl, SqT_same hs sH⟩
        · rw [if_neg (fun w => q (Sum.inr.inj w))]
          rcases List.mem_append.mp hz with w | w
          · obtain ⟨r, a1, b1⟩ := f2 z w
            exact ⟨r, a1, SqT_same b1 (off_mono s8)⟩
          · exact absurd (by simpa using w) q
    · obtain ⟨s2, f2⟩ := f
      rw [List.length_map, List.take_length] at f2
      have s3 : Same H H' := s1.trans (s2.trans off_same)
      walk_at "w"
      refine ⟨t, fun z => dec B (farW ps far z), m.mono s3, g, Nat.lt_succ_of_le g.dp, ⟨acc, hDl, fun z hz => let ⟨r, a, b⟩ := f2 z hz; ⟨r, a, SqT_same b off_same⟩⟩, fun ys p5 H5 f5 s5 e5 pl5 => ?_⟩
      have wb : ∀ n ∈ t.names, -B ≤ farW ps far n ∧ farW ps far n ≤ B ∧ dec B (farW ps far n) = dec B (farW ps far n) := fun n _ => by
        unfold farW
        cases e : look ps n with
        | none => exact ⟨by show -B ≤ far; omega, by show far ≤ B; omega, rfl⟩
        | some cc => have := bok.bd _ (look_mem e); exact ⟨Int.le_of_lt this.1, Int.le_of_lt this.2, rfl⟩
      rw [T.endsP_dec B0 t g.sh wb] at pl5
      have lt : j.toNat - 1 < ((t.ends (farW ps far)).map (dec B)).length := by rw [List.length_map, T.ends_len]; omega
      obtain ⟨b, hb1, hb2⟩ := pl5.at_ (List.getElem?_eq_getElem lt)
      have eg : ((t.ends (farW ps far)).map (dec B))[j.toNat - 1] = dec B ((t.ends (farW ps far)).getD (j.toNat - 1) 0) := by
        rw [List.length_map] at lt
        rw [List.getElem_map, List.getD_eq_getElem?_getD, List.getElem?_eq_getElem lt]; rfl
      rw [eg] at hb2
      have z1 := k H5 (s3.trans s5)
      have ds := dec_side (e := (t.ends (farW ps far)).getD (j.toNat - 1) 0) B0
      generalize (t.ends (farW ps far)).getD (j.toNat - 1) 0 = ev at hb2 z1 ds
      walk_at "w"
      refine ⟨ys, .ref b, Or.inl (SqL.of e5), at_of (j := j.toNat - 1) (by omega) hb1, ?_⟩
      refine ⟨b, _, rfl, hb2, rfl, .int (dec B ev).1, _, rfl, .int (dec B ev).2, [], rfl, rfl, ?_⟩
      walk_at "w"
      cases hk : decide ((dec B ev).1 = 1) with
      | true =>
        refine way_t ?_
        rw [ds.1 hk] at z1
        exact z1
      | false =>
        refine way_f ?_
        rw [ds.2 hk] at z1
        exact z1
  next => exact h.elim
def sp_between (K : PySem.W.Frag) : Sp := fun vs H Q _ => match vs with
  | [v, .ref a, .int j] => ∃ t d ps B, MTk K H t v ∧ t.Gd ∧ LotAt K H a d ps ∧ BdOk ps B ∧ 1 ≤ j ∧ j ≤ t.width ∧
    ∀ p H', H p = none → Same H H' → H' p = some (.tup [oV (sideV B ((t.ends (farW ps (-B))).getD (j.toNat - 1) 0)), oV (sideV B ((t.ends (farW ps B)).getD (j.toNat - 1) 0))]) → Q (.ref p) H'
  | _ => False
theorem ok_between (tp : Top K mg) : FnN P w K mg base 53 "between" [] (sp_between K) ∧ FnN P w K mg base 53 "between" [.int 1] (sp_between K) := by
  refine fn_byD tp.f_between sc_between (fun vs H Q E h => by unfold sp_between at h; split at h <;> first | rfl | exact h.elim) (fun f cdv A outer s H vs Q E hr h => ⟨_, (pss_cons (ps_expr (g_call (ok_check_partial tp) hr rfl (by omega) (pa_cons (gv 0) (pa_cons (gv 1) (pa_cons (gv 2) pa_nil))))) (pss_one (ps_ret (g_tup (pa_cons (g_call (ok_bound_of tp) hr rfl (by omega) (pa_cons (gv 0) (pa_cons (gv 1) (pa_cons (gv 2) (pa_cons (pe_glob (v := .ref _) rfl tp.g_LOW.1 rfl) pa_nil))))) (pa_cons (g_call (ok_bound_of tp) hr rfl (by omega) (pa_cons (gv 0) (pa_cons (gv 1) (pa_cons (gv 2) (pa_cons (pe_glob (v := .ref _) rfl tp.g_HIGH.1 rfl) pa_nil))))) pa_nil)))))), ?_⟩)
  unfold sp_between at h
  split at h
  next v a j =>
    obtain ⟨t, d, ps, B, m, g, l, bok, j1, j2, k⟩ := h
    have B0 := bok.B0
    have el : dec B (-B) = (0, 0) := by unfold dec; rw [if_pos (Int.le_refl _)]
    have eh : dec B B = (2, 0) := by unfold dec; rw [if_neg (by omega), if_pos (Int.le_refl _)]
    walk_at "w"
    refine ⟨t, m, ⟨d, ps, l⟩, j1, j2, ?_⟩
    walk_at "w"
    refine ⟨t, d, ps, -B, B, m, g, l, bok, .inl rfl, by rw [el]; exact tp.g_LOW.2 _, j1, j2, fun H1 s1 => ?_⟩
    refine ⟨t, d, ps, B, B, m.mono s1, g, l.mono s1, bok, .inr rfl, by rw [eh]; exact tp.g_HIGH.2 _, j1, j2, fun H2 s2 => ?_⟩
    refine ⟨(by show 2 ≤ sizeLine; decide), fun p H3 f3 s3 e3 => ?_⟩
    exact k p H3 (free_back (s1.trans s2) f3) (s1.trans (s2.trans s3)) e3
  next => exact h.elim
end LW
namespace LW
open PySem PySem.Spec L2 GG
variable {P : Program} {w : World} {K : PySem.W.Frag} {mg : Str → Option Value} {base : Heap}
/-- worths by names in a dict -/
def Wd (H : Hp) (q : Addr) (W : Str → Int) (ns : List Str) : Prop := ∃ kvs, H q = some (.dK kvs) ∧ ∀ z ∈ ns, valV kvs (.inr z) = some (.int (W z))
theorem Wd.same {H H' : Hp} {q : Addr} {W : Str → Int} {ns : List Str} (h : Wd H q W ns) (s : Same H H') : Wd H' q W ns := let ⟨k, a, b⟩ := h; ⟨k, s _ _ a, b⟩
theorem Wd.sub {H : Hp} {q : Addr} {W : Str → Int} {ns ms : List Str} (h : Wd H q W ns) (s : ∀ z ∈ ms, z ∈ ns) : Wd H q W ms := let ⟨k, a, b⟩ := h; ⟨k, a, fun z hz => b z (s z hz)⟩
def sp_gathered (K : PySem.W.Frag) (n : Nat) : Sp := fun vs H Q _ => match vs with
  | [v, .ref a] => ∃ t d ps W, MTk K H t v ∧ t.depth < n ∧ t.Gd ∧ LotAt K H a d ps ∧ (∀ z ∈ t.names, look ps z = some (W z)) ∧ ∀ r H', H r = none → Same H H' → H' r = some (.lst ((t.ends W).map V.int)) → Q (.ref r) H'
  | _ => False
theorem endsL_snoc {W : Str → Int} {ts : List T} {i : Nat} {t : T} (h : ts[i]? = some t) : T.endsL W (ts.take (i + 1)) = T.endsL W (ts.take i) ++ t.ends W := by
  have ap : ∀ as bs : List T, T.endsL W (as ++ bs) = T.endsL W as ++ T.endsL W bs := by
    intro as
    induction as with
    | nil => intro bs; rfl
    | cons a as ih => intro bs; rw [List.cons_append, T.endsL, T.endsL, ih, List.append_assoc]
  rw [List.take_add_one, h, ap]
  show _ ++ (t.ends W ++ []) = _
  rw [List.append_nil]
theorem ok_gathered (tp : Top K mg) : ∀ n, FnN P w K mg base (n + 5) "gathered" [] (sp_gathered K n)
  | 0 => by
    refine fn_by tp.f_gathered sc_gathered (fun vs H Q E h => by unfold sp_gathered at h; split at h <;> first | rfl | exact h.elim) (fun f cdv A outer s H vs Q E hr h => ?_)
    exfalso
    unfold sp_gathered at h
    split at h
    next v a => obtain ⟨t, d, ps, W, _, h, _⟩ := h; omega
    next => exact h
  | n + 1 => by
    have ih := ok_gathered tp n
    refine fn_by tp.f_gathered sc_gathered (fun vs H Q E h => by unfold sp_gathered at h; split at h <;> first | rfl | exact h.elim) (fun f cdv A outer s H vs Q E hr h => ⟨_, (pss_cons (g_if (g_val (pe_callB (k_isi K rfl) (by rfl) tp.b_isinstance (by decide +kernel) (pa_cons (gv 0) (pa_cons (pe_glob (v := .ref _) rfl tp.c_Leaf rfl) pa_nil)))) (pss_one (ps_ret (g_lst (pa_cons (g_getO ((ok_Lot___getitem__ tp).sp') tp.t_Lot (hr.mono (by omega)) (gv 1) (g_prop (ok_Leaf_name tp) hr (by omega) (gv 0) rfl)) pa_nil)))) pss_nil) (pss_cons (ps_set (i := 2) sc_gathered.nd rfl (by first | exact Or.inl rfl | exact Or.inr rfl) (pe_callB (k_sorted K rfl) (by rfl) tp.b_sorted (by decide +kernel) (pa_cons (g_lc2 rfl sc_gathered.nd (kw_list K rfl (g_prop (ok_Group_parts tp) hr (by omega) (gv 0) rfl)) (blkOk_by (own := [("part", 3), ("worth", 4)]) (N := (["tree", "lot", "taken", "part", "worth", "rank"] : List Str)) (sc := defScope s_gathered) (by decide +kernel)) (vs1 := [4]) (by decide) (fun _ _ _ _ _ => pg_name (i := 3) sc_gathered.nd rfl (by first | exact Or.inl rfl | exact Or.inr rfl)) (fun _ _ _ _ _ => (kw_list K rfl (g_call (ih) hr rfl (by omega) (pa_cons (gv 3) (pa_cons (gv 1) pa_nil))))) (fun _ _ _ _ _ => pg_name (i := 4) sc_gathered.nd rfl (by first | exact Or.inl rfl | exact Or.inr rfl)) (fun _ _ _ _ _ => (gv 4))) pa_nil))) (pss_one (ps_ret (g_lc rfl sc_gathered.nd (kw_list K rfl (g_prop (ok_Group_ranks tp) hr (by omega) (gv 0) rfl)) (blkOk_by (own := [("rank", 5)]) (N := (["tree", "lot", "taken", "part", "worth", "rank"] : List Str)) (sc := defScope s_gathered) (by decide +kernel)) (fun _ _ _ _ _ => pg_name (i := 5) sc_gathered.nd rfl (by first | exact Or.inl rfl | exact Or.inr rfl)) (fun _ _ _ _ _ => pts_nil) (fun _ _ _ _ _ => (pe_ix (k_ix K rfl) (gv 2) (pe_op op_subG (gv 5) pe_int) (fun _ _ => rfl)))))))), ?_⟩)
    unfold sp_gathered at h
    split at h
    next v a =>
      obtain ⟨t, d, ps, W, m, hd, g, l, hw, k⟩ := h
      walk_at "w"
      refine ⟨_, is_leafT tp m, ?_⟩
      cases t with
      | leaf z =>
        refine way_t ?_
        have m' := m
        obtain ⟨a', dx, rfl, h1⟩ := m
        obtain ⟨dl, hl⟩ := l.o
        walk_at "w"
        refine ⟨dx, _, h1, z, m', ?_⟩
        refine ⟨dl, _, hl, d, ps, W z, l, hw z (List.mem_cons_self ..), fun H1 s1 => ?_⟩
        refine ⟨(by show 1 ≤ sizeLine; decide), fun p H' f1 s2 e1 => k p H' (free_back s1 f1) (s1.trans s2) e1⟩
      | grp rk ps' =>
        have m' := m
        obtain ⟨a', dx, pp, rr, us, rfl, h1, h2, h3, h4⟩ := m
        obtain ⟨ok, rok, hrl⟩ := g.pts
        have hd' := hd
        rw [T.depth] at hd'
        refine way_f ?_
        walk_at "w"
        refine ⟨dx, _, h1, rk, ps', m', fun p1 us1 H1 f1 s1 hm1 e1 => ?_⟩
        have hus := hm1.length
        refine comp2_list (xs := us1) (fun i acc G => Same H1 G ∧ acc = (T.endsL W (ps'.take i)).map V.int) ⟨Same.refl _, rfl⟩ (fun i acc G f => SqL.of (f.1 _ _ e1)) (fun D i x acc H' hx hD hDl f => ⟨rfl, ?_⟩) (fun D H' acc hD hDl f => ?_)
        · obtain ⟨s2, rfl⟩ := f
          have s3 : Same H1 H' := s2.trans off_same
          obtain ⟨t, ht, mt⟩ := (hm1.mono (s1.trans s3)).at_ hx
          have hm := List.mem_of_getElem? ht
          have hdt := T.depthL_le hm
          have gt := g.part hm
          have tk := endsL_snoc (W := W) ht
          have l1 := T.endsL_len W (ps'.take i)
          have l2 := T.taken_take_le ps' i
          have l3 := T.ends_len W t
          have l4 := (T.width_le gt.sh).1
          have l5 := gt.sz
          have l6 := ok.tk
          walk_at "w"
          refine ⟨t, d, ps, W, mt, by omega, gt, l.mono (s1.trans s3), fun z hz => hw z ((T.namesL_mem hm).subset hz), fun b H4 f4 s4 e4 => ?_⟩
          have nD : b ≠ D := by rintro rfl; rw [hDl] at f4; cases f4
          refine inner_flat (s4 _ _ hDl) (SqL.of (by rw [off_at nD]; exact e4)) ?_ (fun z => rfl) (fun z => rfl) (fun G s5 => ⟨s2.trans ((off_mono s4).trans s5), by rw [tk, List.map_append]⟩)
          rw [List.length_map, List.length_map]
          exact lt1000x (by omega)
        · obtain ⟨s2, rfl⟩ := f
          rw [hus, List.take_length] at hDl
          have s3 : Same H H' := s1.trans (s2.trans off_same)
          walk_at "w"
          refine ⟨_, SqL.of hDl, fun ns p5 H5 pm pw f5 s5 e5 => ?_⟩
          obtain rfl := srt_of pm pw
          have sl : (srt (T.endsL W ps')).length = T.taken ps' := by rw [(srt_perm _).length_eq, T.endsL_len]
          have s6 := s3.trans s5
          walk_at "w"
          refine ⟨dx, _, s6 _ _ h1, rk, ps', m'.mono s6, fun p8 H8 f8 s8 e8 => ?_⟩
          have ez := s8 _ _ e5
          refine comp_list (xs := rk.map V.int) (fun i acc G => Same H8 G ∧ acc = ((rk.take i).map fun r => (srt (T.endsL W ps')).getD (r.toNat - 1) 0).map V.int) (by rw [List.length_map]; exact lt1000 hrl) ⟨Same.refl _, rfl⟩ (fun i acc G f => SqL.of (f.1 _ _ e8)) (fun D9 i x acc H9 hx hD9 hDl9 hq9 f => ⟨rfl, ?_⟩) (fun D9 H9 acc hD9 hDl9 hq9 f => ?_)
          · obtain ⟨s9, rfl⟩ := f
            obtain ⟨r0, hr0, rfl⟩ := map_at hx
            have q1 := rok.lo r0 (List.mem_of_getElem? hr0)
            have q2 := rok.hi r0 (List.mem_of_getElem? hr0)
            refine way_t ?_
            walk_at "w"
            refine ⟨_, .int ((srt (T.endsL W ps')).getD (r0.toNat - 1) 0), Or.inl (SqL.of ((s9.trans off_same) _ _ ez)), at_of (j := r0.toNat - 1) (by omega) (getD_map (by omega)), ?_⟩
            refine ⟨hDl9, s9, ?_⟩
            rw [List.take_add_one, hr0, List.map_append, List.map_append]
            rfl
          · obtain ⟨s9, rfl⟩ := f
            rw [List.length_map, List.take_length] at hDl9
            have z1 := k D9 H9 (free_back (s6.trans s8) hD9) (s6.trans (s8.trans (s9.trans off_same)))
            rw [T.ends] at z1
            exact z1 hDl9
    next => exact h.elim
def sp_end_of (K : PySem.W.Frag) : Sp := fun vs H Q _ => match vs with
  | [v, .ref a, .int j] => ∃ t d ps W, MTk K H t v ∧ t.Gd ∧ LotAt K H a d ps ∧ (∀ z ∈ t.names, look ps z = some (W z)) ∧ 1 ≤ j ∧ j ≤ t.width ∧ ∀ H', Same H H' → Q (.int ((t.ends W).getD (j.toNat - 1) 0)) H'
  | _ => False
theorem ok_end_of (tp : Top K mg) : FnN P w K mg base 99 "end_of" [] (sp_end_of K) ∧ FnN P w K mg base 99 "end_of" [.int 1] (sp_end_of K) := by
  refine fn_byD tp.f_end_of sc_end_of (fun vs H Q E h => by unfold sp_end_of at h; split at h <;> first | rfl | exact h.elim) (fun f cdv A outer s H vs Q E hr h => ⟨_, (pss_cons (ps_expr (g_call (ok_check_tree tp) hr rfl (by omega) (pa_cons (gv 0) pa_nil))) (pss_cons (ps_expr (g_call (ok_check_lot tp) hr rfl (by omega) (pa_cons (gv 1) pa_nil))) (pss_cons (ps_expr (g_call (ok_check_end tp) hr rfl (by omega) (pa_cons (gv 0) (pa_cons (gv 2) pa_nil)))) (pss_cons (ps_expr (g_call (ok_check_full tp) hr rfl (by omega) (pa_cons (gv 0) (pa_cons (gv 1) pa_nil)))) (pss_one (ps_ret (pe_ix (k_ix K rfl) (g_call (ok_gathered tp 46) hr rfl (by omega) (pa_cons (gv 0) (pa_cons (gv 1) pa_nil))) (pe_op op_subG (gv 2) pe_int) (fun _ _ => rfl)))))))), ?_⟩)
  unfold sp_end_of at h
  split at h
  next v a j =>
    obtain ⟨t, d, ps, W, m, g, l, hw, j1, j2, k⟩ := h
    walk_at "w"
    refine ⟨t, m, ?_⟩
    walk_at "w"
    refine ⟨⟨d, ps, l⟩, ?_⟩
    walk_at "w"
    refine ⟨t, m, j1, j2, ?_⟩
    walk_at "w"
    refine ⟨t, d, ps, m, g, l, fun z hz => look_some.mpr ⟨_, hw z hz⟩, fun H1 s1 => ?_⟩
    walk_at "w"
    refine ⟨t, d, ps, W, m.mono s1, Nat.lt_succ_of_le g.dp, g, l.mono s1, hw, fun r H2 f2 s2 e2 => ?_⟩
    walk_at "w"
    refine ⟨_, .int ((t.ends W).getD (j.toNat - 1) 0), Or.inl (SqL.of e2), at_of (j := j.toNat - 1) (by omega) (getD_map (by rw [T.ends_len]; omega)), ?_⟩
    exact k H2 (s1.trans s2)
  next => exact h.elim
end LW
namespace LW
open PySem PySem.Spec L2 GG
variable {P : Program} {w : World} {K : PySem.W.Frag} {mg : Str → Option Value} {base : Heap}
def wps (W : Str → Int) (ns : List Str) : List (Str × Int) := ns.map fun z => (z, W z)
theorem wps_fst (W : Str → Int) (ns : List Str) : (wps W ns).map (·.1) = ns := by unfold wps; rw [List.map_map]; exact List.map_id' ns
theorem wps_wOf {ps : List (Str × Int)} (nd : (ps.map (·.1)).Nodup) : wps (wOf ps) (ps.map (·.1)) = ps := by
  unfold wps
  rw [List.map_map]
  refine (List.map_congr_left fun p hp => ?_).trans (List.map_id' ps)
  show (p.1, wOf ps p.1) = p
  unfold wOf
  rw [look_of nd (show (p.1, p.2) ∈ ps from hp)]
  rfl
theorem look_wps {W : Str → Int} {ns : List Str} {z : Str} (nd : ns.Nodup) (h : z ∈ ns) : look (wps W ns) z = some (W z) :=
  look_of (by rw [wps_fst]; exact nd) (List.mem_map.mpr ⟨z, h, rfl⟩)
theorem many_atL {d : Int} (h0 : 0 ≤ d) (h1 : d < 4) : ∃ m : Int, ([.int 3, .int 9, .int 40, .int ((10 : Int) ^ (6 : Int).toNat)] : List V)[d.toNat]? = some (.int m) ∧ 0 < m ∧ m ≤ 1000000 := by
  have : d.toNat = 0 ∨ d.toNat = 1 ∨ d.toNat = 2 ∨ d.toNat = 3 := by omega
  rcases this with q | q | q | q <;> rw [q]
  · exact ⟨3, rfl, by decide, by decide⟩
  · exact ⟨9, rfl, by decide, by decide⟩
  · exact ⟨40, rfl, by decide, by decide⟩
  · exact ⟨(10 : Int) ^ (6 : Int).toNat, rfl, by decide, by decide⟩
def sp__law_worths (K : PySem.W.Frag) : Sp := fun vs H Q _ => match vs with
  | [.ref p, .ref q] => ∃ ns : List Str, Pu H p ∧ H q = some (.lst (ns.map V.str)) ∧ ns.length ≤ 100 ∧ ns.Nodup ∧ ∀ W r H', H r = none → SameX p H H' → Pu H' p → H' r = some (.dK (kvI (wps W ns))) → (∀ z ∈ ns, -500000 ≤ W z ∧ W z ≤ 500000) → Q (.ref r) H'
  | _ => False
theorem ok__law_worths (tp : Top K mg) : FnN P w K mg base 2 "_law_worths" [] (sp__law_worths K) := by
  refine fn_by tp.f__law_worths sc__law_worths (fun vs H Q E h => by unfold sp__law_worths at h; split at h <;> first | rfl | exact h.elim) (fun f cdv A outer s H vs Q E hr h => ⟨_, (pss_cons (ps_set (i := 2) sc__law_worths.nd rfl (by first | exact Or.inl rfl | exact Or.inr rfl) (pe_ix (k_ix K rfl) (g_lst (pa_cons pe_int (pa_cons pe_int (pa_cons pe_int (pa_cons (pe_op op_powW pe_int pe_int) pa_nil))))) (g_call (ok__law_draw tp) hr rfl (by omega) (pa_cons (gv 0) (pa_cons pe_int pa_nil))) (fun _ _ => rfl))) (pss_cons (ps_set (i := 3) sc__law_worths.nd rfl (by first | exact Or.inl rfl | exact Or.inr rfl) g_dnew) (pss_cons (g_for PassesOwn.never rfl (kw_list K rfl (gv 1)) (pg_name (i := 4) sc__law_worths.nd rfl (by first | exact Or.inl rfl | exact Or.inr rfl)) (pss_one (ps_asg (pe_op op_subG (g_call (ok__law_draw tp) hr rfl (by omega) (pa_cons (gv 0) (pa_cons (gv 2) pa_nil))) (pe_op op_fdivG (gv 2) pe_int)) (pg_sub (gv 3) (gv 4) (s_dict (Nat.lt_of_le_of_lt (Nat.add_le_add_left (by decide : 1 ≤ 64) _) hr.units)))))) (pss_one (ps_ret (gv 3)))))), ?_⟩)
  unfold sp__law_worths at h
  split at h
  next p q =>
    obtain ⟨ns, hp, hq, hl, nd, k⟩ := h
    have hpq : q ≠ p := by rintro rfl; obtain ⟨x, y, z, e⟩ := hp; rw [hq] at e; cases ns with
      | nil => simp at e
      | cons a l => simp at e
    walk_at "w"
    refine ⟨⟨by decide, by decide +kernel⟩, ?_⟩
    walk_at "w"
    refine ⟨(by show 4 ≤ sizeLine; decide), fun p1 H1 hp1 s1 e1 => ?_⟩
    refine ⟨hp.same s1, by decide, by decide, fun d H2 d0 d1 s2 hp2 => ?_⟩
    have e2 := s2 _ _ (hp.ne hp1) e1
    obtain ⟨m, hm, hm1, hm2⟩ := many_atL d0 d1
    walk_at "w"
    refine ⟨_, .int m, Or.inl (SqL.of e2), at_of (j := d.toNat) (by omega) hm, ?_⟩
    walk_at "w"
    refine fun pd H3 fd s3 ed => ?_
    have hp3 := hp2.same s3
    have s03 : SameX p H H3 := (SameX.of s1).trans (s2.trans (SameX.of s3))
    have f0 : H pd = none := ((SameX.of s1).trans s2).none_ hp2 fd
    have npd : pd ≠ p := hp.ne f0
    walk_at "w"
    refine forw_list (xs := ns.map V.str) (fun i σ G => ∃ v4, σ = [some (.ref p), some (.ref q), some (.int m), some (.ref pd), v4] ∧ SameX p H G ∧ Pu G p ∧ ∃ ps, G pd = some (.dK (kvI ps)) ∧ ps.map (·.1) = ns.take i ∧ ∀ x ∈ ps, -500000 ≤ x.2 ∧ x.2 ≤ 500000)
      ⟨none, rfl, s03, hp3, [], ed, rfl, fun x hx => by simp at hx⟩ (fun i σ G _ ⟨_, _, sG, _⟩ => SqL.of (sG _ _ hpq hq)) ?_ ?_
    · rintro i x σ G hx ⟨v4, rfl, sG, hpG, ps, eG, pn, pb⟩
      obtain ⟨z, hz, rfl⟩ := map_atG hx
      have hi : i < ns.length := (List.getElem?_eq_some_iff.mp hz).1
      have pl : ps.length ≤ 100 := by
        have := congrArg List.length pn
        rw [List.length_map, List.length_take] at this
        omega
      walk_at "w"
      refine ⟨hpG, hm1, by omega, fun d4 H4 a4 b4 s4 hp4 => ?_⟩
      walk_at "w"
      refine ⟨⟨by decide, by decide⟩, ?_⟩
      refine ⟨kvI ps, s4 _ _ npd eG, by rw [kvI_len]; exact lt1000 (by omega), fun H5 s5 e5 => ?_⟩
      have nin : z ∉ ps.map (·.1) := by
        rw [pn]
        intro q
        have e : ns = ns.take i ++ z :: ns.drop (i + 1) := by
          obtain ⟨hi, e⟩ := List.getElem?_eq_some_iff.mp hz
          rw [← e, List.getElem_cons_drop, List.take_append_drop]
        rw [e, List.nodup_append] at nd
        exact nd.2.2 _ q _ (List.mem_cons_self ..) rfl
      have pk : putK (kvI ps) (.inr z) (.int (d4 - m / 2)) = kvI (ps ++ [(z, d4 - m / 2)]) := by
        rw [putK_new]
        · unfold kvI; rw [List.map_append]; rfl
        · rw [valV_kvI]
          cases e : look ps z with
          | none => rfl
          | some c => exact absurd (look_some.mpr ⟨c, e⟩) nin
      rw [pk] at e5
      refine ⟨_, rfl, fun b o nb eb => s5 b o (ne_of_none eb f0) (s4 b o nb (sG b o nb eb)), let ⟨x, y, w', e⟩ := hp4; ⟨x, y, w', s5 _ _ npd.symm e⟩, _, e5, ?_, fun x hx => ?_⟩
      · rw [List.map_append, pn, List.take_add_one, hz]; rfl
      · rcases List.mem_append.mp hx with q | q
        · exact pb x q
        · rw [List.mem_singleton.mp q]
          show -500000 ≤ d4 - m / 2 ∧ d4 - m / 2 ≤ 500000
          omega
    · rintro σ G ⟨v4, rfl, sG, hpG, ps, eG, pn, pb⟩
      rw [List.length_map, List.take_length] at pn
      walk_at "w"
      have nd2 : (ps.map (·.1)).Nodup := by rw [pn]; exact nd
      refine k (wOf ps) pd G f0 sG hpG ?_ fun z hz => ?_
      · rw [← pn, wps_wOf nd2]; exact eG
      · rw [← pn] at hz
        obtain ⟨x, hx, rfl⟩ := List.mem_map.mp hz
        unfold wOf
        rw [look_of nd2 (show (x.1, x.2) ∈ ps from hx)]
        exact pb x hx
  next => exact h.elim
def sp__law_pairs (K : PySem.W.Frag) : Sp := fun vs H Q _ => match vs with
  | [.ref q] => ∃ W ns, H q = some (.dK (kvI (wps W ns))) ∧ ns.Nodup ∧ ns.length ≤ 100 ∧ ∀ ys r H', H r = none → Same H H' → H' r = some (.lst ys) → PL H' ((wps W ns).mergeSort pLe) ys → Q (.ref r) H'
  | _ => False
theorem keys_wps (W : Str → Int) (ns : List Str) : ((kvI (wps W ns)).map fun kv => kV kv.1) = ns.map V.str := by unfold kvI wps; rw [List.map_map, List.map_map]; rfl
theorem ok__law_pairs (tp : Top K mg) : FnN P w K mg base 1 "_law_pairs" [] (sp__law_pairs K) := by
  refine fn_by tp.f__law_pairs sc__law_pairs (fun vs H Q E h => by unfold sp__law_pairs at h; split at h <;> first | rfl | exact h.elim) (fun f cdv A outer s H vs Q E hr h => ⟨_, (pss_one (ps_ret (pe_callB (k_sortP K rfl hr.units) (by rfl) tp.b_sorted (by decide +kernel) (pa_cons (g_lc rfl sc__law_pairs.nd (kw_list K rfl (pe_callTy (c_listD rfl) (by rfl) tp.b_list (by decide +kernel) (pa_cons (gv 0) pa_nil))) (blkOk_by (own := [("name", 1)]) (N := (["worths", "name"] : List Str)) (sc := defScope s__law_pairs) (by decide +kernel)) (fun _ _ _ _ _ => pg_name (i := 1) sc__law_pairs.nd rfl (by first | exact Or.inl rfl | exact Or.inr rfl)) (fun _ _ _ _ _ => pts_nil) (fun _ _ _ _ _ => (g_tup (pa_cons (gv 1) (pa_cons (g_dget (Nat.lt_of_le_of_lt (Nat.add_le_add_left (by decide : 1 ≤ 64) _) hr.units) (gv 0) (gv 1)) pa_nil))))) pa_nil)))), ?_⟩)
  unfold sp__law_pairs at h
  split at h
  next q =>
    obtain ⟨W, ns, hq, nd, hl, k⟩ := h
    walk_at "w"
    refine ⟨_, hq, fun p1 H1 f1 s1 e1 => ?_⟩
    rw [keys_wps] at e1
    refine comp_list (xs := ns.map V.str) (fun i acc G => Same H1 G ∧ PL G ((wps W ns).take i) acc) (by rw [List.length_map]; exact lt1000 (by omega)) ⟨Same.refl _, rfl⟩ (fun i acc G f => SqL.of (f.1 _ _ e1)) (fun D i x acc H' hx hD hDl hq' f => ⟨rfl, ?_⟩) (fun D H2 acc hD hDl hq' f => ?_)
    · obtain ⟨s2, pl⟩ := f
      obtain ⟨z, hz, rfl⟩ := map_atG hx
      refine way_t ?_
      walk_at "w"
      refine ⟨_, .int (W z), (s1.trans (s2.trans off_same)) _ _ hq, by rw [valV_kvI, look_wps nd (List.mem_of_getElem? hz)]; rfl, ?_⟩
      refine ⟨(by show 2 ≤ sizeLine; decide), fun p2 H3 f2 s3 e3 => ?_⟩
      have nD : p2 ≠ D := by rintro rfl; rw [hDl] at f2; cases f2
      refine ⟨s3 _ _ hDl, s2.trans (off_mono s3), ?_⟩
      have e : (wps W ns)[i]? = some (z, W z) := by unfold wps; rw [List.getElem?_map, hz]; rfl
      rw [List.take_add_one, e]
      exact (pl.mono (off_mono s3)).app (PL.one (by rw [off_at nD]; exact e3))
    · obtain ⟨s2, pl⟩ := f
      have s3 : Same H H2 := s1.trans (s2.trans off_same)
      rw [show (ns.map V.str).length = (wps W ns).length by unfold wps; rw [List.length_map, List.length_map], List.take_length] at pl
      refine ⟨acc, _, SqL.of hDl, pl.mono off_same, by rw [wps_fst]; exact nd, fun ys p H4 f4 s4 e4 pl4 => ?_⟩
      exact k ys p H4 (free_back s3 f4) (s3.trans s4) e4 pl4
  next => exact h.elim
def strng : List Str := ["zz", "zzz", "qqqqqqqq", "zzzzzzzz", "xa", "xb", "xc", "xd", "xe", "xf", "xg", "xh", "xi", "xj"]
theorem strng_ok : ∀ z ∈ strng, IsNm z ∧ ¬ ((run z.cps.toList).1 ∈ lets ∧ (run z.cps.toList).2 ≤ 2) := by unfold IsNm; decide +kernel
theorem strng_nd : strng.Nodup := by decide +kernel
theorem strng_not {z : Str} (h : LwNm z) : z ∉ strng := fun q => (strng_ok z q).2 h
def sp__law_strangers (K : PySem.W.Frag) : Sp := fun vs H Q _ => match vs with
  | [.ref p, .int m] => Pu H p ∧ 0 ≤ m ∧ m ≤ 14 ∧ ∀ ps ys r H', ps.map (·.1) = strng.take m.toNat → (∀ x ∈ ps, -10 ≤ x.2 ∧ x.2 ≤ 10) → H r = none → SameX p H H' → Pu H' p → H' r = some (.lst ys) → PL H' ps ys → Q (.ref r) H'
  | _ => False
theorem PL.monoX {H H' : Hp} {p : Addr} (hp : Pu H p) (s : SameX p H H') : ∀ {ps : List (Str × Int)} {vs : List V}, PL H ps vs → PL H' ps vs
  | [], vs, h => h
  | x :: ps, vs, ⟨q, r, e, h1, h2⟩ => ⟨q, r, e, s _ _ (by rintro rfl; obtain ⟨a, b, c, e⟩ := hp; rw [e] at h1; cases h1) h1, PL.monoX hp s h2⟩
theorem ok__law_strangers (tp : Top K mg) : FnN P w K mg base 2 "_law_strangers" [] (sp__law_strangers K) := by
  refine fn_by tp.f__law_strangers sc__law_strangers (fun vs H Q E h => by unfold sp__law_strangers at h; split at h <;> first | rfl | exact h.elim) (fun f cdv A outer s H vs Q E hr h => ⟨_, (pss_cons (ps_set (i := 2) sc__law_strangers.nd rfl (by first | exact Or.inl rfl | exact Or.inr rfl) (g_lst (pa_cons pe_str (pa_cons pe_str (pa_cons pe_str (pa_cons pe_str (pa_cons pe_str (pa_cons pe_str (pa_cons pe_str (pa_cons pe_str (pa_cons pe_str (pa_cons pe_str (pa_cons pe_str (pa_cons pe_str (pa_cons pe_str (pa_cons pe_str pa_nil)))))))))))))))) (pss_one (ps_ret (g_lc rfl sc__law_strangers.nd (kw_list K rfl (pe_slice (k_sl K rfl) (gv 2) po_none (po_some (gv 1)))) (blkOk_by (own := [("name", 3)]) (N := (["purse", "many", "names", "name"] : List Str)) (sc := defScope s__law_strangers) (by decide +kernel)) (fun _ _ _ _ _ => pg_name (i := 3) sc__law_strangers.nd rfl (by first | exact Or.inl rfl | exact Or.inr rfl)) (fun _ _ _ _ _ => pts_nil) (fun _ _ _ _ _ => (g_tup (pa_cons (gv 3) (pa_cons (pe_op op_subG (g_call (ok__law_draw tp) hr rfl (by omega) (pa_cons (gv 0) (pa_cons pe_int pa_nil))) pe_int) pa_nil)))))))), ?_⟩)
  unfold sp__law_strangers at h
  split at h
  next p m =>
    obtain ⟨hp, m0, m14, k⟩ := h
    walk_at "w"
    refine ⟨(by show 14 ≤ sizeLine; decide), fun p1 H1 f1 s1 e1 => ?_⟩
    have e1 : H1 p1 = some (.lst (strng.map V.str)) := e1
    walk_at "w"
    refine ⟨_, rfl, ?_⟩
    refine ⟨_, SqL.of e1, fun p2 H2 f2 s2 e2 => ?_⟩
    have hcut : cutV (strng.map V.str) none (some m) = (strng.take m.toNat).map V.str := by
      unfold cutV
      obtain ⟨mn, rfl⟩ := Int.eq_ofNat_of_zero_le m0
      rw [HT.sIx_none, HT.sIx_nat, List.drop_zero, ← List.map_take]
      congr 1
      rw [List.length_map]
      exact List.take_eq_take_iff.mpr (by show min _ _ = min _ _; simp)
    rw [hcut] at e2
    have s12 := s1.trans s2
    have hp2 := hp.same s12
    have npp : p2 ≠ p := (hp.same s1).ne f2
    generalize hT : strng.take m.toNat = T at e2 k
    have Tl : T.length ≤ 14 := by rw [← hT, List.length_take]; exact Nat.min_le_right _ _
    refine comp_list (xs := T.map V.str) (fun i acc G => SameX p H2 G ∧ Pu G p ∧ ∃ ps, PL G ps acc ∧ ps.map (·.1) = T.take i ∧ ∀ x ∈ ps, -10 ≤ x.2 ∧ x.2 ≤ 10) (by rw [List.length_map]; exact lt1000 (by omega)) ⟨SameX.refl, hp2, [], rfl, rfl, fun x hx => by simp at hx⟩ (fun i acc G f => SqL.of (f.1 _ _ npp e2)) (fun D i x acc H' hx hD hDl hq' f => ⟨rfl, ?_⟩) (fun D H3 acc hD hDl hq' f => ?_)
    · obtain ⟨sG, hpG, ps, pl, pn, pb⟩ := f
      obtain ⟨z, hz, rfl⟩ := map_atG hx
      have nDp : D ≠ p := by rintro rfl; obtain ⟨a, b, c, e⟩ := hp2; rw [e] at hD; cases hD
      have hpH : Pu H' p := let ⟨a, b, c, e⟩ := hpG; ⟨a, b, c, off_same _ _ e⟩
      refine way_t ?_
      walk_at "w"
      refine ⟨hpH, by decide, by decide, fun d H4 d0 d1 s4 hp4 => ?_⟩
      refine ⟨(by show 2 ≤ sizeLine; decide), fun p5 H5 f5 s5 e5 => ?_⟩
      have hD4 := s4 _ _ nDp hDl
      have nD : p5 ≠ D := by rintro rfl; rw [hD4] at f5; cases f5
      have so : SameX p (off D H') (off D H5) := fun b o n e => by
        obtain ⟨nb, e⟩ := off_some e
        rw [off_at nb]; exact s5 _ _ (s4 b o n e)
      refine ⟨s5 _ _ hD4, sG.trans so, let ⟨a, b, c, e⟩ := hp4; ⟨a, b, c, by rw [off_at nDp.symm]; exact s5 _ _ e⟩, ps ++ [(z, d - 4)], (PL.monoX hpG so pl).app (PL.one (by rw [off_at nD]; exact e5)), ?_, fun x hx => (List.mem_append.mp hx).elim (pb x) fun q => by rw [List.mem_singleton.mp q]; show -10 ≤ d - 4 ∧ d - 4 ≤ 10; omega⟩
      rw [List.map_append, pn, List.take_add_one, hz]; rfl
    · obtain ⟨sG, hpG, ps, pl, pn, pb⟩ := f
      rw [List.length_map, List.take_length] at pn
      have nDp : D ≠ p := by rintro rfl; obtain ⟨a, b, c, e⟩ := hp2; rw [e] at hD; cases hD
      exact k ps acc D H3 pn pb (free_back s12 hD) ((SameX.of s12).trans (fun b o n e => off_same _ _ (sG b o n e))) (let ⟨a, b, c, e⟩ := hpG; ⟨a, b, c, off_same _ _ e⟩) hDl (pl.mono off_same)
  next => exact h.elim
theorem SWL_none {z : Str} {L F : List Str} {ps : List T} {i : Nat} {t : T} {k : Int} (nd : (T.namesL ps).Nodup) (h : ps[i]? = some t) (hz : z ∈ t.names) : ¬ T.SWL z L F (ps.take i) k := by
  rw [T.SWL_iff]
  rintro ⟨p, hp, hzp, _⟩
  have e : ps = ps.take i ++ t :: ps.drop (i + 1) := by
    obtain ⟨hi, e⟩ := List.getElem?_eq_some_iff.mp h
    rw [← e, List.getElem_cons_drop, List.take_append_drop]
  have e2 : ∀ as bs : List T, T.namesL (as ++ bs) = T.namesL as ++ T.namesL bs := by
    intro as bs
    induction as with
    | nil => rw [T.namesL]; rfl
    | cons a as ih => rw [List.cons_append, T.namesL, T.namesL, ih, List.append_assoc]
  rw [e, e2, T.namesL, List.nodup_append] at nd
  exact nd.2.2 z (T.mem_namesL.mpr ⟨p, hp, hzp⟩) z (List.mem_append_left _ hz) rfl
def sp__law_turns (K : PySem.W.Frag) (n : Nat) : Sp := fun vs H Q _ => match vs with
  | [v, .ref lq, .ref fq, .str z] => ∃ t, ∃ L F : List Str, LT H t v ∧ t.depth < n ∧ t.Gd ∧ H lq = some (.lst (L.map V.str)) ∧ H fq = some (.lst (F.map V.str)) ∧ L.length ≤ 100 ∧ F.length ≤ 100 ∧
    ∀ (js : List Int) r H', H r = none → Same H H' → H' r = some (.lst (js.map V.int)) → (∀ j, j ∈ js ↔ t.SW z L F (j - 1)) → js.length ≤ 1000 → Q (.ref r) H'
  | _ => False
theorem ok__law_turns (tp : Top K mg) : ∀ n, FnN P w K mg base (n + 50) "_law_turns" [] (sp__law_turns K n)
  | 0 => by
    refine fn_by tp.f__law_turns sc__law_turns (fun vs H Q E h => by unfold sp__law_turns at h; split at h <;> first | rfl | exact h.elim) (fun f cdv A outer s H vs Q E hr h => ?_)
    exfalso
    unfold sp__law_turns at h
    split at h
    next v lq fq z => obtain ⟨t, L, F, _, h, _⟩ := h; omega
    next => exact h
  | n + 1 => by
    have ih := ok__law_turns tp n
    refine fn_by tp.f__law_turns sc__law_turns (fun vs H Q E h => by unfold sp__law_turns at h; split at h <;> first | rfl | exact h.elim) (fun f cdv A outer s H vs Q E hr h => ⟨_, (pss_cons (g_if (g_val (pe_callB (k_isi K rfl) (by rfl) tp.b_isinstance (by decide +kernel) (pa_cons (gv 0) (pa_cons (pe_bltn (v := .ty "str") rfl tp.b_str (by decide +kernel) rfl) pa_nil)))) (pss_one (ps_ret (g_lst (pa_cons pe_int pa_nil)))) pss_nil) (pss_cons (ps_asg (g_tup (pa_cons pe_int (pa_cons pe_int (pa_cons (g_lst pa_nil) pa_nil)))) (pg_tup rfl (pgs_cons (pg_name (i := 4) sc__law_turns.nd rfl (by first | exact Or.inl rfl | exact Or.inr rfl)) (pgs_cons (pg_name (i := 5) sc__law_turns.nd rfl (by first | exact Or.inl rfl | exact Or.inr rfl)) (pgs_cons (pg_name (i := 6) sc__law_turns.nd rfl (by first | exact Or.inl rfl | exact Or.inr rfl)) pgs_nil))))) (pss_cons (g_for PassesOwn.never rfl (kw_list K rfl (pe_ix (k_ix K rfl) (gv 0) pe_int (fun _ _ => rfl))) (pg_name (i := 7) sc__law_turns.nd rfl (by first | exact Or.inl rfl | exact Or.inr rfl)) (pss_one (g_if (g_cmp (k_inG K rfl) (gv 3) (g_call (ok__law_names tp 46) hr rfl (by omega) (pa_cons (gv 7) pa_nil)) (by with_unfolding_all rfl)) (pss_one (ps_set (i := 6) sc__law_turns.nd rfl (by first | exact Or.inl rfl | exact Or.inr rfl) (g_call (ih) hr rfl (by omega) (pa_cons (gv 7) (pa_cons (gv 1) (pa_cons (gv 2) (pa_cons (gv 3) pa_nil))))))) (pss_cons (g_aug (i := 4) sc__law_turns.nd rfl (by first | exact Or.inl rfl | exact Or.inr rfl) (g_call (ok__law_low tp 46) hr rfl (by omega) (pa_cons (gv 7) (pa_cons (gv 1) pa_nil)))) (pss_one (g_aug (i := 5) sc__law_turns.nd rfl (by first | exact Or.inl rfl | exact Or.inr rfl) (g_call (ok__law_low tp 46) hr rfl (by omega) (pa_cons (gv 7) (pa_cons (pe_op op_addG (gv 1) (gv 2)) pa_nil))))))))) (pss_cons (ps_set (i := 8) sc__law_turns.nd rfl (by first | exact Or.inl rfl | exact Or.inr rfl) (g_lst pa_nil)) (pss_cons (g_for PassesOwn.never rfl (w_enum rfl rfl tp.b_enumerate (pa_cons (pe_ix (k_ix K rfl) (gv 0) pe_int (fun _ _ => rfl)) pa_nil)) (pg_tup rfl (pgs_cons (pg_name (i := 9) sc__law_turns.nd rfl (by first | exact Or.inl rfl | exact Or.inr rfl)) (pgs_cons (pg_name (i := 10) sc__law_turns.nd rfl (by first | exact Or.inl rfl | exact Or.inr rfl)) pgs_nil))) (pss_one (g_if (g_cmp (k_neG K rfl hr.units) (g_lc rfl sc__law_turns.nd (kw_list K rfl (gv 6)) (blkOk_by (own := [("k", 11)]) (N := (["tree", "low", "free", "name", "least", "most", "ends", "part", "found", "q", "rank", "k"] : List Str)) (sc := defScope s__law_turns) (by decide +kernel)) (fun _ _ _ _ _ => pg_name (i := 11) sc__law_turns.nd rfl (by first | exact Or.inl rfl | exact Or.inr rfl)) (fun _ _ _ _ _ => (pts_one (g_chainT op_leG op_leG (gv 4) (pe_op op_subG (gv 10) (gv 11)) (gv 5)))) (fun _ _ _ _ _ => (gv 11))) (g_lst pa_nil) (nomark _)) (pss_one (ps_expr (pe_bm PySem.F.plainAttrs_list PySem.F.slot_list_append PySem.F.type_list_append m_append (gv 8) (pa_cons (pe_op op_addG (gv 9) pe_int) pa_nil)))) pss_nil))) (pss_one (ps_ret (gv 8)))))))), ?_⟩)
    unfold sp__law_turns at h
    split at h
    next v lq fq z =>
      obtain ⟨t, L, F, m, hd, g, hl, hf, lL, lF, k⟩ := h
      cases t with
      | leaf y =>
        obtain rfl : v = .str y := m
        walk_at "w"
        refine ⟨_, is_ss, way_t ?_⟩
        walk_at "w"
        refine ⟨(by show 1 ≤ sizeLine; decide), fun p1 H1 f1 s1 e1 => ?_⟩
        exact k [1] p1 H1 f1 s1 e1 (fun j => by rw [T.SW, List.mem_singleton]; omega) (by decide)
      | grp rk ps =>
        obtain ⟨a, r, p, us, rfl, h1, h2, h3, h4⟩ := m
        have hus := h4.length
        obtain ⟨ok, rok, hrl⟩ := g.pts
        rw [T.depth] at hd
        walk_at "w"
        refine ⟨_, is_ts h1, way_f ?_⟩
        walk_at "w"
        refine ⟨(by show 0 ≤ sizeLine; decide), fun p0 H0 f0 s0 e0 => ?_⟩
        refine ⟨(by show 3 ≤ sizeLine; decide), fun pt Ht ft st et => ?_⟩
        refine ⟨pt, _, rfl, SqT.of et, rfl, .int 0, _, rfl, .int 0, _, rfl, .ref p0, [], rfl, rfl, ?_⟩
        have sHt := s0.trans st
        have et0 := st _ _ e0
        walk_at "w"
        refine ⟨_, .ref p, Or.inr (SqT.of (sHt _ _ h1)), at_of (j := 2) rfl rfl, ?_⟩
        refine forw_list (xs := us) (fun i σ G => ∃ eb v7, σ = [some (.ref a), some (.ref lq), some (.ref fq), some (.str z), some (.int (T.lowL L (T.others z (ps.take i)) : Int)), some (.int (T.lowL (L ++ F) (T.others z (ps.take i)) : Int)), some (.ref eb), v7, none, none, none, none] ∧ Same H G ∧
            ∃ es : List Int, G eb = some (.lst (es.map V.int)) ∧ (∀ k, k ∈ es ↔ T.SWL z L F (ps.take i) (k - 1)) ∧ es.length ≤ 1000)
          ⟨p0, none, rfl, sHt, [], et0, fun k => by simp [T.SWL], by decide⟩ (fun i σ G _ ⟨_, _, _, sG, _⟩ => SqL.of (sG _ _ h3)) ?_ ?_
        · rintro i x σ G hx ⟨eb, v7, rfl, sG, es, eE, hes, hel⟩
          obtain ⟨t, ht, mt⟩ := (h4.mono sG).at_ hx
          have tm := List.mem_of_getElem? ht
          have hdt := T.depthL_le tm
          have gt := g.part tm
          have tk : ps.take (i + 1) = ps.take i ++ [t] := by rw [List.take_add_one, ht]; rfl
          walk_at "w"
          refine ⟨t, mt, Nat.lt_succ_of_le gt.dp, gt.sz, fun p1 H1 f1 s1 e1 => ?_⟩
          refine ⟨_, Or.inl (SqL.of e1), rfl, flat_strs _, ?_⟩
          rw [inV_str]
          refine way_d (fun c => ?_) fun c => ?_
          · walk_at "w"
            refine ⟨t, L, F, mt.mono s1, by omega, gt, (sG.trans s1) _ _ hl, (sG.trans s1) _ _ hf, lL, lF, fun js r2 H2 f2 s2 e2 hj hjl => ?_⟩
            refine ⟨r2, some x, ?_, sG.trans (s1.trans s2), js, e2, fun k => ?_, hjl⟩
            · rw [tk, others_snoc, if_pos c, List.append_nil]; rfl
            · rw [tk, SWL_snoc, hj]
              exact ⟨fun q => .inr ⟨c, q⟩, fun q => q.elim (fun q => absurd q (SWL_none (by have := g.nd; rw [T.names] at this; exact this) ht c)) fun q => q.2⟩
          · walk_at "w"
            refine ⟨t, L, mt.mono s1, Nat.lt_succ_of_le gt.dp, gt, (sG.trans s1) _ _ hl, fun H2 s2 => ?_⟩
            have s12 := s1.trans s2
            walk_at "w"
            refine ⟨_, _, (sG.trans s12) _ _ hl, (sG.trans s12) _ _ hf, ?_, fun p3 H3 f3 s3 e3 => ?_⟩
            · rw [List.length_map, List.length_map]; exact Nat.le_trans (by omega : _ ≤ 200) (by decide)
            have e3' : H3 p3 = some (.lst ((L ++ F).map V.str)) := by rw [List.map_append]; exact e3
            have s13 := s12.trans s3
            refine ⟨t, L ++ F, mt.mono s13, Nat.lt_succ_of_le gt.dp, gt, e3', fun H4 s4 => ?_⟩
            have s14 := s13.trans s4
            refine ⟨eb, some x, ?_, sG.trans s14, es, s14 _ _ eE, fun k => ?_, hel⟩
            · rw [tk, others_snoc, if_neg c, T.lowL_append, T.lowL_append, T.lowL, T.lowL, T.lowL, T.lowL]
              rfl
            · rw [tk, SWL_snoc, hes]
              exact ⟨.inl, fun q => q.elim id fun q => absurd q.1 c⟩
        · rintro σ G ⟨eb, v7, rfl, sG, es, eE, hes, hel⟩
          rw [hus, List.take_length]
          rw [hus, List.take_length] at hes
          generalize hlo : (T.lowL L (T.others z ps) : Int) = lo
          generalize hhi : (T.lowL (L ++ F) (T.others z ps) : Int) = hi
          walk_at "w"
          refine ⟨(by show 0 ≤ sizeLine; decide), fun fb H5 f5 s5 e5 => ?_⟩
          have s5H := sG.trans s5
          walk_at "w"
          refine ⟨_, .ref r, Or.inr (SqT.of (s5H _ _ h1)), at_of (j := 1) rfl rfl, ?_⟩
          refine ⟨r, rk.map V.int, rfl, SqL.of (s5H _ _ h2), ?_⟩
          have fbn : H fb = none := free_back sG f5
          have nrf : r ≠ fb := ne_of_none (sG _ _ h2) f5
          have nef : eb ≠ fb := ne_of_none eE f5
          refine forw_enum (xs := rk.map V.int) (fun i σ G2 => ∃ v9 v10, σ = [some (.ref a), some (.ref lq), some (.ref fq), some (.str z), some (.int lo), some (.int hi), some (.ref eb), v7, some (.ref fb), v9, v10, none] ∧ Same H G2 ∧ G2 eb = some (.lst (es.map V.int)) ∧
              ∃ js : List Int, G2 fb = some (.lst (js.map V.int)) ∧ (∀ j, j ∈ js ↔ ∃ i2 : Nat, i2 < i ∧ j = (i2 : Int) + 1 ∧ (T.grp rk ps).SW z L F (i2 : Int)) ∧ js.length ≤ i)
            ⟨none, none, rfl, s5H, s5 _ _ eE, [], e5, fun j => by simp, Nat.le_refl _⟩ (fun i σ G2 _ ⟨_, _, _, sG2, _⟩ => SqL.of (sG2 _ _ h2)) ?_ ?_
          · rintro i x T0 σ G2 G3 hx ⟨v9, v10, rfl, sG2, eE2, js, eJ, hj, hjl⟩ fT sT eT
            obtain ⟨rr, hr2, rfl⟩ := map_at hx
            have hi2 : i < rk.length := (List.getElem?_eq_some_iff.mp hr2).1
            have tu := turns_iff (n := z) (L := L) (F := F) (ps := ps) rok.asc hr2
            rw [hlo, hhi] at tu
            refine ⟨T0, _, rfl, SqT.of eT, rfl, .int (i : Nat), _, rfl, .int rr, [], rfl, rfl, ?_⟩
            have n3 : fb ≠ T0 := ne_of_none eJ fT
            walk_at "w"
            refine comp_list (xs := es.map V.int) (fun i acc G => Same G3 G ∧ acc = ((es.take i).filter fun k => decide (lo ≤ rr - k) && decide (rr - k ≤ hi)).map V.int) (by rw [List.length_map]; exact lt1000 (by omega)) ⟨Same.refl _, rfl⟩ (fun i acc G f => SqL.of (f.1 _ _ (sT _ _ eE2))) (fun D i x acc H' hx hD hDl hq' f => ⟨rfl, ?_⟩) (fun D G4 acc hD hDl hq' f => ?_)
            · obtain ⟨t4, rfl⟩ := f
              obtain ⟨k0, hk0, rfl⟩ := map_at hx
              have ek := filt_take (p := fun k => decide (lo ≤ rr - k) && decide (rr - k ≤ hi)) hk0
              walk_at "w"
              refine way_d (fun c => ?_) fun c => ?_
              · refine way_d (fun c2 => ?_) fun c2 => ?_
                · refine ⟨hDl, t4, ?_⟩
                  rw [ek, if_pos (by simp [c, c2]), List.map_append]; rfl
                · refine ⟨hDl, t4, ?_⟩
                  rw [ek, if_neg (by simp [c2]), List.append_nil]
              · refine way_f ?_
                refine ⟨hDl, t4, ?_⟩
                rw [ek, if_neg (by simp [c]), List.append_nil]
            obtain ⟨t4', rfl⟩ := f
            rw [List.length_map, List.take_length] at hDl
            have t4 : Same G3 G4 := t4'.trans off_same
            refine ⟨(by show 0 ≤ sizeLine; decide), fun q7 G7 f7 t7 e7 => ?_⟩
            refine Or.inl ⟨_, SqL.of (t7 _ _ hDl), e7, ?_⟩
            have t37 : Same G3 G7 := t4.trans t7
            have t27 := sT.trans t37
            have du : ((es.filter fun k => decide (lo ≤ rr - k) && decide (rr - k ≤ hi)).map V.int).isEmpty = true ↔ ¬ (T.grp rk ps).SW z L F (i : Int) := by
              rw [List.isEmpty_iff, List.map_eq_nil_iff, List.filter_eq_nil_iff, tu]
              constructor
              · rintro h ⟨k0, a0, b0, c0⟩
                exact h k0 ((hes k0).mpr a0) (by simp [b0, c0])
              · intro h k0 hk0 q0
                simp only [Bool.and_eq_true, decide_eq_true_eq] at q0
                exact h ⟨k0, (hes k0).mp hk0, q0.1, q0.2⟩
            walk_at "w"
            cases hE : ((es.filter fun k => decide (lo ≤ rr - k) && decide (rr - k ≤ hi)).map V.int).isEmpty with
            | true =>
              refine way_f ?_
              have no := du.mp hE
              refine ⟨_, _, rfl, sG2.trans t27, t27 _ _ eE2, js, t27 _ _ eJ, fun j => ?_, by omega⟩
              rw [hj]
              constructor
              · rintro ⟨i2, a0, b0, c0⟩
                exact ⟨i2, by omega, b0, c0⟩
              · rintro ⟨i2, a0, b0, c0⟩
                refine ⟨i2, ?_, b0, c0⟩
                rcases Nat.lt_or_ge i2 i with q0 | q0
                · exact q0
                · obtain rfl : i2 = i := by omega
                  exact absurd c0 no
            | false =>
              refine way_t ?_
              have yes : (T.grp rk ps).SW z L F (i : Int) := Classical.byContradiction fun q0 => by rw [du.mpr q0] at hE; cases hE
              walk_at "w"
              refine ⟨Or.inl ⟨rfl, _, SqL.of (t27 _ _ eJ)⟩, ?_⟩
              walk_at "w"
              refine ⟨_, t27 _ _ eJ, by rw [List.length_map]; exact lt1000 (by omega), fun G8 s8 e8 => ?_⟩
              refine ⟨_, _, rfl, SameX.un (sG2.trans t27) fbn s8, s8 _ _ nef (t27 _ _ eE2), js ++ [(i : Int) + 1], ?_, fun j => ?_, by rw [List.length_append]; show _ + 1 ≤ _; omega⟩
              · rw [List.map_append]; exact e8
              · rw [List.mem_append, List.mem_singleton, hj]
                constructor
                · rintro (⟨i2, a0, b0, c0⟩ | q0)
                  · exact ⟨i2, by omega, b0, c0⟩
                  · exact ⟨i, by omega, q0, yes⟩
                · rintro ⟨i2, a0, b0, c0⟩
                  rcases Nat.lt_or_ge i2 i with q0 | q0
                  · exact .inl ⟨i2, q0, b0, c0⟩
                  · obtain rfl : i2 = i := by omega
                    exact .inr b0
          · rintro σ G2 ⟨v9, v10, rfl, sG2, eE2, js, eJ, hj, hjl⟩
            rw [List.length_map] at hj hjl
            walk_at "w"
            refine k js fb G2 fbn sG2 eJ (fun j => ?_) (by omega)
            rw [hj]
            constructor
            · rintro ⟨i2, _, rfl, q⟩
              rw [show (i2 : Int) + 1 - 1 = i2 by omega]; exact q
            · intro q
              obtain ⟨i2, r2, e, h⟩ := turns_at rok.asc q
              exact ⟨i2, (List.getElem?_eq_some_iff.mp h).1, by omega, by rw [← e]; exact q⟩
    next => exact h.elim
theorem nd_len : ∀ {a b : List Int}, a.Nodup → (∀ x ∈ a, x ∈ b) → a.length ≤ b.length
  | [], b, _, _ => Nat.zero_le _
  | x :: a, b, nd, h => by
    rw [List.nodup_cons] at nd
    have m := h x (List.mem_cons_self ..)
    have r := nd_len (b := b.erase x) nd.2 fun y hy => (List.mem_erase_of_ne (by rintro rfl; exact nd.1 hy)).mpr (h y (List.mem_cons_of_mem _ hy))
    rw [List.length_erase_of_mem m] at r
    have : 0 < b.length := List.length_pos_of_mem m
    rw [List.length_cons]; omega
noncomputable def dueB (t : T) (W : Str → Int) (ns lack : List Str) (j : Int) (z : Str) : Bool := isB (Hang t W z ns (but lack z) j.toNat)
/-- row by row, the leaf itself among the free ones -/
theorem hangs_iff {t : T} {W : Str → Int} {z : Str} {ns lack : List Str} {ws : List Int} {j : Int} (g : t.Gd) (hz : z ∈ t.names) (hk : z ∉ ns) (j1 : 1 ≤ j) (hw : ∀ k, k ∈ ws ↔ k ∈ ns.map W) :
    dueB t W ns lack j z = true ↔ ∃ S ∈ [] :: ws.map (rowB W ns), t.SW z S lack (j - 1) := by
  unfold dueB
  have e : (j.toNat : Int) = j := by omega
  have := can_iff (t := t) (W := W) (n := z) (known := ns) (F := but lack z) (j := j.toNat) g.sh g.nd hz hk (fun q => (but_mem.mp q).2 rfl) (by omega)
  rw [e] at this
  have sw : ∀ S k, t.SW z S lack k ↔ t.SW z S (but lack z) k := fun S k => T.SW_F (fun x hx => by rw [but_mem]; exact ⟨fun q => ⟨q, hx⟩, fun q => q.1⟩) t k
  rw [isB_iff, ← this]
  unfold CanSw
  constructor
  · rintro (h | ⟨y, hy, h⟩)
    · exact ⟨[], List.mem_cons_self .., (sw _ _).mpr h⟩
    · exact ⟨rowB W ns (W y), List.mem_cons_of_mem _ (List.mem_map.mpr ⟨W y, (hw _).mpr (List.mem_map.mpr ⟨y, hy, rfl⟩), rfl⟩), (sw _ _).mpr h⟩
  · rintro ⟨S, hS, h⟩
    have h := (sw _ _).mp h
    rcases List.mem_cons.mp hS with q | q
    · subst q; exact .inl h
    · obtain ⟨b, hb, rfl⟩ := List.mem_map.mp q
      obtain ⟨y, hy, rfl⟩ := List.mem_map.mp ((hw _).mp hb)
      exact .inr ⟨y, hy, h⟩
def lackOf (t : T) (ns : List Str) : List Str := t.names.filter fun z => !decide (z ∈ ns)
def sp__law_hangs (K : PySem.W.Frag) : Sp := fun vs H Q _ => match vs with
  | [v, .ref kq, .int j] => ∃ t W ns, LT H t v ∧ t.Gd ∧ H kq = some (.dK (kvI (wps W ns))) ∧ ns.Nodup ∧ ns.length ≤ 60 ∧ t.names.length ≤ 60 ∧ 1 ≤ j ∧
    ∀ r H', H r = none → Same H H' → H' r = some (.lst (((lackOf t ns).filter (dueB t W ns (lackOf t ns) j)).map V.str)) → Q (.ref r) H'
  | _ => False
theorem ok__law_hangs (tp : Top K mg) : FnN P w K mg base 110 "_law_hangs" [] (sp__law_hangs K) := by
  refine fn_by tp.f__law_hangs sc__law_hangs (fun vs H Q E h => by unfold sp__law_hangs at h; split at h <;> first | rfl | exact h.elim) (fun f cdv A outer s H vs Q E hr h => ⟨_, (pss_cons (ps_set (i := 3) sc__law_hangs.nd rfl (by first | exact Or.inl rfl | exact Or.inr rfl) (g_lc rfl sc__law_hangs.nd (kw_list K rfl (g_call (ok__law_names tp 46) hr rfl (by omega) (pa_cons (gv 0) pa_nil))) (blkOk_by (own := [("name", 7)]) (N := (["tree", "known", "j", "free", "rows", "bound", "found", "name", "low"] : List Str)) (sc := defScope s__law_hangs) (by decide +kernel)) (fun _ _ _ _ _ => pg_name (i := 7) sc__law_hangs.nd rfl (by first | exact Or.inl rfl | exact Or.inr rfl)) (fun _ _ _ _ _ => (pts_one (g_cmp (k_ndin (Nat.lt_of_le_of_lt (Nat.add_le_add_left (by decide : 1 ≤ 64) _) hr.units)) (gv 7) (gv 1) (by with_unfolding_all rfl)))) (fun _ _ _ _ _ => (gv 7)))) (pss_cons (ps_set (i := 4) sc__law_hangs.nd rfl (by first | exact Or.inl rfl | exact Or.inr rfl) (g_lst (pa_cons (g_lst pa_nil) pa_nil))) (pss_cons (g_for PassesOwn.never rfl (kw_list K rfl (pe_callB (c_sortSet w rfl rfl) (by rfl) tp.b_sorted (by decide +kernel) (pa_cons (pe_callTy (k_setOf K w rfl rfl rfl) (by rfl) tp.b_set (by decide +kernel) (pa_cons (g_lc rfl sc__law_hangs.nd (kw_list K rfl (pe_callTy (c_listD rfl) (by rfl) tp.b_list (by decide +kernel) (pa_cons (gv 1) pa_nil))) (blkOk_by (own := [("name", 7)]) (N := (["tree", "known", "j", "free", "rows", "bound", "found", "name", "low"] : List Str)) (sc := defScope s__law_hangs) (by decide +kernel)) (fun _ _ _ _ _ => pg_name (i := 7) sc__law_hangs.nd rfl (by first | exact Or.inl rfl | exact Or.inr rfl)) (fun _ _ _ _ _ => pts_nil) (fun _ _ _ _ _ => (g_dget (Nat.lt_of_le_of_lt (Nat.add_le_add_left (by decide : 1 ≤ 64) _) hr.units) (gv 1) (gv 7)))) pa_nil)) pa_nil))) (pg_name (i := 5) sc__law_hangs.nd rfl (by first | exact Or.inl rfl | exact Or.inr rfl)) (pss_one (ps_expr (pe_bm PySem.F.plainAttrs_list PySem.F.slot_list_append PySem.F.type_list_append m_append (gv 4) (pa_cons (g_lc rfl sc__law_hangs.nd (kw_list K rfl (pe_callTy (c_listD rfl) (by rfl) tp.b_list (by decide +kernel) (pa_cons (gv 1) pa_nil))) (blkOk_by (own := [("name", 7)]) (N := (["tree", "known", "j", "free", "rows", "bound", "found", "name", "low"] : List Str)) (sc := defScope s__law_hangs) (by decide +kernel)) (fun _ _ _ _ _ => pg_name (i := 7) sc__law_hangs.nd rfl (by first | exact Or.inl rfl | exact Or.inr rfl)) (fun _ _ _ _ _ => (pts_one (g_cmp op_leG (g_dget (Nat.lt_of_le_of_lt (Nat.add_le_add_left (by decide : 1 ≤ 64) _) hr.units) (gv 1) (gv 7)) (gv 5) (nomark _)))) (fun _ _ _ _ _ => (gv 7))) pa_nil))))) (pss_cons (ps_set (i := 6) sc__law_hangs.nd rfl (by first | exact Or.inl rfl | exact Or.inr rfl) (g_lst pa_nil)) (pss_cons (g_for PassesOwn.never rfl (kw_list K rfl (gv 3)) (pg_name (i := 7) sc__law_hangs.nd rfl (by first | exact Or.inl rfl | exact Or.inr rfl)) (pss_one (g_if (g_cmp (k_neG K rfl hr.units) (g_lc rfl sc__law_hangs.nd (kw_list K rfl (gv 4)) (blkOk_by (own := [("low", 8)]) (N := (["tree", "known", "j", "free", "rows", "bound", "found", "name", "low"] : List Str)) (sc := defScope s__law_hangs) (by decide +kernel)) (fun _ _ _ _ _ => pg_name (i := 8) sc__law_hangs.nd rfl (by first | exact Or.inl rfl | exact Or.inr rfl)) (fun _ _ _ _ _ => (pts_one (g_cmp (k_inG K rfl) (gv 2) (g_call (ok__law_turns tp 46) hr rfl (by omega) (pa_cons (gv 0) (pa_cons (gv 8) (pa_cons (gv 3) (pa_cons (gv 7) pa_nil))))) (by with_unfolding_all rfl)))) (fun _ _ _ _ _ => (gv 8))) (g_lst pa_nil) (nomark _)) (pss_one (ps_expr (pe_bm PySem.F.plainAttrs_list PySem.F.slot_list_append PySem.F.type_list_append m_append (gv 6) (pa_cons (gv 7) pa_nil)))) pss_nil))) (pss_one (ps_ret (gv 6)))))))), ?_⟩)
  unfold sp__law_hangs at h
  split at h
  next v kq j =>
    obtain ⟨t, W, ns, m, g, hk, nd, nl, tl, j1, k⟩ := h
    walk_at "w"
    refine ⟨t, m, Nat.lt_succ_of_le g.dp, g.sz, fun pn Hn fn sn en => ?_⟩
    walk_at "w"
    refine comp_list (xs := t.names.map V.str) (fun i acc G => Same Hn G ∧ acc = ((t.names.take i).filter fun z => !decide (z ∈ ns)).map V.str) (by rw [List.length_map]; exact lt1000 (by omega)) ⟨Same.refl _, rfl⟩ (fun i acc G f => SqL.of (f.1 _ _ en)) (fun D i x acc H' hx hD hDl hq' f => ⟨rfl, ?_⟩) (fun fr Hf acc hfr hfl hq' f => ?_)
    · obtain ⟨s8, rfl⟩ := f
      obtain ⟨z, hz2, rfl⟩ := map_atG hx
      have ez := filt_takeS (p := fun z => !decide (z ∈ ns)) hz2
      walk_at "w"
      refine ⟨kvI (wps W ns), (s8.trans off_same) _ _ (sn _ _ hk), ?_⟩
      rw [valV_kvI, Option.isSome_map, look_isSome, wps_fst]
      refine way_nd (fun c => ?_) fun c => ?_
      · refine ⟨hDl, s8, ?_⟩
        rw [ez, if_pos (by simp [c]), List.map_append]; rfl
      · refine ⟨hDl, s8, ?_⟩
        rw [ez, if_neg (by simp [c]), List.append_nil]
    obtain ⟨s8', rfl⟩ := f
    rw [List.length_map, List.take_length] at hfl
    have sHf : Same H Hf := sn.trans (s8'.trans off_same)
    have hfl : Hf fr = some (.lst ((lackOf t ns).map V.str)) := hfl
    have lkl : (lackOf t ns).length ≤ 60 := Nat.le_trans (List.length_filter_le _ _) tl
    have lkm : ∀ z ∈ lackOf t ns, z ∈ t.names ∧ z ∉ ns := fun z hz => by
      obtain ⟨a, b⟩ := List.mem_filter.mp hz
      exact ⟨a, by simpa using b⟩
    generalize hlack : lackOf t ns = lack at hfl lkl lkm k
    clear hq' s8' en
    walk_at "w"
    refine ⟨(by show 0 ≤ sizeLine; decide), fun p0 H0 f0 s0 e0 => ?_⟩
    refine ⟨(by show 1 ≤ sizeLine; decide), fun p1 H2 f1 s1 e2 => ?_⟩
    have s02 := sHf.trans (s0.trans s1)
    have e3f := (s0.trans s1) _ _ hfl
    walk_at "w"
    refine ⟨_, s02 _ _ hk, fun p3 H3 f3 s3 e3 => ?_⟩
    rw [keys_wps] at e3
    have s03 := s02.trans s3
    refine comp_list (xs := ns.map V.str) (fun i acc G => Same H3 G ∧ acc = ((ns.take i).map W).map V.int) (by rw [List.length_map]; exact lt1000 (by omega)) ⟨Same.refl _, rfl⟩ (fun i acc G f => SqL.of (f.1 _ _ e3)) (fun D i x acc H' hx hD hDl hq' f => ⟨rfl, ?_⟩) (fun D H4 acc hD hDl hq' f => ?_)
    · obtain ⟨s4, rfl⟩ := f
      obtain ⟨y, hy, rfl⟩ := map_atG hx
      refine way_t ?_
      walk_at "w"
      refine ⟨_, .int (W y), off_same _ _ (s4 _ _ (s03 _ _ hk)), by rw [valV_kvI, look_wps nd (List.mem_of_getElem? hy)]; rfl, ?_⟩
      exact ⟨hDl, s4, by rw [List.take_add_one, hy, List.map_append, List.map_append]; rfl⟩
    obtain ⟨s4', rfl⟩ := f
    rw [List.length_map, List.take_length] at hDl
    have s4 : Same H3 H4 := s4'.trans off_same
    refine ⟨_, SqL.of hDl, by rw [List.length_map]; omega, fun ps H5 f5 s5 sl => ?_⟩
    refine ⟨_, sl, by rw [List.length_map]; omega, fun ws pw H6 asc mem f6 s6 e6 => ?_⟩
    have wl : ws.length ≤ 60 := by
      have : ws.length ≤ (ns.map W).length := nd_len (asc.imp fun q => Int.ne_of_lt q) fun k hk => (mem k).mp hk
      rw [List.length_map] at this; omega
    have s26 := s3.trans (s4.trans (s5.trans s6))
    have n01 : p0 ≠ p1 := by rintro rfl; rw [e0] at f1; cases f1
    have h1n : H p1 = none := free_back (sHf.trans s0) f1
    have npw : pw ≠ p1 := by rintro rfl; rw [(s3.trans (s4.trans s5)) _ _ e2] at f6; cases f6
    have nfr : fr ≠ p1 := ne_of_none (s0 _ _ hfl) f1
    refine forw_list (xs := ws.map V.int) (fun i σ G => ∃ v5, σ = [some v, some (.ref kq), some (.int j), some (.ref fr), some (.ref p1), v5, none, none, none] ∧ Same H G ∧ SameX p1 H6 G ∧ ∃ us, G p1 = some (.lst us) ∧ LS (off p1 G) ([] :: (ws.take i).map (rowB W ns)) us)
      ⟨none, rfl, s02.trans s26, SameX.refl, [.ref p0], s26 _ _ e2, LS.one (by rw [off_at n01]; exact s26 _ _ (s1 _ _ e0))⟩ (fun i σ G _ ⟨_, _, _, sX, _⟩ => SqL.of (sX _ _ npw e6)) ?_ ?_
    · rintro i x σ G hx ⟨v6, rfl, sG, sX, us, e1G, ls⟩
      obtain ⟨b, hb, rfl⟩ := map_at hx
      have hi : i < ws.length := (List.getElem?_eq_some_iff.mp hb).1
      have ul : us.length ≤ 61 := by rw [ls.length, List.length_cons, List.length_map, List.length_take]; omega
      walk_at "w"
      refine ⟨Or.inl ⟨rfl, _, SqL.of e1G⟩, ?_⟩
      walk_at "w"
      refine ⟨_, sG _ _ hk, fun q3 G3 g3 t3 u3 => ?_⟩
      rw [keys_wps] at u3
      refine comp_list (xs := ns.map V.str) (fun i acc G => Same G3 G ∧ acc = ((ns.take i).filter fun y => decide (W y ≤ b)).map V.str) (by rw [List.length_map]; exact lt1000 (by omega)) ⟨Same.refl _, rfl⟩ (fun i acc G f => SqL.of (f.1 _ _ u3)) (fun D i x acc H' hx hD hDl hq' f => ⟨rfl, ?_⟩) (fun D G4 acc hD hDl hq' f => ?_)
      · obtain ⟨t4, rfl⟩ := f
        obtain ⟨y, hy, rfl⟩ := map_atG hx
        have ey := filt_takeS (p := fun y => decide (W y ≤ b)) hy
        walk_at "w"
        refine ⟨_, .int (W y), off_same _ _ (t4 _ _ ((sG.trans t3) _ _ hk)), by rw [valV_kvI, look_wps nd (List.mem_of_getElem? hy)]; rfl, ?_⟩
        walk_at "w"
        cases hb2 : decide (W y ≤ b) with
        | true =>
          refine way_t ?_
          refine ⟨hDl, t4, ?_⟩
          rw [ey, hb2]
          rw [if_pos rfl, List.map_append]; rfl
        | false =>
          refine way_f ?_
          refine ⟨hDl, t4, ?_⟩
          rw [ey, hb2]
          rw [if_neg (by simp), List.append_nil]
      obtain ⟨t4', rfl⟩ := f
      rw [List.length_map, List.take_length] at hDl
      have t4 : Same G3 G4 := t4'.trans off_same
      have t34 := t3.trans t4
      have nD1 : D ≠ p1 := by rintro rfl; rw [t3 _ _ e1G] at hD; cases hD
      refine ⟨_, t34 _ _ e1G, lt1000 (by omega), fun G5 t5 u5 => ?_⟩
      refine ⟨_, rfl, SameX.un (sG.trans t34) h1n t5, sX.trans ((SameX.of t34).trans t5), _, u5, ?_⟩
      rw [List.take_add_one, hb, List.map_append, ← List.cons_append]
      refine (ls.mono (off_monoX ((SameX.of t34).trans t5))).app (LS.one ?_)
      rw [off_at nD1, t5 _ _ nD1 hDl]; rfl
    · rintro σ G ⟨v6, rfl, sG, sX, us, e1G, ls⟩
      rw [List.length_map, List.take_length] at ls
      have eFr := sX _ _ nfr (s26 _ _ e3f)
      have ul : us.length ≤ 61 := by rw [ls.length, List.length_cons, List.length_map]; omega
      generalize hrows : [] :: ws.map (rowB W ns) = rows at ls
      have rb : ∀ S ∈ rows, S.length ≤ 60 := fun S hS => by
        rw [← hrows] at hS
        rcases List.mem_cons.mp hS with e | e
        · rw [e]; exact Nat.zero_le _
        · obtain ⟨b, _, rfl⟩ := List.mem_map.mp e
          exact Nat.le_trans (List.length_filter_le _ _) nl
      walk_at "w"
      refine ⟨(by show 0 ≤ sizeLine; decide), fun p2 G2 g2 u2 d2 => ?_⟩
      have n12 : p1 ≠ p2 := ne_of_none e1G g2
      have nf2 : fr ≠ p2 := ne_of_none eFr g2
      have h2n : H p2 = none := free_back sG g2
      have lsG : LS (off p2 G2) rows us := (ls.mono off_same).mono (off_from u2 g2)
      walk_at "w"
      refine forw_list (xs := lack.map V.str) (fun i σ G' => ∃ v7, σ = [some v, some (.ref kq), some (.int j), some (.ref fr), some (.ref p1), v6, some (.ref p2), v7, none] ∧ Same H G' ∧ SameX p2 G2 G' ∧ G' p2 = some (.lst (((lack.take i).filter (dueB t W ns lack j)).map V.str)))
        ⟨none, rfl, sG.trans u2, SameX.refl, d2⟩ (fun i σ G' _ ⟨_, _, _, sX1, _⟩ => SqL.of (sX1 _ _ nf2 (u2 _ _ eFr))) ?_ ?_
      · rintro i x σ G1 hx ⟨v7, rfl, sG1, sX1, dG⟩
        obtain ⟨z, hzz, rfl⟩ := map_atG hx
        have zm := List.mem_of_getElem? hzz
        have zt := lkm z zm
        have e := filt_takeS (p := dueB t W ns lack j) hzz
        have ls1 : LS (off p2 G1) rows us := lsG.mono (off_monoX sX1)
        have e11 := sX1 _ _ n12 (u2 _ _ e1G)
        have eF1 := sX1 _ _ nf2 (u2 _ _ eFr)
        have tu := hangs_iff (t := t) (W := W) (z := z) (ns := ns) (lack := lack) (ws := ws) g zt.1 zt.2 j1 mem
        rw [hrows] at tu
        walk_at "w"
        refine comp_list (xs := us) (fun i acc G => Same G1 G ∧ (acc = [] ↔ ∀ S ∈ rows.take i, ¬ t.SW z S lack (j - 1))) (lt1000 (by omega)) ⟨Same.refl _, by simp⟩ (fun i acc G f => SqL.of (f.1 _ _ e11)) (fun D i x acc H' hx hD hDl hq' f => ⟨rfl, ?_⟩) (fun D G6 acc hD hDl hq' f => ?_)
        · obtain ⟨t6, em⟩ := f
          obtain ⟨S, q, hS, rfl, hq⟩ := ((ls1.mono off_same).mono (t6.trans off_same)).at_ hx
          have t6' : Same G1 H' := t6.trans off_same
          walk_at "w"
          refine ⟨t, S, lack, m.mono (sG1.trans t6'), Nat.lt_succ_of_le g.dp, g, hq, t6' _ _ eF1, Nat.le_trans (rb S (List.mem_of_getElem? hS)) (by omega), by omega, fun js r7 G7 f7 t7 e7 hj hjl => ?_⟩
          refine ⟨_, Or.inl (SqL.of e7), rfl, flat_ints js, ?_⟩
          rw [inV_int]
          have hD7 := t7 _ _ hDl
          have t67 : Same G1 (off D G7) := t6.trans (off_mono t7)
          have tk : rows.take (i + 1) = rows.take i ++ [S] := by rw [List.take_add_one, hS]; rfl
          refine way_d (fun c => ?_) fun c => ?_
          · refine ⟨hD7, t67, ?_⟩
            constructor
            · intro h; simp at h
            · intro h
              exact absurd ((hj j).mp c) (h S (by rw [tk]; exact List.mem_append_right _ (List.mem_singleton.mpr rfl)))
          · refine ⟨hD7, t67, em.trans ?_⟩
            rw [tk]
            constructor
            · intro h S2 hS2
              rcases List.mem_append.mp hS2 with a | a
              · exact h S2 a
              · rw [List.mem_singleton.mp a]
                exact fun q0 => c ((hj j).mpr q0)
            · exact fun h S2 hS2 => h S2 (List.mem_append_left _ hS2)
        obtain ⟨t6, em⟩ := f
        rw [ls.length, List.take_length] at em
        have t6' : Same G1 G6 := t6.trans off_same
        refine ⟨(by show 0 ≤ sizeLine; decide), fun q7 G7 f7 t7 e7 => ?_⟩
        refine Or.inl ⟨acc, SqL.of (t7 _ _ hDl), e7, ?_⟩
        have t47 := t6'.trans t7
        have d7 := t47 _ _ dG
        have du : dueB t W ns lack j z = !acc.isEmpty := by
          rw [Bool.eq_iff_iff, tu]
          cases acc with
          | nil =>
            constructor
            · rintro ⟨S, a, b⟩
              exact absurd b (em.mp rfl S a)
            · intro h; simp at h
          | cons x l =>
            refine ⟨fun _ => rfl, fun _ => Classical.byContradiction fun c => ?_⟩
            have := em.mpr fun S hS hR => c ⟨S, hS, hR⟩
            cases this
        walk_at "w"
        cases hE : acc.isEmpty with
        | true =>
          refine way_f ?_
          refine ⟨_, rfl, sG1.trans t47, sX1.trans (SameX.of t47), ?_⟩
          rw [e, du, hE]
          rw [show (!true) = false from rfl, if_neg (by simp), List.append_nil]
          exact d7
        | false =>
          refine way_t ?_
          walk_at "w"
          refine ⟨Or.inl ⟨rfl, _, SqL.of d7⟩, _, d7, ?_, fun H8 s8 e8 => ⟨_, rfl, SameX.un (sG1.trans t47) h2n s8, sX1.trans ((SameX.of t47).trans s8), ?_⟩⟩
          · rw [List.length_map]; exact lt1000 (Nat.le_trans (List.length_filter_le _ _) (by rw [List.length_take]; omega))
          · rw [e, du, hE]
            rw [show (!false) = true from rfl, if_pos rfl, List.map_append]; exact e8
      · rintro σ G1 ⟨v7, rfl, sG1, sX1, dG⟩
        rw [List.length_map, List.take_length] at dG
        exact k p2 G1 h2n sG1 dG
  next => exact h.elim
def sp__law_shuffled (K : PySem.W.Frag) : Sp := fun vs H Q _ => match vs with
  | [.ref p, .ref q] => ∃ ns : List Str, Pu H p ∧ H q = some (.lst (ns.map V.str)) ∧ ns.length ≤ 100 ∧ ∀ (ms : List Str) r H', ms.Perm ns → H r = none → SameX p H H' → Pu H' p → H' r = some (.lst (ms.map V.str)) → Q (.ref r) H'
  | _ => False
theorem cut_to {xs : List V} {d : Nat} (h : d ≤ xs.length) : cutV xs none (some (d : Int)) = xs.take d := by
  unfold cutV
  rw [HT.sIx_none, HT.sIx_nat, List.drop_zero, Nat.min_eq_left h]; rfl
theorem cut_from {xs : List V} {d : Nat} (h : d ≤ xs.length) : cutV xs (some (d : Int)) none = xs.drop d := by
  unfold cutV
  rw [HT.sIx_none, HT.sIx_nat, Nat.min_eq_left h]
  exact List.take_of_length_le (by rw [List.length_drop]; exact Nat.le_refl _)
theorem ok__law_shuffled (tp : Top K mg) : FnN P w K mg base 2 "_law_shuffled" [] (sp__law_shuffled K) := by
  refine fn_by tp.f__law_shuffled sc__law_shuffled (fun vs H Q E h => by unfold sp__law_shuffled at h; split at h <;> first | rfl | exact h.elim) (fun f cdv A outer s H vs Q E hr h => ⟨_, (pss_cons (ps_set (i := 2) sc__law_shuffled.nd rfl (by first | exact Or.inl rfl | exact Or.inr rfl) (g_lst pa_nil)) (pss_cons (g_for PassesOwn.never rfl (kw_list K rfl (gv 1)) (pg_name (i := 3) sc__law_shuffled.nd rfl (by first | exact Or.inl rfl | exact Or.inr rfl)) (pss_cons (ps_set (i := 4) sc__law_shuffled.nd rfl (by first | exact Or.inl rfl | exact Or.inr rfl) (g_call (ok__law_draw tp) hr rfl (by omega) (pa_cons (gv 0) (pa_cons (pe_op op_addG (pe_callB (k_len K rfl) (by rfl) tp.b_len (by decide +kernel) (pa_cons (gv 2) pa_nil)) pe_int) pa_nil)))) (pss_one (ps_set (i := 2) sc__law_shuffled.nd rfl (by first | exact Or.inl rfl | exact Or.inr rfl) (pe_op op_addG (pe_op op_addG (pe_slice (k_sl K rfl) (gv 2) po_none (po_some (gv 4))) (g_lst (pa_cons (gv 3) pa_nil))) (pe_slice (k_sl K rfl) (gv 2) (po_some (gv 4)) po_none)))))) (pss_one (ps_ret (gv 2))))), ?_⟩)
  unfold sp__law_shuffled at h
  split at h
  next p q =>
    obtain ⟨ns, hp, hq, hl, k⟩ := h
    walk_at "w"
    refine ⟨(by show 0 ≤ sizeLine; decide), fun p1 H1 f1 s1 e1 => ?_⟩
    have qp : q ≠ p := by rintro rfl; obtain ⟨x, y, z, e⟩ := hp; rw [hq] at e; cases ns with
      | nil => simp at e
      | cons a l => simp at e
    refine forw_list (xs := ns.map V.str) (fun i σ G => ∃ r v4 v5 ms, σ = [some (.ref p), some (.ref q), some (.ref r), v4, v5] ∧ H r = none ∧ SameX p H G ∧ Pu G p ∧ G r = some (.lst (ms.map V.str)) ∧ ms.Perm (ns.take i))
      ⟨p1, none, none, [], rfl, f1, SameX.of s1, hp.same s1, e1, List.Perm.refl _⟩ (fun i σ G _ ⟨_, _, _, _, _, _, sG, _⟩ => SqL.of (sG _ _ qp hq)) ?_ ?_
    · rintro i x σ G hx ⟨r, v4, v5, ms, rfl, fr, sG, hpG, eG, pm⟩
      obtain ⟨z, hz, rfl⟩ := map_atG hx
      have hi : i < ns.length := (List.getElem?_eq_some_iff.mp hz).1
      have ml : ms.length = i := by rw [pm.length_eq, List.length_take]; omega
      walk_at "w"
      refine ⟨_, Or.inl (SqL.of eG), ?_⟩
      walk_at "w"
      refine ⟨hpG, by rw [List.length_map]; omega, by rw [List.length_map]; omega, fun d H2 d0 d1 s2 hp2 => ?_⟩
      rw [List.length_map] at d1
      have rp : r ≠ p := by rintro rfl; obtain ⟨x, y, z, e⟩ := hpG; rw [eG] at e; cases ms with
        | nil => simp at e
        | cons a l => simp at e
      have e2 := s2 _ _ rp eG
      obtain ⟨dn, rfl⟩ := Int.eq_ofNat_of_zero_le d0
      have dl : dn ≤ (ms.map V.str).length := by rw [List.length_map]; omega
      walk_at "w"
      refine ⟨_, rfl, ?_⟩
      refine ⟨_, SqL.of e2, fun p3 H3 f3 s3 e3 => ?_⟩
      rw [cut_to dl] at e3
      refine ⟨(by show 1 ≤ sizeLine; decide), fun p4 H4 f4 s4 e4 => ?_⟩
      refine ⟨_, _, s4 _ _ e3, e4, ?_, fun p5 H5 f5 s5 e5 => ?_⟩
      · exact Nat.le_trans (by rw [List.length_take, List.length_map]; show _ + 1 ≤ 101; omega : _ ≤ 101) (by decide)
      have s35 := s3.trans (s4.trans s5)
      refine ⟨_, rfl, ?_⟩
      refine ⟨_, SqL.of (s35 _ _ e2), fun p6 H6 f6 s6 e6 => ?_⟩
      rw [cut_from dl] at e6
      refine ⟨_, _, s6 _ _ e5, e6, ?_, fun p7 H7 f7 s7 e7 => ?_⟩
      · refine Nat.le_trans (?_ : _ ≤ 400) (by decide)
        rw [List.length_append, List.length_take, List.length_drop, List.length_map]
        show _ + 1 + _ ≤ 400
        omega
      have s37 := s35.trans (s6.trans s7)
      have e : (ms.map V.str).take dn ++ [V.str z] ++ (ms.map V.str).drop dn = (ms.take dn ++ z :: ms.drop dn).map V.str := by
        rw [List.map_append, List.map_cons, List.map_take, List.map_drop]; simp
      have e7' : H7 p7 = some (.lst ((ms.take dn ++ z :: ms.drop dn).map V.str)) := by rw [← e]; exact e7
      refine ⟨p7, _, _, _, rfl, ?_, sG.trans (s2.trans (SameX.of s37)), hp2.same s37, e7', ?_⟩
      · exact (sG.trans (s2.trans (SameX.of (s35.trans s6)))).none_ (hp2.same (s35.trans s6)) f7
      · rw [List.take_add_one, hz]
        refine List.Perm.trans ?_ ((pm.append_right [z]))
        have q := List.perm_middle (a := z) (l₁ := ms.take dn) (l₂ := ms.drop dn)
        rw [List.take_append_drop] at q
        exact q.trans (List.perm_append_singleton z ms).symm
    · rintro σ G ⟨r, v4, v5, ms, rfl, fr, sG, hpG, eG, pm⟩
      rw [List.length_map, List.take_length] at pm
      exact k ms r G pm fr sG hpG eG
  next => exact h.elim
end LW
namespace LW
open PySem PySem.Spec L2 GG
variable {P : Program} {w : World} {K : PySem.W.Frag} {mg : Str → Option Value} {base : Heap}
def sp__law_within (K : PySem.W.Frag) : Sp := fun vs H Q _ => match vs with
  | [.ref q, .int e] => ∃ a b, H q = some (.tup [oV a, oV b]) ∧ (∀ x, a = some x → x ≤ e) ∧ (∀ y, b = some y → e ≤ y) ∧ Q (.bl true) H
  | _ => False
theorem ok__law_within (tp : Top K mg) : FnN P w K mg base 1 "_law_within" [] (sp__law_within K) := by
  refine fn_by tp.f__law_within sc__law_within (fun vs H Q E h => by unfold sp__law_within at h; split at h <;> first | rfl | exact h.elim) (fun f cdv A outer s H vs Q E hr h => ⟨_, (pss_one (ps_ret (g_andV (g_orV (g_cmpV op_isG (pe_ix (k_ix K rfl) (gv 0) pe_int (fun _ _ => rfl)) pe_non (nomark _)) (pe_one (g_cmpV op_leG (pe_ix (k_ix K rfl) (gv 0) pe_int (fun _ _ => rfl)) (gv 1) (nomark _)))) (pe_one (g_orV (g_cmpV op_isG (pe_ix (k_ix K rfl) (gv 0) pe_int (fun _ _ => rfl)) pe_non (nomark _)) (pe_one (g_cmpV op_geG (pe_ix (k_ix K rfl) (gv 0) pe_int (fun _ _ => rfl)) (gv 1) (nomark _)))))))), ?_⟩)
  unfold sp__law_within at h
  split at h
  next q e =>
    obtain ⟨a, b, hq, h1, h2, k⟩ := h
    have tq := SqT.of (K := K) hq
    walk_at "w"
    refine ⟨_, _, Or.inr tq, rfl, ?_⟩
    cases a with
    | none =>
      show way true _ _
      refine way_t ?_
      show way true _ _
      refine way_t ?_
      refine ⟨_, _, Or.inr tq, rfl, ?_⟩
      cases b with
      | none =>
        show way true _ _
        exact way_t k
      | some y =>
        show way false _ _
        refine way_f ?_
        refine ⟨_, _, Or.inr tq, rfl, ?_⟩
        show Q (.bl (decide (e ≤ y))) H
        rw [decide_eq_true (h2 y rfl)]
        exact k
    | some x =>
      show way false _ _
      refine way_f ?_
      refine ⟨_, _, Or.inr tq, rfl, ?_⟩
      show way (decide (x ≤ e)) _ _
      rw [decide_eq_true (h1 x rfl)]
      refine way_t ?_
      show gOrV _ _ _ _ _
      refine ⟨_, _, Or.inr tq, rfl, ?_⟩
      cases b with
      | none =>
        show way true _ _
        exact way_t k
      | some y =>
        show way false _ _
        refine way_f ?_
        refine ⟨_, _, Or.inr tq, rfl, ?_⟩
        show Q (.bl (decide (e ≤ y))) H
        rw [decide_eq_true (h2 y rfl)]
        exact k
  next => exact h.elim
def sp__law_nearer (K : PySem.W.Frag) : Sp := fun vs H Q _ => match vs with
  | [.ref q, .ref r] => ∃ a b a2 b2, H q = some (.tup [oV a, oV b]) ∧ H r = some (.tup [oV a2, oV b2]) ∧ (∀ x, a = some x → ∃ y, a2 = some y ∧ x ≤ y) ∧ (∀ x, b = some x → ∃ y, b2 = some y ∧ y ≤ x) ∧ Q (.bl true) H
  | _ => False
theorem ok__law_nearer (tp : Top K mg) : FnN P w K mg base 1 "_law_nearer" [] (sp__law_nearer K) := by
  refine fn_by tp.f__law_nearer sc__law_nearer (fun vs H Q E h => by unfold sp__law_nearer at h; split at h <;> first | rfl | exact h.elim) (fun f cdv A outer s H vs Q E hr h => ⟨_, (pss_cons (g_if (PW.pt (g_and (g_cmp op_isnG (pe_ix (k_ix K rfl) (gv 0) pe_int (fun _ _ => rfl)) pe_non (nomark _)) (pw_and1 (PW.pt (g_or (g_cmp op_isG (pe_ix (k_ix K rfl) (gv 1) pe_int (fun _ _ => rfl)) pe_non (nomark _)) (pw_or1 (g_cmp op_ltG (pe_ix (k_ix K rfl) (gv 1) pe_int (fun _ _ => rfl)) (pe_ix (k_ix K rfl) (gv 0) pe_int (fun _ _ => rfl)) (nomark _)))))))) (pss_one (ps_ret pe_bl)) pss_nil) (pss_one (ps_ret (g_orV (g_cmpV op_isG (pe_ix (k_ix K rfl) (gv 0) pe_int (fun _ _ => rfl)) pe_non (nomark _)) (pe_one (g_andV (g_cmpV op_isnG (pe_ix (k_ix K rfl) (gv 1) pe_int (fun _ _ => rfl)) pe_non (nomark _)) (pe_one (g_cmpV op_leG (pe_ix (k_ix K rfl) (gv 1) pe_int (fun _ _ => rfl)) (pe_ix (k_ix K rfl) (gv 0) pe_int (fun _ _ => rfl)) (nomark _))))))))), ?_⟩)
  unfold sp__law_nearer at h
  split at h
  next q r =>
    obtain ⟨a, b, a2, b2, hq, hr2, h1, h2, k⟩ := h
    have tq := SqT.of (K := K) hq
    have tr := SqT.of (K := K) hr2
    walk_at "w"
    refine ⟨_, _, Or.inr tq, rfl, ?_⟩
    cases a with
    | none =>
      show way false _ _
      refine way_f ?_
      refine way_f ?_
      walk_at "w"
      refine ⟨_, _, Or.inr tq, rfl, ?_⟩
      cases b with
      | none =>
        show way true _ _
        exact way_t k
      | some x2 =>
        obtain ⟨y2, rfl, le2⟩ := h2 x2 rfl
        show way false _ _
        refine way_f ?_
        refine ⟨_, _, Or.inr tr, rfl, ?_⟩
        show way true _ _
        refine way_t ?_
        refine ⟨_, _, Or.inr tr, rfl, ?_⟩
        refine ⟨_, _, Or.inr tq, rfl, ?_⟩
        show Q (.bl (decide (y2 ≤ x2))) H
        rw [decide_eq_true le2]
        exact k
    | some x =>
      obtain ⟨y, rfl, le⟩ := h1 x rfl
      show way true _ _
      refine way_t ?_
      refine ⟨_, _, Or.inr tr, rfl, ?_⟩
      show way false _ _
      refine way_f ?_
      refine ⟨_, _, Or.inr tr, rfl, ?_⟩
      refine ⟨_, _, Or.inr tq, rfl, ?_⟩
      show way (decide (y < x)) _ _
      rw [decide_eq_false (by omega)]
      refine way_f ?_
      walk_at "w"
      refine ⟨_, _, Or.inr tq, rfl, ?_⟩
      cases b with
      | none =>
        show way true _ _
        exact way_t k
      | some x2 =>
        obtain ⟨y2, rfl, le2⟩ := h2 x2 rfl
        show way false _ _
        refine way_f ?_
        refine ⟨_, _, Or.inr tr, rfl, ?_⟩
        show way true _ _
        refine way_t ?_
        refine ⟨_, _, Or.inr tr, rfl, ?_⟩
        refine ⟨_, _, Or.inr tq, rfl, ?_⟩
        show Q (.bl (decide (y2 ≤ x2))) H
        rw [decide_eq_true le2]
        exact k
  next => exact h.elim
end LW
namespace LW
open PySem PySem.Spec L2 GG
variable {P : Program} {w : World} {K : PySem.W.Frag} {mg : Str → Option Value} {base : Heap}
theorem rowB_congr {W W' : Str → Int} {kn : List Str} {b : Int} (h : ∀ y ∈ kn, W y = W' y) : rowB W kn b = rowB W' kn b := by
  unfold rowB
  exact List.filter_congr fun y hy => by rw [h y hy]
theorem isB_congr {p q : Prop} (h : p ↔ q) : isB p = isB q := by rw [Bool.eq_iff_iff, isB_iff, isB_iff, h]
theorem mat_eq2 {t : T} {ps : List (Str × Int)} {W : Str → Int} {c : Str → Bool} {j : Int} (g : t.Gd) (hin : ∀ z ∈ t.names, (z ∈ ps.map (·.1) ↔ z ∈ t.names.filter fun z => !c z)) (hw : ∀ z ∈ t.names.filter fun z => !c z, look ps z = some (W z)) (j1 : 1 ≤ j) :
    mattersOf t ps j = (t.names.filter c).filter (dueB t W (t.names.filter fun z => !c z) (t.names.filter c) j) := by
  have hin' : ∀ z ∈ t.names, decide (z ∈ ps.map (·.1)) = !c z := fun z hz => by
    rw [Bool.eq_iff_iff, decide_eq_true_eq, hin z hz, List.mem_filter]
    exact ⟨fun q => q.2, fun q => ⟨hz, q⟩⟩
  have kn : knownOf t ps = t.names.filter fun z => !c z := List.filter_congr hin'
  have fr : ∀ n, freeOf t n (t.names.filter fun z => !c z) = but (t.names.filter c) n := fun n => by
    unfold freeOf but
    rw [List.filter_filter]
    refine List.filter_congr fun y hy => ?_
    congr 1
    rw [Bool.eq_iff_iff, Bool.not_eq_true', decide_eq_false_iff_not, List.mem_filter]
    cases c y <;> simp [hy]
  have e : (j.toNat : Int) = j := by omega
  unfold mattersOf
  rw [List.filter_filter, kn]
  refine List.filter_congr fun n hn => ?_
  rw [hin' n hn, Bool.not_not, Bool.and_comm]
  cases hc : c n with
  | false => rw [Bool.and_false, Bool.and_false]
  | true =>
    rw [Bool.and_true, Bool.and_true]
    unfold dueB
    refine isB_congr ?_
    have h1 : n ∉ t.names.filter fun z => !c z := fun q => by
      have := (List.mem_filter.mp q).2
      rw [hc] at this; cases this
    have := can_iff (t := t) (W := wOf ps) (n := n) (known := t.names.filter fun z => !c z) (F := but (t.names.filter c) n) (j := j.toNat) g.sh g.nd hn h1 (fun q => (but_mem.mp q).2 rfl) (by omega)
    rw [e] at this
    rw [fr, this]
    unfold Hang
    have hr : ∀ b, rowB (wOf ps) (t.names.filter fun z => !c z) b = rowB W (t.names.filter fun z => !c z) b := fun b => rowB_congr fun y hy => by unfold wOf; rw [hw y hy]; rfl
    simp only [hr]
mutual
theorem T.ends_congr {W W' : Str → Int} : ∀ (t : T), (∀ n ∈ t.names, W n = W' n) → t.ends W = t.ends W'
  | .leaf z, h => by rw [T.ends, T.ends, h z (by rw [T.names]; exact List.mem_cons_self ..)]
  | .grp rk ps, h => by
    rw [T.ends, T.ends, T.endsL_congr ps fun n hn => h n (by rw [T.names]; exact hn)]
theorem T.endsL_congr {W W' : Str → Int} : ∀ (ts : List T), (∀ n ∈ T.namesL ts, W n = W' n) → T.endsL W ts = T.endsL W' ts
  | [], _ => by rw [T.endsL, T.endsL]
  | t :: ts, h => by
    rw [T.endsL, T.endsL, T.ends_congr t fun n hn => h n (by rw [T.namesL]; exact List.mem_append_left _ hn), T.endsL_congr ts fun n hn => h n (by rw [T.namesL]; exact List.mem_append_right _ hn)]
end
def oD : Option Int → PyData
  | none => .none
  | some i => .int i
theorem dp_oV {K : PySem.W.Frag} {H : Hp} : ∀ a : Option Int, Dp K H (oV a) (oD a)
  | none => .non
  | some i => .int i
theorem dp_two {K : PySem.W.Frag} {H : Hp} {p : Addr} {a b : Option Int} (h : H p = some (.tup [oV a, oV b])) : Dp K H (.ref p) (.tuple [oD a, oD b]) := .tup (SqT.of h) (.cons (dp_oV a) (.cons (dp_oV b) .nil))
theorem can_two (a b : Option Int) : PyData.canLay0 (.tuple [oD a, oD b]) = true := by
  cases a <;> cases b <;> simp [oD, PyData.canLay0, PyData.canLayAll0]
theorem shaped_two (a b : Option Int) : SeqAt.shaped (.tuple [oD a, oD b]) = true := by
  refine Bool.and_eq_true_iff.mpr ⟨can_two a b, decide_eq_true ?_⟩
  cases a <;> cases b <;> simp [oD, PyData.depth, PyData.depthAll]
theorem hang_ns {t : T} {W : Str → Int} {z : Str} {ns ns' F : List Str} {j : Nat} (h : ∀ x, x ∈ ns ↔ x ∈ ns') : Hang t W z ns F j ↔ Hang t W z ns' F j := by
  have lo : ∀ (S : List Str) (b : Int), t.low (S ++ rowB W ns b) = t.low (S ++ rowB W ns' b) := fun S b => T.low_congr t fun x _ => by
    rw [List.mem_append, List.mem_append, rowB_mem, rowB_mem, h x]
  unfold Hang
  refine exists_congr fun b => exists_congr fun S => and_congr Iff.rfl ?_
  have e2 : t.low (z :: (S ++ rowB W ns b)) = t.low (z :: (S ++ rowB W ns' b)) := lo (z :: S) b
  rw [lo S b, e2]
/-- the lot behind so many worths -/
def rws (W : Str → Int) (qs : List (Str × Int)) (kn : List Str) : List (Str × Int) := qs ++ wps W kn
/-- the leaves that matter then -/
noncomputable def matK (t : T) (W : Str → Int) (kn : List Str) (j : Int) : List Str := (lck t kn).filter (dueB t W kn (lck t kn) j)
structure Ls (t : T) (W : Str → Int) (qs : List (Str × Int)) (m : Nat) : Prop where
  g : t.Gd
  lw : ∀ z ∈ t.names, LwNm z
  hp : qs.map (·.1) = strng.take m
  qb : ∀ x ∈ qs, -10 ≤ x.2 ∧ x.2 ≤ 10
  wb : ∀ z ∈ t.names, -500000 ≤ W z ∧ W z ≤ 500000
section
variable {t : T} {W : Str → Int} {qs : List (Str × Int)} {m : Nat} {kn : List Str}
theorem Ls.st (h : Ls t W qs m) : ∀ z ∈ t.names, z ∉ qs.map (·.1) := fun z hz q => by
  rw [h.hp] at q
  exact strng_not (h.lw z hz) (List.mem_of_mem_take q)
theorem Ls.ql (h : Ls t W qs m) : qs.length ≤ 14 := by
  have := congrArg List.length h.hp
  rw [List.length_map, List.length_take] at this
  have : strng.length = 14 := rfl
  omega
theorem Ls.ok (h : Ls t W qs m) : PsOk qs := by
  refine ⟨by rw [h.hp]; exact strng_nd.sublist (List.take_sublist _ _), fun p hp => ?_, by have := h.ql; omega⟩
  have : p.1 ∈ strng.take m := by rw [← h.hp]; exact List.mem_map.mpr ⟨p, hp, rfl⟩
  exact (strng_ok _ (List.mem_of_mem_take this)).1
theorem rws_mem (h : Ls t W qs m) {z : Str} (hz : z ∈ t.names) : z ∈ (rws W qs kn).map (·.1) ↔ z ∈ kn := by
  unfold rws
  rw [List.map_append, List.mem_append, wps_fst]
  exact ⟨fun q => q.resolve_left (h.st z hz), .inr⟩
theorem rws_look (h : Ls t W qs m) (ok : PsOk (rws W qs kn)) {z : Str} (hz : z ∈ kn) : look (rws W qs kn) z = some (W z) :=
  look_of ok.nd (List.mem_append_right _ (List.mem_map.mpr ⟨z, hz, rfl⟩))
theorem rws_far (h : Ls t W qs m) (ok : PsOk (rws W qs kn)) {far : Int} {z : Str} (hz : z ∈ t.names) : farW (rws W qs kn) far z = kW W kn far z := by
  unfold farW kW
  by_cases c : z ∈ kn
  · rw [rws_look h ok c, if_pos c]; rfl
  · rw [if_neg c]
    cases q : look (rws W qs kn) z with
    | none => rfl
    | some v => exact absurd ((rws_mem h hz).mp (look_some.mpr ⟨v, q⟩)) c
theorem rws_bd (h : Ls t W qs m) (hk : ∀ z ∈ kn, z ∈ t.names) : BdOk (rws W qs kn) 1000000 := by
  refine ⟨by decide, fun p hp => ?_⟩
  rcases List.mem_append.mp hp with q | q
  · have := h.qb p q; omega
  · obtain ⟨z, hz, rfl⟩ := List.mem_map.mp q
    have := h.wb z (hk z hz)
    show -1000000 < W z ∧ W z < 1000000
    omega
theorem Ls.ins (h : Ls t W qs m) (hk : ∀ z ∈ kn, z ∈ t.names) {j : Nat} (j1 : 1 ≤ j) (j2 : j ≤ t.width) : Ins t W 1000000 kn j :=
  ⟨h.g.sh, h.g.nd, by decide, fun z hz => by have := h.wb z hz; omega, hk, j1, j2⟩
theorem rws_ends (h : Ls t W qs m) (ok : PsOk (rws W qs kn)) {far : Int} : t.ends (farW (rws W qs kn) far) = t.ends (kW W kn far) := T.ends_congr t fun z hz => rws_far h ok hz
theorem mat75 (h : Ls t W qs m) (ok : PsOk (rws W qs kn)) (hk : ∀ z ∈ kn, z ∈ t.names) {j : Int} (j1 : 1 ≤ j) : mattersOf t (rws W qs kn) j = matK t W kn j := by
  have mem : ∀ z, z ∈ t.names.filter (fun z => !(!decide (z ∈ kn))) ↔ z ∈ kn := fun z => by
    rw [List.mem_filter]; simp; exact hk z
  rw [mat_eq2 (c := fun z => !decide (z ∈ kn)) (W := W) h.g (fun z hz => by rw [rws_mem h hz, mem]) (fun z hz => rws_look h ok ((mem z).mp hz)) j1]
  unfold matK
  show (lck t kn).filter _ = _
  refine List.filter_congr fun z _ => ?_
  unfold dueB
  exact isB_congr (hang_ns mem)
theorem matK_iff {z : Str} {j : Int} : z ∈ matK t W kn j ↔ z ∈ lck t kn ∧ Hang t W z kn (but (lck t kn) z) j.toNat := by
  unfold matK dueB
  rw [List.mem_filter, isB_iff]
theorem matK_nil (h : Ls t W qs m) (hk : ∀ z ∈ kn, z ∈ t.names) {j : Int} (j1 : 1 ≤ j) (j2 : j ≤ t.width) : matK t W kn j = [] ↔ sideV 1000000 (eLo t W 1000000 kn j.toNat) = sideV 1000000 (eHi t W 1000000 kn j.toNat) ∧ sideV 1000000 (eLo t W 1000000 kn j.toNat) ≠ none := by
  have i := h.ins hk (j := j.toNat) (by omega) (by omega)
  unfold eLo eHi
  rw [← i.sides.same i.j1 i.j2, List.eq_nil_iff_forall_not_mem]
  refine forall_congr' fun z => ?_
  rw [matK_iff]
  exact not_and
end
end LW
namespace LW
open PySem PySem.Spec L2 GG
variable {P : Program} {w : World} {K : PySem.W.Frag} {mg : Str → Option Value} {base : Heap}
def sp_law (K : PySem.W.Frag) : Sp := fun vs H Q _ => match vs with
  | [.ref q] => ∃ xs : List Int, SqL K H q (xs.map V.int) ∧ ∀ H', Q (.bl true) H'
  | _ => False
theorem SqL_un {K : PySem.W.Frag} {H H' : Hp} {p a : Addr} {xs : List V} (h : SqL K H a xs) (n : H p = none) (s : SameX p H H') : SqL K H' a xs :=
  h.elim (fun h => .inl (h.elim (fun h => .inl (s _ _ (ne_of_none h n) h)) fun ⟨o, h⟩ => .inr ⟨o, s _ _ (ne_of_none h n) h⟩)) fun h => .inr h
def InvL (K : PySem.W.Frag) (q : Addr) (xs : List Int) (σ : L2.St) (G : Hp) : Prop := ∃ v1 v2 v3 v4 v5 v6 v7 v8 v9 v10 v11 v12 v13 v14 v15 v16, σ = [some (.ref q), v1, v2, v3, v4, v5, v6, v7, v8, v9, v10, v11, v12, v13, v14, v15, v16] ∧ SqL K G q (xs.map V.int)
theorem ok_law (tp : Top K mg) {lf : Addr} {lfd : FuncData} (LF : FunD K "law" "law" (defArgs s_law) (defBody s_law) (defScope s_law) [] [] lf lfd) : FnOk P w K mg base CX0 160 lf lfd ["script"] (sp_law K) := by
  refine fo_by LF sc_law (fun vs H Q E h => by unfold sp_law at h; split at h <;> first | rfl | exact h.elim) (fun f cdv A outer s H vs Q E hr h => ⟨_, (pss_cons (g_for PassesOwn.never rfl (w_range1 rfl tp.b_range (pa_cons pe_int pa_nil)) (pg_name (i := 1) sc_law.nd rfl (by first | exact Or.inl rfl | exact Or.inr rfl)) (pss_cons (ps_set (i := 2) sc_law.nd rfl (by first | exact Or.inl rfl | exact Or.inr rfl) (g_call (ok__law_purse tp) hr rfl (by omega) (pa_cons (gv 0) (pa_cons (gv 1) pa_nil)))) (pss_cons (ps_set (i := 3) sc_law.nd rfl (by first | exact Or.inl rfl | exact Or.inr rfl) (g_call (ok__law_tree tp) hr rfl (by omega) (pa_cons (gv 2) (pa_cons pe_int (pa_cons pe_int pa_nil))))) (pss_cons (ps_set (i := 4) sc_law.nd rfl (by first | exact Or.inl rfl | exact Or.inr rfl) (g_call (ok__law_names tp 46) hr rfl (by omega) (pa_cons (gv 3) pa_nil))) (pss_cons (ps_par3 rfl sc_law.nd (i := 5) (j := 6) (l := 7) rfl rfl rfl (by decide) (by decide) (by decide) rfl rfl rfl (pa_cons (g_call (ok__law_worths tp) hr rfl (by omega) (pa_cons (gv 2) (pa_cons (gv 4) pa_nil))) (pa_cons (g_call (ok__law_made tp 46) hr rfl (by omega) (pa_cons (gv 3) pa_nil)) (pa_cons g_dnew pa_nil))) (by first | rfl | with_unfolding_all rfl)) (pss_cons (ps_set (i := 8) sc_law.nd rfl (by first | exact Or.inl rfl | exact Or.inr rfl) (g_make ((mk_Lot tp).1) hr rfl (by omega) (pa_cons (g_call (ok__law_strangers tp) hr rfl (by omega) (pa_cons (gv 2) (pa_cons (g_call (ok__law_draw tp) hr rfl (by omega) (pa_cons (gv 2) (pa_cons pe_int pa_nil))) pa_nil))) pa_nil))) (pss_cons (ps_set (i := 9) sc_law.nd rfl (by first | exact Or.inl rfl | exact Or.inr rfl) (pe_op op_addG pe_int (g_call (ok__law_draw tp) hr rfl (by omega) (pa_cons (gv 2) (pa_cons (g_call (ok__law_width tp) hr rfl (by omega) (pa_cons (gv 3) pa_nil)) pa_nil))))) (pss_cons (ps_set (i := 10) sc_law.nd rfl (by first | exact Or.inl rfl | exact Or.inr rfl) (g_call ((ok_end_of tp).1) hr rfl (by omega) (pa_cons (gv 6) (pa_cons (g_make ((mk_Lot tp).1) hr rfl (by omega) (pa_cons (g_call (ok__law_pairs tp) hr rfl (by omega) (pa_cons (gv 5) pa_nil)) pa_nil)) (pa_cons (gv 9) pa_nil))))) (pss_cons (ps_asg (g_tup (pa_cons (g_call ((ok_between tp).1) hr rfl (by omega) (pa_cons (gv 6) (pa_cons (gv 8) (pa_cons (gv 9) pa_nil)))) (pa_cons (g_call ((ok_matters tp).1) hr rfl (by omega) (pa_cons (gv 6) (pa_cons (gv 8) (pa_cons (gv 9) pa_nil)))) pa_nil))) (pg_tup rfl (pgs_cons (pg_name (i := 11) sc_law.nd rfl (by first | exact Or.inl rfl | exact Or.inr rfl)) (pgs_cons (pg_name (i := 12) sc_law.nd rfl (by first | exact Or.inl rfl | exact Or.inr rfl)) pgs_nil)))) (pss_cons (g_if (PW.pt (g_or (g_cmp (k_neG K rfl hr.units) (gv 11) (g_tup (pa_cons pe_non (pa_cons pe_non pa_nil))) (nomark _)) (pw_or1 (g_cmp (k_neG K rfl hr.units) (g_lc rfl sc_law.nd (kw_list K rfl (gv 12)) (blkOk_by (own := [("name", 13)]) (N := (["script", "at", "purse", "tree", "names", "worths", "made", "known", "lot", "j", "end", "before", "still", "name", "after", "left", "one"] : List Str)) (sc := defScope s_law) (by decide +kernel)) (fun _ _ _ _ _ => pg_name (i := 13) sc_law.nd rfl (by first | exact Or.inl rfl | exact Or.inr rfl)) (fun _ _ _ _ _ => (pts_one (g_cmp (k_ninG K rfl) (gv 13) (gv 4) (by with_unfolding_all rfl)))) (fun _ _ _ _ _ => (gv 13))) (g_lst pa_nil) (nomark _))))) (pss_one (ps_ret pe_bl)) pss_nil) (pss_cons (g_for PassesOwn.never rfl (kw_list K rfl (g_call (ok__law_shuffled tp) hr rfl (by omega) (pa_cons (gv 2) (pa_cons (gv 4) pa_nil)))) (pg_name (i := 13) sc_law.nd rfl (by first | exact Or.inl rfl | exact Or.inr rfl)) (pss_cons (ps_asg (g_tup (pa_cons (g_dget (Nat.lt_of_le_of_lt (Nat.add_le_add_left (by decide : 1 ≤ 64) _) hr.units) (gv 5) (gv 13)) (pa_cons (g_dget (Nat.lt_of_le_of_lt (Nat.add_le_add_left (by decide : 1 ≤ 64) _) hr.units) (gv 5) (gv 13)) pa_nil))) (pg_tup rfl (pgs_cons (pg_sub (gv 8) (gv 13) (s_putO ((ok_Lot___setitem__ tp).sp') tp.q_Lot (hr.mono (by omega)))) (pgs_cons (pg_sub (gv 7) (gv 13) (s_dict (Nat.lt_of_le_of_lt (Nat.add_le_add_left (by decide : 1 ≤ 64) _) hr.units))) pgs_nil)))) (pss_cons (ps_par rfl sc_law.nd (i := 14) (j := 15) rfl rfl (by decide) rfl rfl (pa_cons (g_call ((ok_between tp).1) hr rfl (by omega) (pa_cons (gv 6) (pa_cons (gv 8) (pa_cons (gv 9) pa_nil)))) (pa_cons (g_call ((ok_matters tp).1) hr rfl (by omega) (pa_cons (gv 6) (pa_cons (gv 8) (pa_cons (gv 9) pa_nil)))) pa_nil)) rfl) (pss_cons (g_if (PW.pt (g_or (pt_not (g_val (g_call (ok__law_within tp) hr rfl (by omega) (pa_cons (gv 14) (pa_cons (gv 10) pa_nil))))) (g_or (pt_not (g_val (g_call (ok__law_nearer tp) hr rfl (by omega) (pa_cons (gv 11) (pa_cons (gv 14) pa_nil))))) (pw_or1 (PW.pt (g_and (g_cmp (k_ninG K rfl) (gv 13) (gv 12) (by with_unfolding_all rfl)) (pw_and1 (g_cmp (k_neG K rfl hr.units) (gv 14) (gv 11) (nomark _))))))))) (pss_one (ps_ret pe_bl)) pss_nil) (pss_cons (g_if (g_cmp (k_neG K rfl hr.units) (g_lc rfl sc_law.nd (kw_list K rfl (gv 15)) (blkOk_by (own := [("one", 16)]) (N := (["script", "at", "purse", "tree", "names", "worths", "made", "known", "lot", "j", "end", "before", "still", "name", "after", "left", "one"] : List Str)) (sc := defScope s_law) (by decide +kernel)) (fun _ _ _ _ _ => pg_name (i := 16) sc_law.nd rfl (by first | exact Or.inl rfl | exact Or.inr rfl)) (fun _ _ _ _ _ => (pts_one (PW.pt (g_or (g_cmp (k_ninG K rfl) (gv 16) (gv 12) (by with_unfolding_all rfl)) (pw_or1 (g_cmp (k_eqG K rfl hr.units) (gv 16) (gv 13) (nomark _))))))) (fun _ _ _ _ _ => (gv 16))) (g_lst pa_nil) (nomark _)) (pss_one (ps_ret pe_bl)) pss_nil) (pss_cons (g_if (PW.pt (g_or (g_cmp (k_neG K rfl hr.units) (g_cmpV (k_eqG K rfl hr.units) (gv 15) (g_lst pa_nil) (nomark _)) (g_andV (g_cmpV op_isnG (pe_ix (k_ix K rfl) (gv 14) pe_int (fun _ _ => rfl)) pe_non (nomark _)) (pe_one (g_cmpV (k_eqG K rfl hr.units) (pe_ix (k_ix K rfl) (gv 14) pe_int (fun _ _ => rfl)) (pe_ix (k_ix K rfl) (gv 14) pe_int (fun _ _ => rfl)) (nomark _)))) (nomark _)) (pw_or1 (g_cmp (k_neG K rfl hr.units) (gv 15) (g_call (ok__law_hangs tp) hr rfl (by omega) (pa_cons (gv 3) (pa_cons (gv 7) (pa_cons (gv 9) pa_nil)))) (nomark _))))) (pss_one (ps_ret pe_bl)) pss_nil) (pss_one (ps_asg (g_tup (pa_cons (gv 14) (pa_cons (gv 15) pa_nil))) (pg_tup rfl (pgs_cons (pg_name (i := 11) sc_law.nd rfl (by first | exact Or.inl rfl | exact Or.inr rfl)) (pgs_cons (pg_name (i := 12) sc_law.nd rfl (by first | exact Or.inl rfl | exact Or.inr rfl)) pgs_nil))))))))))) (pss_one (g_if (g_cmp (k_neG K rfl hr.units) (gv 11) (g_tup (pa_cons (gv 10) (pa_cons (gv 10) pa_nil))) (nomark _)) (pss_one (ps_ret pe_bl)) pss_nil))))))))))))) (pss_one (ps_ret pe_bl))), ?_⟩)
  unfold sp_law at h
  split at h
  next q =>
    obtain ⟨xs, hq, k⟩ := h
    walk_at "w"
    refine ⟨by decide, ?_⟩
    refine forw_range (fun i σ G => InvL K q xs σ G) ⟨_, _, _, _, _, _, _, _, _, _, _, _, _, _, _, _, rfl, hq⟩ ?_ ?_
    · rintro i0 σ G hi ⟨v1, v2, v3, v4, v5, v6, v7, v8, v9, v10, v11, v12, v13, v14, v15, v16, rfl, gq⟩
      walk_at "w"
      refine ⟨xs, gq, fun p H1 fp s1 hp1 => ?_⟩
      walk_at "w"
      refine ⟨hp1, by decide, by decide, fun t tv H2 s2 hp2 lt g hz lw => ?_⟩
      have hz : t.names.length ≤ 10 := hz
      walk_at "w"
      refine ⟨t, lt.mono fresh_same, Nat.lt_succ_of_le g.dp, g.sz, fun pn H3 f3 s3 e3 => ?_⟩
      have hp3 := hp2.same s3
      walk_at "w"
      refine ⟨t.names, hp3, e3, by omega, g.nd, fun W r H4 f4 s4 hp4 e4 wb => ?_⟩
      have lt4 : LT H4 t tv := (lt.mono (fresh_later hp1 ((SameX.of s3).trans s4))).mono fresh_same
      refine ⟨t, lt4, g, Nat.lt_succ_of_le g.dp, fun mv H5 s5 mt => ?_⟩
      refine fun pk H6 f6 s6 e6 => ?_
      refine ⟨.ref r, mv, .ref pk, rfl, ?_⟩
      have s46 := s5.trans s6
      have hp6 := hp4.same s46
      have pkp : pk ≠ p := (hp4.same s5).ne f6
      have pnp : pn ≠ p := hp2.ne f3
      have rp : r ≠ p := hp3.ne f4
      have rpk : r ≠ pk := ne_of_none (s5 _ _ e4) f6
      walk_at "w"
      refine ⟨hp6, by decide, by decide, fun d H7 d0 d1 s7 hp7 => ?_⟩
      refine ⟨hp7, d0, by omega, fun qs zs pz H8 hqs qb f8 s8 hp8 e8 pl8 => ?_⟩
      have ls : Ls t W qs d.toNat := ⟨g, lw, hqs, qb, wb⟩
      refine ⟨qs, zs, e8, pl8, ls.ok, fun lo ld H9 fl fd s9 l9 => ?_⟩
      have s69 : SameX p H6 H9 := s7.trans (s8.trans (SameX.of s9))
      have hp9 := hp8.same s9
      have s49 : SameX p H4 H9 := (SameX.of s46).trans s69
      have lt9 : LT H9 t tv := (lt.mono (fresh_later hp1 ((SameX.of s3).trans (s4.trans s49)))).mono fresh_same
      walk_at "w"
      refine ⟨t, lt9, ?_⟩
      have wle := T.width_le g.sh
      have wpos : 1 ≤ t.width := by
        cases t with
        | leaf z => exact Nat.le_refl _
        | grp rk ps => exact pos_len g.pts.2.1.ne
      refine ⟨hp9, by omega, by omega, fun dj Ha dj0 dj1 sa hpa => ?_⟩
      have s4a := s49.trans sa
      have s6a := s69.trans sa
      have j1 : (1 : Int) ≤ 1 + dj := by omega
      have j2 : 1 + dj ≤ (t.width : Int) := by omega
      have nP : ∀ {G : Hp} b o, Pu G p → G b = some o → (∀ xs, o ≠ .lst xs) → b ≠ p := fun b o hp e n => by
        rintro rfl
        obtain ⟨x, y, z, e2⟩ := hp
        rw [e2] at e; cases e; exact n _ rfl
      have la : LotAt K Ha lo ld qs := ⟨l9.o.imp fun _ e => sa _ _ (nP _ _ hp9 e (fun xs h => by cases h)) e, sa _ _ (nP _ _ hp9 l9.k (fun xs h => by cases h)) l9.k, l9.ok⟩
      have lta : LT Ha t tv := (lt.mono (fresh_later hp1 ((SameX.of s3).trans (s4.trans s4a)))).mono fresh_same
      have mta : MTk K Ha t mv := (mt.mono s6).monoT (fun b o n e => s6a b o (by rintro rfl; obtain ⟨x, y, z, e2⟩ := hp6; rw [e2] at e; cases e; exact n) e)
      have wda := s4a _ _ rp e4
      have pka := s6a _ _ pkp e6
      have pna := s4a _ _ pnp (s4 _ _ pnp e3)
      have ldk : ld ≠ pk := (ne_of_none ((s7.trans s8) _ _ pkp e6) fd).symm
      have lok : lo ≠ pk := (ne_of_none ((s7.trans s8) _ _ pkp e6) fl).symm
      have gqa := SqL_un gq fp ((SameX.of s1).trans (s2.trans ((SameX.of s3).trans (s4.trans s4a))))
      walk_at "w"
      refine ⟨W, t.names, wda, g.nd, by omega, fun ys py Hb fb sb eb plb => ?_⟩
      have okW : PsOk ((wps W t.names).mergeSort pLe) := by
        have pm : ((wps W t.names).mergeSort pLe).Perm (wps W t.names) := List.mergeSort_perm _ _
        have w0 : PsOk (wps W t.names) := ⟨by rw [wps_fst]; exact g.nd, fun x hx => sh_nm g.sh _ (by rw [← wps_fst W t.names]; exact List.mem_map.mpr ⟨x, hx, rfl⟩), by unfold wps; rw [List.length_map]; omega⟩
        exact w0.perm pm.symm
      refine ⟨_, _, eb, plb, okW, fun l2 d2 Hc f2' g2' sc lc => ?_⟩
      have sac := sb.trans sc
      refine ⟨t, d2, _, W, mta.mono sac, g, lc, fun z hz => by
        rw [look_perm (List.mergeSort_perm _ _) okW.nd z, look_wps g.nd hz], j1, j2, fun Hd sd => ?_⟩
      have sad := sac.trans sd
      have s5d : SameX p H5 Hd := (SameX.of s6).trans (s6a.trans (SameX.of sad))
      have H5pk : H5 pk = none := f6
      have H5ld : H5 ld = none := ((SameX.of s6).trans (s7.trans s8)).none_ hp8 fd
      have rw0 : rws W qs [] = qs := by unfold rws wps; simp
      have ld0 : LotAt K Hd lo ld (rws W qs []) := by rw [rw0]; exact la.mono sad
      have mtH : ∀ G, SameX p H5 G → MTk K G t mv := fun G s => mt.monoT (fun b o n e => s b o (by rintro rfl; obtain ⟨x, y, z, e2⟩ := hp4.same s5; rw [e2] at e; cases e; exact n) e)
      have ltH : ∀ G, SameX p H5 G → LT G t tv := fun G s => (lt.mono (fresh_later hp1 ((SameX.of s3).trans (s4.trans ((SameX.of s5).trans s))))).mono fresh_same
      have wdH : ∀ G, SameX p H5 G → G r = some (.dK (kvI (wps W t.names))) := fun G s => s _ _ rp (s5 _ _ e4)
      have nmH : ∀ G, SameX p H5 G → G pn = some (.lst (t.names.map V.str)) := fun G s => s _ _ pnp (s5 _ _ (s4 _ _ pnp e3))
      have pkd := sad _ _ pka
      have hpd := hpa.same sad
      have jn : (1 + dj).toNat ≤ t.width := by omega
      have jn1 : 1 ≤ (1 + dj).toNat := by omega
      have s6x : SameX p H6 Hd := s6a.trans (SameX.of sad)
      have ldp : ld ≠ p := nP _ _ hpd ld0.k (fun xs h => by cases h)
      walk_at "w"
      refine ⟨t, ld, rws W qs [], 1000000, mtH Hd s5d, g, ld0, rws_bd ls (fun z hz => by simp at hz), j1, j2, fun qb0 He fe se ee => ?_⟩
      rw [rws_ends ls ld0.ok, rws_ends ls ld0.ok] at ee
      have ee : He qb0 = some (.tup [oV (sideV 1000000 (eLo t W 1000000 [] (1 + dj).toNat)), oV (sideV 1000000 (eHi t W 1000000 [] (1 + dj).toNat))]) := ee
      refine ⟨t, ld, rws W qs [], mtH He (s5d.trans (SameX.of se)), g, ld0.mono se, by omega, j1, j2, fun qt0 Hf ff sf ef => ?_⟩
      rw [mat75 ls ld0.ok (fun z hz => by simp at hz) j1] at ef
      refine ⟨(by show 2 ≤ sizeLine; decide), fun pt Hg fg sg eg => ?_⟩
      refine ⟨pt, _, rfl, SqT.of eg, rfl, .ref qb0, _, rfl, .ref qt0, [], rfl, rfl, ?_⟩
      have ee2 := (sf.trans sg) _ _ ee
      have ef2 := sg _ _ ef
      walk_at "w"
      refine ⟨(by show 2 ≤ sizeLine; decide), fun pu Hh fh sh eh => ?_⟩
      have eh : Hh pu = some (.tup [oV none, oV none]) := eh
      have ee3 := sh _ _ ee2
      have ef3 := sh _ _ ef2
      obtain ⟨n1, n2⟩ := (ls.ins (kn := []) (fun z hz => by simp at hz) jn1 jn).none_
      have ee4 := ee3
      rw [n1, n2] at ee4
      refine Or.inr ⟨_, _, dp_two ee4, dp_two eh, shaped_two _ _, shaped_two _ _, ?_⟩
      rw [SeqAt.eqv_refl _ (can_two none none)]
      refine way_f ?_
      have s5h : SameX p H5 Hh := s5d.trans (SameX.of (se.trans (sf.trans (sg.trans sh))))
      walk_at "w"
      refine comp_list (xs := (matK t W [] (1 + dj)).map V.str) (fun i acc G => Same Hh G ∧ acc = []) (by rw [List.length_map]; exact lt1000 (Nat.le_trans (List.length_filter_le _ _) (Nat.le_trans (List.length_filter_le _ _) (by omega)))) ⟨Same.refl _, rfl⟩ (fun i acc G f => SqL.of (f.1 _ _ ef3)) (fun D i x acc H' hx hD hDl hq' f => ⟨rfl, ?_⟩) (fun D Hi acc hD hDl hq' f => ?_)
      · obtain ⟨s5', rfl⟩ := f
        obtain ⟨z, hz2, rfl⟩ := map_atG hx
        have zt : z ∈ t.names := (lck_mem.mp (matK_iff.mp (List.mem_of_getElem? hz2)).1).1
        walk_at "w"
        refine ⟨_, Or.inl (SqL.of (nmH H' (s5h.trans (SameX.of (s5'.trans off_same))))), rfl, flat_strsS _, ?_⟩
        rw [inV_strS, decide_eq_true zt]
        refine way_f ⟨hDl, s5', rfl⟩
      obtain ⟨s5', rfl⟩ := f
      refine ⟨(by show 0 ≤ sizeLine; decide), fun pv Hj fj sj ej => Or.inl ⟨_, SqL.of (sj _ _ hDl), ej, ?_⟩⟩
      refine way_f ?_
      have shj : Same Hh Hj := (s5'.trans off_same).trans sj
      have s5j : SameX p H5 Hj := s5h.trans (SameX.of shj)
      have sdj : Same Hd Hj := se.trans (sf.trans (sg.trans (sh.trans shj)))
      have ee5 := shj _ _ ee3
      have ef5 := shj _ _ ef3
      have ldj := ld0.mono sdj
      have pkj := sdj _ _ pkd
      have hpj := hpd.same sdj
      generalize hB : (1 + dj).toNat = jj at ee5 jn jn1
      clear ee ee2 ee3 ee4 ef ef2 ef3 eg eh ej hDl hD s5' shj sh sg sf se fe ff fg fh fj sdj n1 n2 ld0 pkd hpd
      walk_at "w"
      refine ⟨t.names, hpj, nmH Hj s5j, by omega, fun ms pm Hk pmm fm sm hpm em => ?_⟩
      have pmp : pm ≠ p := hpj.ne fm
      have pml : pm ≠ ld := (ne_of_none ldj.k fm).symm
      have pmk : pm ≠ pk := (ne_of_none pkj fm).symm
      have msm : ∀ z ∈ ms, z ∈ t.names := fun z hz => pmm.mem_iff.mp hz
      have msn : ms.Nodup := pmm.nodup_iff.mpr g.nd
      have msl : ms.length ≤ 10 := by rw [pmm.length_eq]; exact hz
      generalize hev : (t.ends W).getD (jj - 1) 0 = ev
      refine forw_list (xs := ms.map V.str) (fun i σ G => ∃ qb qt v13 v14 v15 v16, σ = [some (.ref q), some (.int (0 + (i0 : Int))), some (.ref p), some tv, some (.ref pn), some (.ref r), some mv, some (.ref pk), some (.ref lo), some (.int (1 + dj)), some (.int ev), some (.ref qb), some (.ref qt), v13, v14, v15, v16] ∧
          SameX p H5 G ∧ G pm = some (.lst (ms.map V.str)) ∧ SqL K G q (xs.map V.int) ∧ LotAt K G lo ld (rws W qs (ms.take i)) ∧ G pk = some (.dK (kvI (wps W (ms.take i)))) ∧
          G qb = some (.tup [oV (sideV 1000000 (eLo t W 1000000 (ms.take i) jj)), oV (sideV 1000000 (eHi t W 1000000 (ms.take i) jj))]) ∧ G qt = some (.lst ((matK t W (ms.take i) (1 + dj)).map V.str)))
        ⟨qb0, qt0, _, _, _, _, by rw [← hev, ← hB]; rfl, s5j.trans sm, em, ?_, ?_, ?_, ?_, ?_⟩ (fun i σ G _ ⟨_, _, _, _, _, _, _, _, eM, _⟩ => SqL.of eM) ?_ ?_
      · exact SqL_un gq fp (((SameX.of s1).trans (s2.trans ((SameX.of s3).trans (s4.trans (SameX.of s5))))).trans (s5j.trans sm))
      · exact ⟨ldj.o.imp fun _ e => sm _ _ (nP _ _ hpj e (fun xs h => by cases h)) e, sm _ _ ldp ldj.k, ldj.ok⟩
      · exact sm _ _ pkp pkj
      · exact sm _ _ (nP _ _ hpj ee5 (fun xs h => by cases h)) ee5
      · refine sm _ _ ?_ ef5
        rintro rfl
        obtain ⟨x, y, z, e⟩ := hpj
        rw [ef5] at e
        cases hm : matK t W [] (1 + dj) with
        | nil => rw [hm] at e; simp at e
        | cons a l => rw [hm] at e; simp at e
      · rintro i x σ G hx ⟨qb, qt, v13, v14, v15, v16, rfl, s5G, eM, gqG, lG, eK, eB, eT⟩
        obtain ⟨n, hn, rfl⟩ := map_atG hx
        have nm := List.mem_of_getElem? hn
        have nt := msm n nm
        have tk : ms.take (i + 1) = ms.take i ++ [n] := by rw [List.take_add_one, hn]; rfl
        have hk0 : ∀ z ∈ ms.take i, z ∈ t.names := fun z hz => msm z (List.mem_of_mem_take hz)
        have hk1 : ∀ z ∈ ms.take i ++ [n], z ∈ t.names := fun z hz => by rw [← tk] at hz; exact msm z (List.mem_of_mem_take hz)
        have nk : n ∉ ms.take i := fun q0 => by
          have nd := msn
          have e : ms = ms.take i ++ n :: ms.drop (i + 1) := by
            obtain ⟨hi, e⟩ := List.getElem?_eq_some_iff.mp hn
            rw [← e, List.getElem_cons_drop, List.take_append_drop]
          rw [e, List.nodup_append] at nd
          exact nd.2.2 _ q0 _ (List.mem_cons_self ..) rfl
        have knl : (ms.take i).length ≤ 10 := by rw [List.length_take]; omega
        have knn : (ms.take i ++ [n]).Nodup := by rw [← tk]; exact msn.sublist (List.take_sublist _ _)
        have eWn : valV (kvI (wps W t.names)) (.inr n) = some (.int (W n)) := by rw [valV_kvI, look_wps g.nd nt]; rfl
        have in0 := ls.ins hk0 jn1 jn
        have in1 := ls.ins hk1 jn1 jn
        generalize hkn : ms.take i = kn at lG eK eB eT tk hk0 hk1 nk knl knn in0 in1
        have e5i : ms.take (i + 1) = kn ++ [n] := tk
        rw [e5i]
        walk_at "w"
        refine ⟨_, .int (W n), wdH G s5G, eWn, ?_⟩
        refine ⟨_, .int (W n), wdH G s5G, eWn, ?_⟩
        refine ⟨(by show 2 ≤ sizeLine; decide), fun pt G1 f1 t1 e1 => ?_⟩
        refine ⟨pt, _, rfl, SqT.of e1, rfl, .int (W n), _, rfl, ?_⟩
        have l1 := lG.mono t1
        obtain ⟨dx1, ha1⟩ := l1.o
        have nmn : IsNm n := sh_nm g.sh n nt
        have qll := ls.ql
        refine ⟨dx1, _, ha1, ld, rws W qs kn, l1, nmn, fun q0 => nk ((rws_mem ls nt).mp q0), by unfold rws wps; rw [List.length_append, List.length_map]; omega, fun G2 t2 l2 => ?_⟩
        refine ⟨.int (W n), [], rfl, ?_⟩
        refine ⟨kvI (wps W kn), t2 _ _ ldk.symm (t1 _ _ eK), by rw [kvI_len]; unfold wps; rw [List.length_map]; exact lt1000 (by omega), fun G3 t3 e3' => ?_⟩
        refine ⟨rfl, ?_⟩
        have pke : putK (kvI (wps W kn)) (.inr n) (.int (W n)) = kvI (wps W (kn ++ [n])) := by
          rw [putK_new]
          · unfold kvI wps; rw [List.map_append, List.map_append]; rfl
          · rw [valV_kvI]
            cases e : look (wps W kn) n with
            | none => rfl
            | some c => exact absurd (look_some.mpr ⟨c, e⟩) (by rw [wps_fst]; exact nk)
        rw [pke] at e3'
        have er : rws W qs kn ++ [(n, W n)] = rws W qs (kn ++ [n]) := by unfold rws wps; rw [List.map_append, ← List.append_assoc]; rfl
        rw [er] at l2
        have s53 : SameX p H5 G3 := fun b o np e => t3 b o (ne_of_none e H5pk) (t2 b o (ne_of_none e H5ld) (t1 b o (s5G b o np e)))
        have l3 : LotAt K G3 lo ld (rws W qs (kn ++ [n])) := ⟨l2.o.imp fun _ e => t3 _ _ lok e, t3 _ _ ldk l2.k, l2.ok⟩
        have keep : ∀ b o, b ≠ ld → b ≠ pk → G b = some o → G3 b = some o := fun b o n1 n2 e => t3 b o n2 (t2 b o n1 (t1 b o e))
        have eM3 := keep _ _ pml pmk eM
        have eB3 := keep qb _ (by rintro rfl; rw [lG.k] at eB; cases eB) (by rintro rfl; rw [eK] at eB; cases eB) eB
        have eT3 := keep qt _ (by rintro rfl; rw [lG.k] at eT; cases eT) (by rintro rfl; rw [eK] at eT; cases eT) eT
        have gq3 : SqL K G3 q (xs.map V.int) := SqL_un gq fp (((SameX.of s1).trans (s2.trans ((SameX.of s3).trans (s4.trans (SameX.of s5))))).trans s53)
        clear t1 t2 t3 keep eM eB eT eK lG l1 l2 ha1 e1 f1 s5G pke er gqG
        walk_at "w"
        refine ⟨t, ld, rws W qs (kn ++ [n]), 1000000, mtH G3 s53, g, l3, rws_bd ls hk1, j1, j2, fun qa G4 f4' t4 e4' => ?_⟩
        rw [rws_ends ls l3.ok, rws_ends ls l3.ok, hB] at e4'
        have e4' : G4 qa = some (.tup [oV (sideV 1000000 (eLo t W 1000000 (kn ++ [n]) jj)), oV (sideV 1000000 (eHi t W 1000000 (kn ++ [n]) jj))]) := e4'
        refine ⟨t, ld, rws W qs (kn ++ [n]), mtH G4 (s53.trans (SameX.of t4)), g, l3.mono t4, by omega, j1, j2, fun ql G5 f5' t5 e5' => ?_⟩
        rw [mat75 ls l3.ok hk1 j1] at e5'
        refine ⟨.ref qa, .ref ql, rfl, ?_⟩
        have t45 := t4.trans t5
        have e45 := t5 _ _ e4'
        have eB5 := t45 _ _ eB3
        have eT5 := t45 _ _ eT3
        walk_at "w"
        obtain ⟨w1, w2⟩ := in1.within
        rw [hev] at w1 w2
        refine ⟨_, _, e45, w1, w2, ?_⟩
        refine way_f ?_
        walk_at "w"
        obtain ⟨n1, n2⟩ := in0.nearer nt
        refine ⟨_, _, _, _, eB5, e45, n1, n2, ?_⟩
        refine way_f ?_
        walk_at "w"
        refine ⟨_, Or.inl (SqL.of eT5), rfl, flat_strsS _, ?_⟩
        rw [inV_strS]
        refine way_nd (fun c => ?_) fun c => ?_
        case' _ =>
          obtain ⟨q1, q2⟩ := in0.still nt nk fun hh => c (matK_iff.mpr ⟨lck_mem.mpr ⟨nt, nk⟩, by rw [hB]; exact hh⟩)
          have e45' := e45
          rw [← q1, ← q2] at e45'
          refine Or.inr ⟨_, _, dp_two e45', dp_two eB5, shaped_two _ _, shaped_two _ _, ?_⟩
          refine Eq.mp (congrArg (fun b => way (!b) _ _) (SeqAt.eqv_refl _ (can_two _ _)).symm) ?_
          refine way_f ?_
          clear q1 q2 e45'
        rotate_left
        case' _ =>
          refine way_f ?_
        all_goals
          clear c
          walk_at "w"
          refine comp_list (xs := (matK t W (kn ++ [n]) (1 + dj)).map V.str) (fun i acc G => Same G5 G ∧ acc = []) (by rw [List.length_map]; exact lt1000 (Nat.le_trans (List.length_filter_le _ _) (Nat.le_trans (List.length_filter_le _ _) (by omega)))) ⟨Same.refl _, rfl⟩ (fun i acc G f => SqL.of (f.1 _ _ e5')) (fun D i x acc H' hx hD hDl hq' f => ⟨rfl, ?_⟩) (fun D G6 acc hD hDl hq' f => ?_)
          · obtain ⟨s5', rfl⟩ := f
            obtain ⟨z, hz2, rfl⟩ := map_atG hx
            obtain ⟨zl, zh⟩ := matK_iff.mp (List.mem_of_getElem? hz2)
            obtain ⟨zt, zk⟩ := lck_mem.mp zl
            have zn : z ≠ n := fun e => zk (by rw [e]; exact List.mem_append_right _ (List.mem_singleton.mpr rfl))
            have zin : z ∈ matK t W kn (1 + dj) := matK_iff.mpr ⟨lck_mem.mpr ⟨zt, fun q0 => zk (List.mem_append_left _ q0)⟩, hang_less nt nk zn zh⟩
            walk_at "w"
            refine ⟨_, Or.inl (SqL.of ((s5'.trans off_same) _ _ eT5)), rfl, flat_strsS _, ?_⟩
            rw [inV_strS, decide_eq_true zin]
            refine way_f ?_
            walk_at "w"
            rw [decide_eq_false zn]
            exact way_f ⟨hDl, s5', rfl⟩
          obtain ⟨s5', rfl⟩ := f
          refine ⟨(by show 0 ≤ sizeLine; decide), fun pv Ga fa ta ea => Or.inl ⟨_, SqL.of (ta _ _ hDl), ea, ?_⟩⟩
          refine way_f ?_
          have t5a : Same G5 Ga := (s5'.trans off_same).trans ta
          have Lnm : ∀ z ∈ matK t W (kn ++ [n]) (1 + dj), IsNm z := fun z hz => sh_nm g.sh z (lck_mem.mp (matK_iff.mp hz).1).1
          have emp : ((matK t W (kn ++ [n]) (1 + dj)).map V.str).isEmpty = true ↔ (sideV 1000000 (eLo t W 1000000 (kn ++ [n]) jj) = sideV 1000000 (eHi t W 1000000 (kn ++ [n]) jj) ∧ sideV 1000000 (eLo t W 1000000 (kn ++ [n]) jj) ≠ none) := by
            rw [List.isEmpty_iff, List.map_eq_nil_iff, ← hB]
            exact matK_nil ls hk1 j1 j2
          clear w1 w2 n1 n2 e4' in0 in1 eB3 eT3 eB5 eT5
          walk_at "w"
          refine ⟨(by show 0 ≤ sizeLine; decide), fun pw Gb fb' tb eb' => Or.inl ⟨_, SqL.of ((t5a.trans tb) _ _ e5'), eb', ?_⟩⟩
          have t5b := t5a.trans tb
          have tupc := SqT.of (K := K) (t5b _ _ e45)
          generalize sideV 1000000 (eLo t W 1000000 (kn ++ [n]) jj) = sa at emp tupc e45 ⊢
          generalize sideV 1000000 (eHi t W 1000000 (kn ++ [n]) jj) = sb at emp tupc e45 ⊢
          refine ⟨_, _, Or.inr tupc, rfl, ?_⟩
          clear ta tb fb' eb' ea hDl s5' t5a fa
          rcases sa with _ | a
          rotate_left
          rcases sb with _ | b
          rotate_left
          case' _ =>
            have emf : ((matK t W (kn ++ [n]) (1 + dj)).map V.str).isEmpty = decide (a = b) := by
              rw [Bool.eq_iff_iff, decide_eq_true_eq]
              exact emp.trans ⟨fun q => Option.some.inj q.1, fun q => ⟨congrArg some q, fun q => by cases q⟩⟩
            show way true _ _
            refine way_t ?_
            refine ⟨_, _, Or.inr tupc, rfl, ?_⟩
            refine ⟨_, _, Or.inr tupc, rfl, ?_⟩
            show way (!decide (_ = decide (a = b))) _ _
            rw [emf, decide_eq_true rfl]
            refine way_f ?_
            clear emf
          rotate_left
          case' _ =>
            have emf : ((matK t W (kn ++ [n]) (1 + dj)).map V.str).isEmpty = false := by
              rw [Bool.eq_false_iff]
              exact fun q => (emp.mp q).2 rfl
            show way false _ _
            refine way_f ?_
            show way (!decide (_ = false)) _ _
            rw [emf]
            refine way_f ?_
            clear emf
          rotate_left
          case' _ =>
            have emf : ((matK t W (kn ++ [n]) (1 + dj)).map V.str).isEmpty = false := by
              rw [Bool.eq_false_iff]
              exact fun q => by cases (emp.mp q).1
            show way true _ _
            refine way_t ?_
            refine ⟨_, _, Or.inr tupc, rfl, ?_⟩
            refine ⟨_, _, Or.inr tupc, rfl, ?_⟩
            show way (!decide (_ = false)) _ _
            rw [emf]
            refine way_f ?_
            clear emf
          all_goals
            refine ⟨t, W, kn ++ [n], ltH Gb (s53.trans (SameX.of (t45.trans t5b))), g, (t45.trans t5b) _ _ e3', knn, by rw [List.length_append]; show _ + 1 ≤ 60; omega, by omega, j1, fun ph Gc fc' tc ec' => ?_⟩
            have ec' : Gc ph = some (.lst ((matK t W (kn ++ [n]) (1 + dj)).map V.str)) := ec'
            refine Or.inr ⟨_, _, dp_strs ((t5b.trans tc) _ _ e5'), dp_strs ec', shaped_strs Lnm, shaped_strs Lnm, ?_⟩
            refine Eq.mp (congrArg (fun b => way (!b) _ _) (eqv_strs Lnm).symm) ?_
            refine way_f ?_
            walk_at "w"
            refine ⟨(by show 2 ≤ sizeLine; decide), fun pz Ge' fe' te ee' => ?_⟩
            refine ⟨pz, _, rfl, SqT.of ee', rfl, .ref qa, _, rfl, .ref ql, [], rfl, rfl, ?_⟩
            have t5e := t5b.trans (tc.trans te)
            have t3e := t45.trans t5e
            exact ⟨qa, ql, _, _, _, _, rfl, s53.trans (SameX.of t3e), t3e _ _ eM3, t3e.seq gq3, l3.mono t3e, t3e _ _ e3', t5e _ _ e45, t5e _ _ e5'⟩
      · rintro σ G ⟨qb, qt, v13, v14, v15, v16, rfl, s5G, eM, gqG, lG, eK, eB, eT⟩
        rw [List.length_map, List.take_length] at eB
        obtain ⟨a1, a2⟩ := (ls.ins (kn := ms) msm jn1 jn).all_ fun z hz => pmm.mem_iff.mpr hz
        rw [a1, a2, hev] at eB
        walk_at "w"
        refine ⟨(by show 2 ≤ sizeLine; decide), fun pu G1 fu su eu => ?_⟩
        have eu : G1 pu = some (.tup [oV (some ev), oV (some ev)]) := eu
        refine Or.inr ⟨_, _, dp_two (su _ _ eB), dp_two eu, shaped_two _ _, shaped_two _ _, ?_⟩
        rw [SeqAt.eqv_refl _ (can_two _ _)]
        refine way_f ?_
        exact ⟨_, _, _, _, _, _, _, _, _, _, _, _, _, _, _, _, rfl, su.seq gqG⟩
    · rintro σ G ⟨v1, v2, v3, v4, v5, v6, v7, v8, v9, v10, v11, v12, v13, v14, v15, v16, rfl, gq⟩
      exact k G
  next => exact h.elim
end LW
namespace LW
open PySem PySem.Spec L2 GG
def hAds : List Addr := ([3, 6, 4, 21, 31, 54, 76, 98, 120, 142, 164, 186, 195, 200, 205, 210, 217, 224, 231, 241, 250, 255, 260, 377, 518, 527, 534, 541, 639, 650, 657, 662, 670, 671, 672, 677, 682, 689, 697, 702] : List Addr) ++ ([707, 713, 720, 727, 734, 739, 746, 751, 758, 765, 770, 775, 782, 787, 794, 801, 806, 811, 816, 823, 830, 835, 0, 20, 30, 53, 75, 97, 119, 141, 163, 185, 194, 199, 204, 209, 216, 223, 230, 240] : List Addr) ++ ([249, 254, 259, 376, 517, 526, 533, 540, 638, 649, 656, 661, 669, 663, 676, 681, 688, 696, 690, 701, 706, 712, 708, 719, 726, 733, 738, 745, 750, 757, 764, 769, 774, 781, 786, 793, 800, 805, 810, 815] : List Addr) ++ ([822, 829, 834, 15, 16, 17, 18, 19, 29, 32, 51, 52, 73, 74, 95, 96, 117, 118, 139, 140, 161, 162, 183, 184, 189, 190, 191, 192, 193, 196, 197, 198, 201, 202, 203, 206, 207, 208, 211, 212] : List Addr) ++ ([213, 214, 215, 218, 219, 220, 221, 222, 225, 226, 227, 228, 229, 239, 242, 243, 246, 247, 248, 251, 252, 253, 256, 257, 258, 274, 282, 290, 297, 304, 311, 318, 325, 332, 339, 346, 353, 360, 367, 374] : List Addr) ++ ([375, 391, 399, 407, 415, 423, 430, 437, 444, 451, 458, 463, 470, 475, 480, 487, 494, 501, 508, 515, 516, 521, 522, 523, 524, 525, 528, 529, 530, 531, 532, 535, 536, 537, 538, 539, 554, 561, 568, 575] : List Addr) ++ ([582, 589, 596, 603, 610, 615, 622, 629, 636, 637, 640, 641, 644, 645, 646, 647, 648, 651, 652, 653, 654, 655, 658, 659, 660, 664, 665, 666, 667, 668, 673, 674, 675, 678, 679, 680, 683, 684, 685, 686] : List Addr) ++ ([687, 691, 692, 693, 694, 695, 698, 699, 700, 703, 704, 705, 709, 710, 711, 714, 715, 716, 717, 718, 721, 722, 723, 724, 725, 728, 729, 730, 731, 732, 735, 736, 737, 740, 741, 742, 743, 744, 747, 748] : List Addr) ++ ([749, 752, 753, 754, 755, 756, 759, 760, 761, 762, 763, 766, 767, 768, 771, 772, 773, 776, 777, 778, 779, 780, 783, 784, 785, 788, 789, 790, 791, 792, 795, 796, 797, 798, 799, 802, 803, 804, 807, 808] : List Addr) ++ ([809, 812, 813, 814, 817, 818, 819, 820, 821, 824, 825, 826, 827, 828, 831, 832, 833, 50, 43, 38, 72, 65, 60, 94, 87, 82, 116, 109, 104, 138, 131, 126, 160, 153, 148, 182, 175, 170, 273, 281] : List Addr) ++ ([289, 296, 303, 310, 317, 324, 331, 338, 345, 352, 359, 366, 373, 390, 398, 406, 414, 422, 429, 436, 443, 450, 457, 462, 469, 474, 479, 486, 493, 500, 507, 514, 553, 549, 560, 567, 574, 581, 588, 595] : List Addr) ++ ([602, 609, 614, 621, 628, 635, 45, 46, 47, 48, 49, 67, 68, 69, 70, 71, 89, 90, 91, 92, 93, 111, 112, 113, 114, 115, 133, 134, 135, 136, 137, 155, 156, 157, 158, 159, 177, 178, 179, 180] : List Addr) ++ ([181, 268, 269, 270, 271, 272, 280, 288, 291, 292, 293, 294, 295, 298, 299, 300, 301, 302, 305, 306, 307, 308, 309, 312, 313, 314, 315, 316, 319, 320, 321, 322, 323, 326, 327, 328, 329, 330, 333, 334] : List Addr) ++ ([335, 336, 337, 340, 341, 342, 343, 344, 347, 348, 349, 350, 351, 354, 355, 356, 357, 358, 361, 362, 363, 364, 365, 368, 369, 370, 371, 372, 387, 388, 389, 397, 405, 413, 421, 424, 425, 426, 427, 428] : List Addr) ++ ([431, 432, 433, 434, 435, 438, 439, 440, 441, 442, 445, 446, 447, 448, 449, 452, 453, 454, 455, 456, 459, 460, 461, 464, 465, 466, 467, 468, 471, 472, 473, 476, 477, 478, 481, 482, 483, 484, 485, 488] : List Addr) ++ ([489, 490, 491, 492, 495, 496, 497, 498, 499, 502, 503, 504, 505, 506, 509, 510, 511, 512, 513, 550, 551, 552, 555, 556, 557, 558, 559, 562, 563, 564, 565, 566, 569, 570, 571, 572, 573, 576, 577, 578] : List Addr) ++ ([579, 580, 583, 584, 585, 586, 587, 590, 591, 592, 593, 594, 597, 598, 599, 600, 601, 604, 605, 606, 607, 608, 611, 612, 613, 616, 617, 618, 619, 620, 623, 624, 625, 626, 627, 630, 631, 632, 633, 634] : List Addr) ++ ([275, 276, 277, 278, 279, 283, 284, 285, 286, 287, 392, 393, 394, 395, 396, 400, 401, 402, 403, 404, 408, 409, 410, 411, 412, 416, 417, 418, 419, 420] : List Addr)
def hds0 : List GD := ([⟨fun K => He.ga K "_law_called", "_law_called", "_law_called", defArgs s__law_called, defBody s__law_called, defScope s__law_called, []⟩, ⟨fun K => He.ga K "_law_draw", "_law_draw", "_law_draw", defArgs s__law_draw, defBody s__law_draw, defScope s__law_draw, []⟩, ⟨fun K => He.ga K "_law_grown", "_law_grown", "_law_grown", defArgs s__law_grown, defBody s__law_grown, defScope s__law_grown, []⟩, ⟨fun K => He.ga K "_law_hangs", "_law_hangs", "_law_hangs", defArgs s__law_hangs, defBody s__law_hangs, defScope s__law_hangs, []⟩, ⟨fun K => He.ga K "_law_low", "_law_low", "_law_low", defArgs s__law_low, defBody s__law_low, defScope s__law_low, []⟩, ⟨fun K => He.ga K "_law_made", "_law_made", "_law_made", defArgs s__law_made, defBody s__law_made, defScope s__law_made, []⟩, ⟨fun K => He.ga K "_law_names", "_law_names", "_law_names", defArgs s__law_names, defBody s__law_names, defScope s__law_names, []⟩, ⟨fun K => He.ga K "_law_nearer", "_law_nearer", "_law_nearer", defArgs s__law_nearer, defBody s__law_nearer, defScope s__law_nearer, []⟩, ⟨fun K => He.ga K "_law_pairs", "_law_pairs", "_law_pairs", defArgs s__law_pairs, defBody s__law_pairs, defScope s__law_pairs, []⟩, ⟨fun K => He.ga K "_law_purse", "_law_purse", "_law_purse", defArgs s__law_purse, defBody s__law_purse, defScope s__law_purse, []⟩, ⟨fun K => He.ga K "_law_ranks", "_law_ranks", "_law_ranks", defArgs s__law_ranks, defBody s__law_ranks, defScope s__law_ranks, []⟩, ⟨fun K => He.ga K "_law_shuffled", "_law_shuffled", "_law_shuffled", defArgs s__law_shuffled, defBody s__law_shuffled, defScope s__law_shuffled, []⟩, ⟨fun K => He.ga K "_law_split", "_law_split", "_law_split", defArgs s__law_split, defBody s__law_split, defScope s__law_split, []⟩, ⟨fun K => He.ga K "_law_strangers", "_law_strangers", "_law_strangers", defArgs s__law_strangers, defBody s__law_strangers, defScope s__law_strangers, []⟩, ⟨fun K => He.ga K "_law_tree", "_law_tree", "_law_tree", defArgs s__law_tree, defBody s__law_tree, defScope s__law_tree, []⟩, ⟨fun K => He.ga K "_law_turns", "_law_turns", "_law_turns", defArgs s__law_turns, defBody s__law_turns, defScope s__law_turns, []⟩, ⟨fun K => He.ga K "_law_width", "_law_width", "_law_width", defArgs s__law_width, defBody s__law_width, defScope s__law_width, []⟩, ⟨fun K => He.ga K "_law_within", "_law_within", "_law_within", defArgs s__law_within, defBody s__law_within, defScope s__law_within, []⟩, ⟨fun K => He.ga K "_law_worths", "_law_worths", "_law_worths", defArgs s__law_worths, defBody s__law_worths, defScope s__law_worths, []⟩, ⟨fun K => He.ga K "are_pairs", "are_pairs", "are_pairs", defArgs s_are_pairs, defBody s_are_pairs, defScope s_are_pairs, []⟩] : List GD) ++ ([⟨fun K => He.ga K "are_parts", "are_parts", "are_parts", defArgs s_are_parts, defBody s_are_parts, defScope s_are_parts, []⟩, ⟨fun K => He.ga K "between", "between", "between", defArgs s_between, defBody s_between, defScope s_between, [.int 1]⟩, ⟨fun K => He.ga K "bound_of", "bound_of", "bound_of", defArgs s_bound_of, defBody s_bound_of, defScope s_bound_of, []⟩, ⟨fun K => He.ga K "can_swing", "can_swing", "can_swing", defArgs s_can_swing, defBody s_can_swing, defScope s_can_swing, []⟩, ⟨fun K => He.ga K "check_end", "check_end", "check_end", defArgs s_check_end, defBody s_check_end, defScope s_check_end, []⟩, ⟨fun K => He.ga K "check_full", "check_full", "check_full", defArgs s_check_full, defBody s_check_full, defScope s_check_full, []⟩, ⟨fun K => He.ga K "check_lot", "check_lot", "check_lot", defArgs s_check_lot, defBody s_check_lot, defScope s_check_lot, []⟩, ⟨fun K => He.ga K "check_name", "check_name", "check_name", defArgs s_check_name, defBody s_check_name, defScope s_check_name, []⟩, ⟨fun K => He.ga K "check_partial", "check_partial", "check_partial", defArgs s_check_partial, defBody s_check_partial, defScope s_check_partial, []⟩, ⟨fun K => He.ga K "check_tree", "check_tree", "check_tree", defArgs s_check_tree, defBody s_check_tree, defScope s_check_tree, []⟩, ⟨fun K => He.ga K "check_whole", "check_whole", "check_whole", defArgs s_check_whole, defBody s_check_whole, defScope s_check_whole, []⟩, ⟨fun K => He.ga K "check_within", "check_within", "check_within", defArgs s_check_within, defBody s_check_within, defScope s_check_within, []⟩, ⟨fun K => He.ga K "end_of", "end_of", "end_of", defArgs s_end_of, defBody s_end_of, defScope s_end_of, [.int 1]⟩, ⟨fun K => He.ga K "gathered", "gathered", "gathered", defArgs s_gathered, defBody s_gathered, defScope s_gathered, []⟩, ⟨fun K => He.ga K "is_ascending", "is_ascending", "is_ascending", defArgs s_is_ascending, defBody s_is_ascending, defScope s_is_ascending, []⟩, ⟨fun K => He.ga K "is_group", "is_group", "is_group", defArgs s_is_group, defBody s_is_group, defScope s_is_group, []⟩, ⟨fun K => He.ga K "is_name", "is_name", "is_name", defArgs s_is_name, defBody s_is_name, defScope s_is_name, []⟩, ⟨fun K => He.ga K "is_whole", "is_whole", "is_whole", defArgs s_is_whole, defBody s_is_whole, defScope s_is_whole, []⟩, ⟨fun K => He.ga K "law", "law", "law", defArgs s_law, defBody s_law, defScope s_law, []⟩, ⟨fun K => He.ga K "matters", "matters", "matters", defArgs s_matters, defBody s_matters, defScope s_matters, [.int 1]⟩] : List GD) ++ ([⟨fun K => He.ga K "swings", "swings", "swings", defArgs s_swings, defBody s_swings, defScope s_swings, []⟩, ⟨fun K => He.ga K "values_of", "values_of", "values_of", defArgs s_values_of, defBody s_values_of, defScope s_values_of, []⟩, ⟨fun K => He.ma K (He.ga K "Leaf") "__init__", "__init__", "Leaf.__init__", defArgs s_Leaf___init__, defBody s_Leaf___init__, defScope s_Leaf___init__, []⟩, ⟨fun K => gt K "Leaf" "name", "name", "Leaf.name", defArgs s_Leaf_name, defBody s_Leaf_name, defScope s_Leaf_name, []⟩, ⟨fun K => gt K "Leaf" "width", "width", "Leaf.width", defArgs s_Leaf_width, defBody s_Leaf_width, defScope s_Leaf_width, []⟩, ⟨fun K => He.ma K (He.ga K "Leaf") "__contains__", "__contains__", "Leaf.__contains__", defArgs s_Leaf___contains__, defBody s_Leaf___contains__, defScope s_Leaf___contains__, []⟩, ⟨fun K => He.ma K (He.ga K "Leaf") "names", "names", "Leaf.names", defArgs s_Leaf_names, defBody s_Leaf_names, defScope s_Leaf_names, []⟩, ⟨fun K => He.ma K (He.ga K "Leaf") "low_ends", "low_ends", "Leaf.low_ends", defArgs s_Leaf_low_ends, defBody s_Leaf_low_ends, defScope s_Leaf_low_ends, []⟩, ⟨fun K => He.ma K (He.ga K "Group") "__init__", "__init__", "Group.__init__", defArgs s_Group___init__, defBody s_Group___init__, defScope s_Group___init__, []⟩, ⟨fun K => gt K "Group" "ranks", "ranks", "Group.ranks", defArgs s_Group_ranks, defBody s_Group_ranks, defScope s_Group_ranks, []⟩, ⟨fun K => gt K "Group" "parts", "parts", "Group.parts", defArgs s_Group_parts, defBody s_Group_parts, defScope s_Group_parts, []⟩, ⟨fun K => gt K "Group" "width", "width", "Group.width", defArgs s_Group_width, defBody s_Group_width, defScope s_Group_width, []⟩, ⟨fun K => He.ma K (He.ga K "Group") "__contains__", "__contains__", "Group.__contains__", defArgs s_Group___contains__, defBody s_Group___contains__, defScope s_Group___contains__, []⟩, ⟨fun K => He.ma K (He.ga K "Group") "names", "names", "Group.names", defArgs s_Group_names, defBody s_Group_names, defScope s_Group_names, []⟩, ⟨fun K => He.ma K (He.ga K "Group") "low_ends", "low_ends", "Group.low_ends", defArgs s_Group_low_ends, defBody s_Group_low_ends, defScope s_Group_low_ends, []⟩, ⟨fun K => He.ma K (He.ga K "Lot") "__init__", "__init__", "Lot.__init__", defArgs s_Lot___init__, defBody s_Lot___init__, defScope s_Lot___init__, [.non]⟩, ⟨fun K => He.ma K (He.ga K "Lot") "__getitem__", "__getitem__", "Lot.__getitem__", defArgs s_Lot___getitem__, defBody s_Lot___getitem__, defScope s_Lot___getitem__, []⟩, ⟨fun K => He.ma K (He.ga K "Lot") "__setitem__", "__setitem__", "Lot.__setitem__", defArgs s_Lot___setitem__, defBody s_Lot___setitem__, defScope s_Lot___setitem__, []⟩, ⟨fun K => He.ma K (He.ga K "Lot") "__contains__", "__contains__", "Lot.__contains__", defArgs s_Lot___contains__, defBody s_Lot___contains__, defScope s_Lot___contains__, []⟩] : List GD)
def hds : List GD := hds0
def hfa0 : List He.Fa := ([.glo "_law_called", .glo "_law_draw", .glo "_law_grown", .glo "_law_hangs", .glo "_law_low", .glo "_law_made", .glo "_law_names", .glo "_law_nearer", .glo "_law_pairs", .glo "_law_purse", .glo "_law_ranks", .glo "_law_shuffled", .glo "_law_split", .glo "_law_strangers", .glo "_law_tree", .glo "_law_turns", .glo "_law_width", .glo "_law_within", .glo "_law_worths", .glo "are_pairs"] : List He.Fa) ++ ([.glo "are_parts", .glo "between", .glo "bound_of", .glo "can_swing", .glo "check_end", .glo "check_full", .glo "check_lot", .glo "check_name", .glo "check_partial", .glo "check_tree", .glo "check_whole", .glo "check_within", .glo "end_of", .glo "gathered", .glo "is_ascending", .glo "is_group", .glo "is_name", .glo "is_whole", .glo "law", .glo "matters"] : List He.Fa) ++ ([.glo "swings", .glo "values_of", .glo "Tree", .glo "Leaf", .cls "Leaf", .meth "Leaf" "__init__", .meth "Leaf" "__contains__", .meth "Leaf" "names", .meth "Leaf" "low_ends", .noat "Leaf" "label", .glo "Group", .cls "Group", .meth "Group" "__init__", .meth "Group" "__contains__", .meth "Group" "names", .meth "Group" "low_ends", .noat "Group" "picks", .noat "Group" "rows", .noat "Group" "taken", .glo "Lot"] : List He.Fa) ++ ([.cls "Lot", .meth "Lot" "__init__", .meth "Lot" "__getitem__", .meth "Lot" "__setitem__", .meth "Lot" "__contains__", .noat "Lot" "worths", .free "len", .free "sum", .free "min", .free "max", .free "sorted", .free "isinstance", .free "int", .free "list", .free "tuple", .free "str", .free "bool", .free "set", .free "range", .free "enumerate"] : List He.Fa) ++ ([.free "dict", .str "ALPHABET" "abcdefghijklmnopqrstuvwxyz", .glo "LOW", .glo "HIGH"] : List He.Fa)
def hfa : List He.Fa := hfa0
def hfx0 : List Fx := ([.ins "Tree", .ins "Leaf", .mk "Leaf", .prop "Leaf" "name", .prop "Leaf" "width", .ins "Group", .mk "Group", .prop "Group" "ranks", .prop "Group" "parts", .prop "Group" "width", .ins "Lot", .mk "Lot", .item "Lot" "__getitem__", .nosq "Lot", .kit "Leaf" "Tree" true, .kit "Leaf" "Leaf" true, .kit "Leaf" "Group" false, .kit "Leaf" "Lot" false, .kit "Group" "Tree" true, .kit "Group" "Leaf" false] : List Fx) ++ ([.kit "Group" "Group" true, .kit "Group" "Lot" false, .kit "Lot" "Tree" false, .kit "Lot" "Leaf" false, .kit "Lot" "Group" false, .kit "Lot" "Lot" true, .tupl "LOW" [.int 0, .int 0], .tupl "HIGH" [.int 2, .int 0]] : List Fx)
def hfx : List Fx := hfx0
abbrev hR : PySem.W.OpenRow := PySem.W.OpenLaw.row PySem.Challenge.rw_rankpicks_k75_whole_worths_come_in
abbrev hHk : PySem.W.Hook := hookX hAds hfa hfx hds
def hOb (s : PySem.W.SharedT) : He.AlD := obsX hfa hfx hds (lookX hAds (HandSHeadRun.getT s))
theorem hOb_eq (s : PySem.W.SharedT) : hOb s = hHk.obs s.abs := obsX_eq (HandSHeadRun.getT_eq s)
def hLoose : List PySem.Str := (["_wall", "RankError", "InvalidName", "InvalidNumber", "InvalidTree", "InvalidLot", "InvalidList", "Unknown", "Lacking", "ALPHABET", "is_whole", "is_name", "are_names", "is_ascending", "check_name", "check_whole", "check_within", "Tree", "are_parts", "is_group"] : List PySem.Str) ++ (["check_some", "Leaf", "Group", "check_tree", "check_end", "are_pairs", "Lot", "check_lot", "check_full", "gathered", "end_of", "LOW", "HIGH", "values_of", "bound_of", "check_partial", "between", "swings", "can_swing", "matters"] : List PySem.Str) ++ (["_law_purse", "_law_draw", "_law_called", "_law_split", "_law_ranks", "_law_grown", "_law_width", "_law_names", "_law_low", "_law_made", "_law_worths", "_law_pairs", "_law_tree", "_law_shuffled", "_law_turns", "_law_hangs", "_law_strangers", "_law_within", "_law_nearer"] : List PySem.Str)
theorem three_of {α β γ δ : Type} {o : Option α} {f : α → β} {g : α → γ} {h : α → δ} {a : β} {b : γ} {c : δ} (x : o.map f = some a) (y : o.map g = some b) (z : o.map h = some c) : o.map (fun s => (f s, g s, h s)) = some (a, b, c) := by
  cases o with
  | none => cases x
  | some s => cases x; cases y; cases z; rfl
noncomputable abbrev hEnd (w : World) (os : OsState) : Option PySem.W.SharedT := HandSHeadRun.endF (HandSHeadRun.stepQ (HandSHeadRun.denQ HandSHeadRun.tabQ) hR.prog w) 9000 hR.prog w os
abbrev hV : Program := PySem.W.view hR.prog [65]
theorem hRun1 (w : World) (os : OsState) : (hEnd w os).map (fun s => HandSHeadRun.looksF hR.prog (PySem.W.boot_heap w.params) s.abs) = some true := by kernel_rfl
theorem hRun2 (w : World) (os : OsState) : (hEnd w os).map (fun s => HandSHeadRun.seenQ hV hLoose (PySem.importedModules hR.prog.main.body) (fun s => PySem.W.xlAt hV [] s && PySem.W.recOk hR.toRowW.records s) s.abs) = some (PySem.W.openGood hV hLoose) := by kernel_rfl
abbrev hLook (s : PySem.W.SharedT) : PySem.W.Frag := lookX hAds (HandSHeadRun.getT s)
theorem hRun3 (w : World) (os : OsState) : (hEnd w os).map (fun s => obsX hfa hfx hds (hLook s)) = some (valX hds) := by kernel_rfl
theorem hRun (w : World) : HandSHeadRun.RunEq hR hV hHk hOb 9000 hLoose w := fun os => three_of (hRun1 w os) (hRun2 w os) (hRun3 w os)
theorem top_ok {K : PySem.W.Frag} {h : Heap} {mg : Str → Option Value} (X : K.In h) (G : h.Ns mainGlobals mg) (c : SaysX hfa hfx hds K) : Top K mg where
  f__law_called := by
    obtain ⟨fd, F⟩ := c.d 0
    exact ⟨_, fd, F, He.glo_ok X G (c.a 0 (f := .glo "_law_called")), (FunD.bindsN F fun _ _ _ _ _ _ us hl => match us, hl with | [_, _], _ => rfl)⟩
  f__law_draw := by
    obtain ⟨fd, F⟩ := c.d 1
    exact ⟨_, fd, F, He.glo_ok X G (c.a 1 (f := .glo "_law_draw")), (FunD.bindsN F fun _ _ _ _ _ _ us hl => match us, hl with | [_, _], _ => rfl)⟩
  f__law_grown := by
    obtain ⟨fd, F⟩ := c.d 2
    exact ⟨_, fd, F, He.glo_ok X G (c.a 2 (f := .glo "_law_grown")), (FunD.bindsN F fun _ _ _ _ _ _ us hl => match us, hl with | [_, _, _], _ => rfl)⟩
  f__law_hangs := by
    obtain ⟨fd, F⟩ := c.d 3
    exact ⟨_, fd, F, He.glo_ok X G (c.a 3 (f := .glo "_law_hangs")), (FunD.bindsN F fun _ _ _ _ _ _ us hl => match us, hl with | [_, _, _], _ => rfl)⟩
  f__law_low := by
    obtain ⟨fd, F⟩ := c.d 4
    exact ⟨_, fd, F, He.glo_ok X G (c.a 4 (f := .glo "_law_low")), (FunD.bindsN F fun _ _ _ _ _ _ us hl => match us, hl with | [_, _], _ => rfl)⟩
  f__law_made := by
    obtain ⟨fd, F⟩ := c.d 5
    exact ⟨_, fd, F, He.glo_ok X G (c.a 5 (f := .glo "_law_made")), (FunD.bindsN F fun _ _ _ _ _ _ us hl => match us, hl with | [_], _ => rfl)⟩
  f__law_names := by
    obtain ⟨fd, F⟩ := c.d 6
    exact ⟨_, fd, F, He.glo_ok X G (c.a 6 (f := .glo "_law_names")), (FunD.bindsN F fun _ _ _ _ _ _ us hl => match us, hl with | [_], _ => rfl)⟩
  f__law_nearer := by
    obtain ⟨fd, F⟩ := c.d 7
    exact ⟨_, fd, F, He.glo_ok X G (c.a 7 (f := .glo "_law_nearer")), (FunD.bindsN F fun _ _ _ _ _ _ us hl => match us, hl with | [_, _], _ => rfl)⟩
  f__law_pairs := by
    obtain ⟨fd, F⟩ := c.d 8
    exact ⟨_, fd, F, He.glo_ok X G (c.a 8 (f := .glo "_law_pairs")), (FunD.bindsN F fun _ _ _ _ _ _ us hl => match us, hl with | [_], _ => rfl)⟩
  f__law_purse := by
    obtain ⟨fd, F⟩ := c.d 9
    exact ⟨_, fd, F, He.glo_ok X G (c.a 9 (f := .glo "_law_purse")), (FunD.bindsN F fun _ _ _ _ _ _ us hl => match us, hl with | [_, _], _ => rfl)⟩
  f__law_ranks := by
    obtain ⟨fd, F⟩ := c.d 10
    exact ⟨_, fd, F, He.glo_ok X G (c.a 10 (f := .glo "_law_ranks")), (FunD.bindsN F fun _ _ _ _ _ _ us hl => match us, hl with | [_, _, _], _ => rfl)⟩
  f__law_shuffled := by
    obtain ⟨fd, F⟩ := c.d 11
    exact ⟨_, fd, F, He.glo_ok X G (c.a 11 (f := .glo "_law_shuffled")), (FunD.bindsN F fun _ _ _ _ _ _ us hl => match us, hl with | [_, _], _ => rfl)⟩
  f__law_split := by
    obtain ⟨fd, F⟩ := c.d 12
    exact ⟨_, fd, F, He.glo_ok X G (c.a 12 (f := .glo "_law_split")), (FunD.bindsN F fun _ _ _ _ _ _ us hl => match us, hl with | [_, _], _ => rfl)⟩
  f__law_strangers := by
    obtain ⟨fd, F⟩ := c.d 13
    exact ⟨_, fd, F, He.glo_ok X G (c.a 13 (f := .glo "_law_strangers")), (FunD.bindsN F fun _ _ _ _ _ _ us hl => match us, hl with | [_, _], _ => rfl)⟩
  f__law_tree := by
    obtain ⟨fd, F⟩ := c.d 14
    exact ⟨_, fd, F, He.glo_ok X G (c.a 14 (f := .glo "_law_tree")), (FunD.bindsN F fun _ _ _ _ _ _ us hl => match us, hl with | [_, _, _], _ => rfl)⟩
  f__law_turns := by
    obtain ⟨fd, F⟩ := c.d 15
    exact ⟨_, fd, F, He.glo_ok X G (c.a 15 (f := .glo "_law_turns")), (FunD.bindsN F fun _ _ _ _ _ _ us hl => match us, hl with | [_, _, _, _], _ => rfl)⟩
  f__law_width := by
    obtain ⟨fd, F⟩ := c.d 16
    exact ⟨_, fd, F, He.glo_ok X G (c.a 16 (f := .glo "_law_width")), (FunD.bindsN F fun _ _ _ _ _ _ us hl => match us, hl with | [_], _ => rfl)⟩
  f__law_within := by
    obtain ⟨fd, F⟩ := c.d 17
    exact ⟨_, fd, F, He.glo_ok X G (c.a 17 (f := .glo "_law_within")), (FunD.bindsN F fun _ _ _ _ _ _ us hl => match us, hl with | [_, _], _ => rfl)⟩
  f__law_worths := by
    obtain ⟨fd, F⟩ := c.d 18
    exact ⟨_, fd, F, He.glo_ok X G (c.a 18 (f := .glo "_law_worths")), (FunD.bindsN F fun _ _ _ _ _ _ us hl => match us, hl with | [_, _], _ => rfl)⟩
  f_are_pairs := by
    obtain ⟨fd, F⟩ := c.d 19
    exact ⟨_, fd, F, He.glo_ok X G (c.a 19 (f := .glo "are_pairs")), (FunD.bindsN F fun _ _ _ _ _ _ us hl => match us, hl with | [_], _ => rfl)⟩
  f_are_parts := by
    obtain ⟨fd, F⟩ := c.d 20
    exact ⟨_, fd, F, He.glo_ok X G (c.a 20 (f := .glo "are_parts")), (FunD.bindsN F fun _ _ _ _ _ _ us hl => match us, hl with | [_], _ => rfl)⟩
  f_between := by
    obtain ⟨fd, F⟩ := c.d 21
    exact ⟨_, fd, F, He.glo_ok X G (c.a 21 (f := .glo "between")), (by obtain ⟨ds, v, b⟩ := F.binds1 (ps := ["tree", "lot", "j"]) 3 1 (by simp) rfl fun _ _ _ _ _ _ _ us its hu hi => match us, its, hu, hi with | [_, _, _], [_], _, _ => ⟨_, rfl, rfl⟩; cases v; exact b), (F.binds1 2 0 (by simp) rfl fun _ _ _ _ _ _ _ us its hu hi => match us, its, hu, hi with | [_, _], [_], _, _ => ⟨_, rfl, rfl⟩)⟩
  f_bound_of := by
    obtain ⟨fd, F⟩ := c.d 22
    exact ⟨_, fd, F, He.glo_ok X G (c.a 22 (f := .glo "bound_of")), (FunD.bindsN F fun _ _ _ _ _ _ us hl => match us, hl with | [_, _, _, _], _ => rfl)⟩
  f_can_swing := by
    obtain ⟨fd, F⟩ := c.d 23
    exact ⟨_, fd, F, He.glo_ok X G (c.a 23 (f := .glo "can_swing")), (FunD.bindsN F fun _ _ _ _ _ _ us hl => match us, hl with | [_, _, _, _, _], _ => rfl)⟩
  f_check_end := by
    obtain ⟨fd, F⟩ := c.d 24
    exact ⟨_, fd, F, He.glo_ok X G (c.a 24 (f := .glo "check_end")), (FunD.bindsN F fun _ _ _ _ _ _ us hl => match us, hl with | [_, _], _ => rfl)⟩
  f_check_full := by
    obtain ⟨fd, F⟩ := c.d 25
    exact ⟨_, fd, F, He.glo_ok X G (c.a 25 (f := .glo "check_full")), (FunD.bindsN F fun _ _ _ _ _ _ us hl => match us, hl with | [_, _], _ => rfl)⟩
  f_check_lot := by
    obtain ⟨fd, F⟩ := c.d 26
    exact ⟨_, fd, F, He.glo_ok X G (c.a 26 (f := .glo "check_lot")), (FunD.bindsN F fun _ _ _ _ _ _ us hl => match us, hl with | [_], _ => rfl)⟩
  f_check_name := by
    obtain ⟨fd, F⟩ := c.d 27
    exact ⟨_, fd, F, He.glo_ok X G (c.a 27 (f := .glo "check_name")), (FunD.bindsN F fun _ _ _ _ _ _ us hl => match us, hl with | [_], _ => rfl)⟩
  f_check_partial := by
    obtain ⟨fd, F⟩ := c.d 28
    exact ⟨_, fd, F, He.glo_ok X G (c.a 28 (f := .glo "check_partial")), (FunD.bindsN F fun _ _ _ _ _ _ us hl => match us, hl with | [_, _, _], _ => rfl)⟩
  f_check_tree := by
    obtain ⟨fd, F⟩ := c.d 29
    exact ⟨_, fd, F, He.glo_ok X G (c.a 29 (f := .glo "check_tree")), (FunD.bindsN F fun _ _ _ _ _ _ us hl => match us, hl with | [_], _ => rfl)⟩
  f_check_whole := by
    obtain ⟨fd, F⟩ := c.d 30
    exact ⟨_, fd, F, He.glo_ok X G (c.a 30 (f := .glo "check_whole")), (FunD.bindsN F fun _ _ _ _ _ _ us hl => match us, hl with | [_], _ => rfl)⟩
  f_check_within := by
    obtain ⟨fd, F⟩ := c.d 31
    exact ⟨_, fd, F, He.glo_ok X G (c.a 31 (f := .glo "check_within")), (FunD.bindsN F fun _ _ _ _ _ _ us hl => match us, hl with | [_, _, _], _ => rfl)⟩
  f_end_of := by
    obtain ⟨fd, F⟩ := c.d 32
    exact ⟨_, fd, F, He.glo_ok X G (c.a 32 (f := .glo "end_of")), (by obtain ⟨ds, v, b⟩ := F.binds1 (ps := ["tree", "lot", "j"]) 3 1 (by simp) rfl fun _ _ _ _ _ _ _ us its hu hi => match us, its, hu, hi with | [_, _, _], [_], _, _ => ⟨_, rfl, rfl⟩; cases v; exact b), (F.binds1 2 0 (by simp) rfl fun _ _ _ _ _ _ _ us its hu hi => match us, its, hu, hi with | [_, _], [_], _, _ => ⟨_, rfl, rfl⟩)⟩
  f_gathered := by
    obtain ⟨fd, F⟩ := c.d 33
    exact ⟨_, fd, F, He.glo_ok X G (c.a 33 (f := .glo "gathered")), (FunD.bindsN F fun _ _ _ _ _ _ us hl => match us, hl with | [_, _], _ => rfl)⟩
  f_is_ascending := by
    obtain ⟨fd, F⟩ := c.d 34
    exact ⟨_, fd, F, He.glo_ok X G (c.a 34 (f := .glo "is_ascending")), (FunD.bindsN F fun _ _ _ _ _ _ us hl => match us, hl with | [_], _ => rfl)⟩
  f_is_group := by
    obtain ⟨fd, F⟩ := c.d 35
    exact ⟨_, fd, F, He.glo_ok X G (c.a 35 (f := .glo "is_group")), (FunD.bindsN F fun _ _ _ _ _ _ us hl => match us, hl with | [_, _], _ => rfl)⟩
  f_is_name := by
    obtain ⟨fd, F⟩ := c.d 36
    exact ⟨_, fd, F, He.glo_ok X G (c.a 36 (f := .glo "is_name")), (FunD.bindsN F fun _ _ _ _ _ _ us hl => match us, hl with | [_], _ => rfl)⟩
  f_is_whole := by
    obtain ⟨fd, F⟩ := c.d 37
    exact ⟨_, fd, F, He.glo_ok X G (c.a 37 (f := .glo "is_whole")), (FunD.bindsN F fun _ _ _ _ _ _ us hl => match us, hl with | [_], _ => rfl)⟩
  f_law := by
    obtain ⟨fd, F⟩ := c.d 38
    exact ⟨_, fd, F, He.glo_ok X G (c.a 38 (f := .glo "law")), (FunD.bindsN F fun _ _ _ _ _ _ us hl => match us, hl with | [_], _ => rfl)⟩
  f_matters := by
    obtain ⟨fd, F⟩ := c.d 39
    exact ⟨_, fd, F, He.glo_ok X G (c.a 39 (f := .glo "matters")), (by obtain ⟨ds, v, b⟩ := F.binds1 (ps := ["tree", "lot", "j"]) 3 1 (by simp) rfl fun _ _ _ _ _ _ _ us its hu hi => match us, its, hu, hi with | [_, _, _], [_], _, _ => ⟨_, rfl, rfl⟩; cases v; exact b), (F.binds1 2 0 (by simp) rfl fun _ _ _ _ _ _ _ us its hu hi => match us, its, hu, hi with | [_, _], [_], _, _ => ⟨_, rfl, rfl⟩)⟩
  f_swings := by
    obtain ⟨fd, F⟩ := c.d 40
    exact ⟨_, fd, F, He.glo_ok X G (c.a 40 (f := .glo "swings")), (FunD.bindsN F fun _ _ _ _ _ _ us hl => match us, hl with | [_, _, _, _], _ => rfl)⟩
  f_values_of := by
    obtain ⟨fd, F⟩ := c.d 41
    exact ⟨_, fd, F, He.glo_ok X G (c.a 41 (f := .glo "values_of")), (FunD.bindsN F fun _ _ _ _ _ _ us hl => match us, hl with | [_, _], _ => rfl)⟩
  c_Tree := He.glo_ok X G (c.a 42 (f := .glo "Tree"))
  i_Tree := ins_ok (c.x 0 (f := .ins "Tree"))
  c_Leaf := He.glo_ok X G (c.a 43 (f := .glo "Leaf"))
  i_Leaf := ins_ok (c.x 1 (f := .ins "Leaf"))
  m_Leaf___init__ := by
    obtain ⟨fd, F⟩ := c.d 42
    exact ⟨_, fd, F, He.cls_ok (c.a 44 (f := .cls "Leaf")), He.meth_ok (c.a 45 (f := .meth "Leaf" "__init__")), (FunD.bindsN F fun _ _ _ _ _ _ us hl => match us, hl with | [_, _], _ => rfl)⟩
  k_Leaf := mkc_ok (c.x 2 (f := .mk "Leaf"))
  m_Leaf_name := by
    obtain ⟨fd, F⟩ := c.d 43
    exact ⟨_, _, fd, F, He.cls_ok (c.a 44 (f := .cls "Leaf")), prop_ok (c.x 3 (f := .prop "Leaf" "name")), (FunD.bindsN F fun _ _ _ _ _ _ us hl => match us, hl with | [_], _ => rfl)⟩
  m_Leaf_width := by
    obtain ⟨fd, F⟩ := c.d 44
    exact ⟨_, _, fd, F, He.cls_ok (c.a 44 (f := .cls "Leaf")), prop_ok (c.x 4 (f := .prop "Leaf" "width")), (FunD.bindsN F fun _ _ _ _ _ _ us hl => match us, hl with | [_], _ => rfl)⟩
  m_Leaf___contains__ := by
    obtain ⟨fd, F⟩ := c.d 45
    exact ⟨_, fd, F, He.cls_ok (c.a 44 (f := .cls "Leaf")), He.meth_ok (c.a 46 (f := .meth "Leaf" "__contains__")), (FunD.bindsN F fun _ _ _ _ _ _ us hl => match us, hl with | [_, _], _ => rfl)⟩
  m_Leaf_names := by
    obtain ⟨fd, F⟩ := c.d 46
    exact ⟨_, fd, F, He.cls_ok (c.a 44 (f := .cls "Leaf")), He.meth_ok (c.a 47 (f := .meth "Leaf" "names")), (FunD.bindsN F fun _ _ _ _ _ _ us hl => match us, hl with | [_], _ => rfl)⟩
  m_Leaf_low_ends := by
    obtain ⟨fd, F⟩ := c.d 47
    exact ⟨_, fd, F, He.cls_ok (c.a 44 (f := .cls "Leaf")), He.meth_ok (c.a 48 (f := .meth "Leaf" "low_ends")), (FunD.bindsN F fun _ _ _ _ _ _ us hl => match us, hl with | [_, _], _ => rfl)⟩
  n_Leaf_label := He.noat_ok (c.a 49 (f := .noat "Leaf" "label"))
  c_Group := He.glo_ok X G (c.a 50 (f := .glo "Group"))
  i_Group := ins_ok (c.x 5 (f := .ins "Group"))
  m_Group___init__ := by
    obtain ⟨fd, F⟩ := c.d 48
    exact ⟨_, fd, F, He.cls_ok (c.a 51 (f := .cls "Group")), He.meth_ok (c.a 52 (f := .meth "Group" "__init__")), (FunD.bindsN F fun _ _ _ _ _ _ us hl => match us, hl with | [_, _, _], _ => rfl)⟩
  k_Group := mkc_ok (c.x 6 (f := .mk "Group"))
  m_Group_ranks := by
    obtain ⟨fd, F⟩ := c.d 49
    exact ⟨_, _, fd, F, He.cls_ok (c.a 51 (f := .cls "Group")), prop_ok (c.x 7 (f := .prop "Group" "ranks")), (FunD.bindsN F fun _ _ _ _ _ _ us hl => match us, hl with | [_], _ => rfl)⟩
  m_Group_parts := by
    obtain ⟨fd, F⟩ := c.d 50
    exact ⟨_, _, fd, F, He.cls_ok (c.a 51 (f := .cls "Group")), prop_ok (c.x 8 (f := .prop "Group" "parts")), (FunD.bindsN F fun _ _ _ _ _ _ us hl => match us, hl with | [_], _ => rfl)⟩
  m_Group_width := by
    obtain ⟨fd, F⟩ := c.d 51
    exact ⟨_, _, fd, F, He.cls_ok (c.a 51 (f := .cls "Group")), prop_ok (c.x 9 (f := .prop "Group" "width")), (FunD.bindsN F fun _ _ _ _ _ _ us hl => match us, hl with | [_], _ => rfl)⟩
  m_Group___contains__ := by
    obtain ⟨fd, F⟩ := c.d 52
    exact ⟨_, fd, F, He.cls_ok (c.a 51 (f := .cls "Group")), He.meth_ok (c.a 53 (f := .meth "Group" "__contains__")), (FunD.bindsN F fun _ _ _ _ _ _ us hl => match us, hl with | [_, _], _ => rfl)⟩
  m_Group_names := by
    obtain ⟨fd, F⟩ := c.d 53
    exact ⟨_, fd, F, He.cls_ok (c.a 51 (f := .cls "Group")), He.meth_ok (c.a 54 (f := .meth "Group" "names")), (FunD.bindsN F fun _ _ _ _ _ _ us hl => match us, hl with | [_], _ => rfl)⟩
  m_Group_low_ends := by
    obtain ⟨fd, F⟩ := c.d 54
    exact ⟨_, fd, F, He.cls_ok (c.a 51 (f := .cls "Group")), He.meth_ok (c.a 55 (f := .meth "Group" "low_ends")), (FunD.bindsN F fun _ _ _ _ _ _ us hl => match us, hl with | [_, _], _ => rfl)⟩
  n_Group_picks := He.noat_ok (c.a 56 (f := .noat "Group" "picks"))
  n_Group_rows := He.noat_ok (c.a 57 (f := .noat "Group" "rows"))
  n_Group_taken := He.noat_ok (c.a 58 (f := .noat "Group" "taken"))
  c_Lot := He.glo_ok X G (c.a 59 (f := .glo "Lot"))
  i_Lot := ins_ok (c.x 10 (f := .ins "Lot"))
  m_Lot___init__ := by
    obtain ⟨fd, F⟩ := c.d 55
    exact ⟨_, fd, F, He.cls_ok (c.a 60 (f := .cls "Lot")), He.meth_ok (c.a 61 (f := .meth "Lot" "__init__")), (by obtain ⟨ds, v, b⟩ := F.binds1 (ps := ["self", "pairs"]) 2 1 (by simp) rfl fun _ _ _ _ _ _ _ us its hu hi => match us, its, hu, hi with | [_, _], [_], _, _ => ⟨_, rfl, rfl⟩; cases v; exact b), (F.binds1 1 0 (by simp) rfl fun _ _ _ _ _ _ _ us its hu hi => match us, its, hu, hi with | [_], [_], _, _ => ⟨_, rfl, rfl⟩)⟩
  k_Lot := mkc_ok (c.x 11 (f := .mk "Lot"))
  t_Lot := item_ok (c.x 12 (f := .item "Lot" "__getitem__"))
  m_Lot___getitem__ := by
    obtain ⟨fd, F⟩ := c.d 56
    exact ⟨_, fd, F, He.cls_ok (c.a 60 (f := .cls "Lot")), He.meth_ok (c.a 62 (f := .meth "Lot" "__getitem__")), (FunD.bindsN F fun _ _ _ _ _ _ us hl => match us, hl with | [_, _], _ => rfl)⟩
  q_Lot := nosq_ok (c.x 13 (f := .nosq "Lot"))
  m_Lot___setitem__ := by
    obtain ⟨fd, F⟩ := c.d 57
    exact ⟨_, fd, F, He.cls_ok (c.a 60 (f := .cls "Lot")), He.meth_ok (c.a 63 (f := .meth "Lot" "__setitem__")), (FunD.bindsN F fun _ _ _ _ _ _ us hl => match us, hl with | [_, _, _], _ => rfl)⟩
  m_Lot___contains__ := by
    obtain ⟨fd, F⟩ := c.d 58
    exact ⟨_, fd, F, He.cls_ok (c.a 60 (f := .cls "Lot")), He.meth_ok (c.a 64 (f := .meth "Lot" "__contains__")), (FunD.bindsN F fun _ _ _ _ _ _ us hl => match us, hl with | [_, _], _ => rfl)⟩
  n_Lot_worths := He.noat_ok (c.a 65 (f := .noat "Lot" "worths"))
  kit_Leaf_Tree := kit_ok (c.x 14 (f := .kit "Leaf" "Tree" true))
  kit_Leaf_Leaf := kit_ok (c.x 15 (f := .kit "Leaf" "Leaf" true))
  kit_Leaf_Group := kit_ok (c.x 16 (f := .kit "Leaf" "Group" false))
  kit_Leaf_Lot := kit_ok (c.x 17 (f := .kit "Leaf" "Lot" false))
  kit_Group_Tree := kit_ok (c.x 18 (f := .kit "Group" "Tree" true))
  kit_Group_Leaf := kit_ok (c.x 19 (f := .kit "Group" "Leaf" false))
  kit_Group_Group := kit_ok (c.x 20 (f := .kit "Group" "Group" true))
  kit_Group_Lot := kit_ok (c.x 21 (f := .kit "Group" "Lot" false))
  kit_Lot_Tree := kit_ok (c.x 22 (f := .kit "Lot" "Tree" false))
  kit_Lot_Leaf := kit_ok (c.x 23 (f := .kit "Lot" "Leaf" false))
  kit_Lot_Group := kit_ok (c.x 24 (f := .kit "Lot" "Group" false))
  kit_Lot_Lot := kit_ok (c.x 25 (f := .kit "Lot" "Lot" true))
  b_len := He.free_ok X G (c.a 66 (f := .free "len"))
  b_sum := He.free_ok X G (c.a 67 (f := .free "sum"))
  b_min := He.free_ok X G (c.a 68 (f := .free "min"))
  b_max := He.free_ok X G (c.a 69 (f := .free "max"))
  b_sorted := He.free_ok X G (c.a 70 (f := .free "sorted"))
  b_isinstance := He.free_ok X G (c.a 71 (f := .free "isinstance"))
  b_int := He.free_ok X G (c.a 72 (f := .free "int"))
  b_list := He.free_ok X G (c.a 73 (f := .free "list"))
  b_tuple := He.free_ok X G (c.a 74 (f := .free "tuple"))
  b_str := He.free_ok X G (c.a 75 (f := .free "str"))
  b_bool := He.free_ok X G (c.a 76 (f := .free "bool"))
  b_set := He.free_ok X G (c.a 77 (f := .free "set"))
  b_range := He.free_ok X G (c.a 78 (f := .free "range"))
  b_enumerate := He.free_ok X G (c.a 79 (f := .free "enumerate"))
  b_dict := He.free_ok X G (c.a 80 (f := .free "dict"))
  g_ALPHABET := He.str_ok X G (c.a 81 (f := .str "ALPHABET" "abcdefghijklmnopqrstuvwxyz"))
  g_LOW := ⟨He.glo_ok X G (c.a 82 (f := .glo "LOW")), fun H => tupl_ok (c.x 26 (f := .tupl "LOW" [.int 0, .int 0])) H⟩
  g_HIGH := ⟨He.glo_ok X G (c.a 83 (f := .glo "HIGH")), fun H => tupl_ok (c.x 27 (f := .tupl "HIGH" [.int 2, .int 0])) H⟩
theorem law_facts {P : Program} {w : World} {K : PySem.W.Frag} {h : Heap} {mg : Str → Option Value} {f : Addr} (X : K.In h) (G : h.Ns mainGlobals mg) (hfa' : mg ("law" : Str) = some (.ref f)) (c : SaysX hfa hfx hds K) :
    ∃ fd : FuncData, (∀ (s : Shared) (v : Value), BindsTo s fd ⟨[v], []⟩ [("script", v)]) ∧ ∀ base : Heap, K.In base → base.Ns mainGlobals mg → FnOk P w K mg base CX0 160 f fd ["script"] (sp_law K) := by
  obtain ⟨f', fd', F', hm', b'⟩ := (top_ok X G c).f_law
  rw [hfa'] at hm'
  cases hm'
  have b := FunD.bindsA (ps := ["script"]) F' fun _ _ _ _ _ _ us hl => match us, hl with | [_], _ => rfl
  exact ⟨fd', fun s v => b s [v] rfl, fun base _ _ => ok_law (top_ok X G c) F'⟩
end LW
open PySem PySem.W PySem.Calls PyProof.Rows
theorem PySem.Challenge.cw_rankpicks_k75_whole_worths_come_in_holds : PySem.Challenge.rw_rankpicks_k75_whole_worths_come_in.Holds := by
  w_on; o_law
  refine HandSHeadRun.head_any (r := LW.hR) (q := view LW.hR.prog [65]) (H := LW.hHk) (ob := LW.hOb) (M := 9000) (loose := LW.hLoose) (d := HandSHeadRun.topDef LW.hR.prog 65) (kwd := []) LW.hOb_eq
    (by kernel_rfl) (fun s => by kernel_rfl) LW.hRun (by kernel_rfl) (by kernel_rfl) (by kernel_rfl) (by rfl) (by first | assumption | decide +kernel) (by decide +kernel) ⟨rfl, rfl, rfl, rfl, rfl, by decide +kernel⟩ ?hw ?hc
  case hw => w_witness2
  case hc =>
    refine L2.walk_ofE (l := PySem.Challenge.rw_rankpicks_k75_whole_worths_come_in) (n := 63) (k := 160) (x := "script") (CX := L2.CX0) rfl (by decide) (by kernel_rfl) ⟨rfl, by decide, by decide⟩ ?F (fun _ _ _ _ z => z)
    intro w mg fa h Y G hmg0
    obtain ⟨K, KX, c⟩ := Y
    have hmg : mg ("law" : PySem.Str) = some (.ref fa) := by
      have e : (HandSHeadRun.topDef LW.hR.prog 65).name = ("law" : PySem.Str) := by kernel_rfl
      rw [← e]; exact hmg0
    obtain ⟨fd, hb, hF⟩ := LW.law_facts (P := (PySem.Challenge.rw_rankpicks_k75_whole_worths_come_in).prog) (w := w) KX G hmg c
    exact ⟨K, fd, LW.sp_law K, KX, hb, fun H a ns hl _ hS => ⟨ns, hS, fun _ => rfl⟩, hF⟩
